import PyProof.Rows.All
import Wide.All
import OpenK.AllK
import Wide.FinOn
import HandS.ForMost
import HandS.Walk
import HandS.Zip
import HandS.WideBits
import HandS.IsInst
import HandS.SortKw
import HandS.TupMul
import HandS.TupAny
import HandS.Flow
import HandS.CallLocal
import HandS.Codes
import HandS.Dict
import KE.DataEq
import KE.DataMinMax
import KE.SortData
import KE.DataIsa
import PyProof.ReprReads
import HandS.Style
import KE.GoesEnum
import HandS.Strs
import HandS.SetFor
import HandS.Conv
import KE.DataCmp
import KE.KIndexOf
import KE.DataFind
import HandS.TupSets
import PySem.Challenge.RW_howmanymet_k93_whole_bridges_and_firm_we
set_option Elab.async false
set_option linter.all false
set_option maxRecDepth 100000
section
/-! HM core 0: data: none, bools, ints, texts, lists, tuples, dicts without entries -/
namespace HM
open PySem PySem.Spec PyProof.Rows L2
mutual
inductive Dp (K : PySem.W.Frag) (H : Hp) : V → PyData → Prop
  | non : Dp K H .non .none
  | bl (b : Bool) : Dp K H (.bl b) (.bool b)
  | int (i : Int) : Dp K H (.int i) (.int i)
  | str (x : Str) : Dp K H (.str x) (.str x)
  | lst {a : Addr} {xs : List V} {ds : List PyData} : SqL K H a xs → DpAll K H xs ds → Dp K H (.ref a) (.list ds)
  | tup {a : Addr} {xs : List V} {ds : List PyData} : SqT K H a xs → DpAll K H xs ds → Dp K H (.ref a) (.tuple ds)
  | dct {a : Addr} : H a = some (.dK []) → Dp K H (.ref a) (.dict [])
inductive DpAll (K : PySem.W.Frag) (H : Hp) : List V → List PyData → Prop
  | nil : DpAll K H [] []
  | cons {v : V} {vs : List V} {d : PyData} {ds : List PyData} : Dp K H v d → DpAll K H vs ds → DpAll K H (v :: vs) (d :: ds)
end
mutual
def NoL : PyData → Prop
  | .list _ => False
  | .tuple xs => NoLs xs
  | _ => True
def NoLs : List PyData → Prop
  | [] => True
  | x :: xs => NoL x ∧ NoLs xs
end
section
variable {X : Cx} {pins : List (Addr × Obj)} {σ : L2.St} {H : Hp} {s : Shared}
mutual
theorem Dp.reads (I : Inv X pins σ H s) : ∀ (d : PyData) (v : V) (u : Value), Dp X.K H v d → RelV v u → ∃ as, Reads s.heap u d as
  | .none, _, _, h, r => by
    cases h
    cases r
    exact ⟨_, Reads.none⟩
  | .bool b, _, _, h, r => by
    cases h
    cases r
    exact ⟨_, Reads.bool b⟩
  | .int i, _, _, h, r => by
    cases h
    obtain ⟨t, rfl⟩ := r
    exact ⟨_, Reads.int i t⟩
  | .str x, _, _, h, r => by
    cases h
    obtain ⟨t, rfl⟩ := r
    exact ⟨_, Reads.str x t⟩
  | .list ds, _, _, h, r => by
    cases h with
    | lst hs ha =>
      cases r
      obtain ⟨its, rv, ⟨o, n, ho, hc, _, hd⟩, _⟩ := I.list hs
      obtain ⟨as, hr⟩ := Dp.readsAll I ds _ its ha rv
      exact ⟨_, Reads.list ho hc hd hr⟩
  | .tuple ds, _, _, h, r => by
    cases h with
    | tup hs ha =>
      cases r
      obtain ⟨its, rv, ⟨o, ho, hc, n, hd⟩, _⟩ := I.tuple hs
      obtain ⟨as, hr⟩ := Dp.readsAll I ds _ its ha rv
      exact ⟨_, Reads.tuple ho hc hd hr⟩
  | .dict kvs, _, _, h, r => by
    cases h with
    | dct hs =>
      cases r
      obtain ⟨_, _, vs, kv, o, es, ep, ho, hx, hd, _, hp, _⟩ := I.hok _ _ hs
      cases kv
      have he : es.toList = [] := by
        cases q : es.toList with
        | nil => rfl
        | cons x xs => rw [q] at hp; cases hp
      refine ⟨_, Reads.dict (kvs := []) (as := []) (bs := []) ho ?_ hd ?_ ?_⟩
      · exact hx.1
      · rw [he]; exact ReadsAll.nil
      · rw [he]; exact ReadsAll.nil
theorem Dp.readsAll (I : Inv X pins σ H s) : ∀ (ds : List PyData) (vs : List V) (us : List Value), DpAll X.K H vs ds → Vals vs us → ∃ as, ReadsAll s.heap us ds as
  | [], _, _, h, r => by
    cases h
    cases r
    exact ⟨_, ReadsAll.nil⟩
  | d :: ds, _, _, h, r => by
    cases h with
    | cons h1 h2 =>
      cases r with
      | cons r1 r2 =>
        obtain ⟨as, q1⟩ := Dp.reads I d _ _ h1 r1
        obtain ⟨bs, q2⟩ := Dp.readsAll I ds _ _ h2 r2
        exact ⟨_, ReadsAll.cons q1 q2⟩
end
/-! without lists: no address of it is the table of modules -/
mutual
theorem Dp.readsN (I : Inv X pins σ H s) : ∀ (d : PyData) (v : V) (u : Value), NoL d → Dp X.K H v d → RelV v u → ∃ as, Reads s.heap u d as ∧ sysModules ∉ as
  | .none, _, _, _, h, r => by
    cases h
    cases r
    exact ⟨_, Reads.none, by simp⟩
  | .bool b, _, _, _, h, r => by
    cases h
    cases r
    exact ⟨_, Reads.bool b, by simp⟩
  | .int i, _, _, _, h, r => by
    cases h
    obtain ⟨t, rfl⟩ := r
    exact ⟨_, Reads.int i t, by simp⟩
  | .str x, _, _, _, h, r => by
    cases h
    obtain ⟨t, rfl⟩ := r
    exact ⟨_, Reads.str x t, by simp⟩
  | .list ds, _, _, n, _, _ => by simp [NoL] at n
  | .tuple ds, _, _, n, h, r => by
    cases h with
    | tup hs ha =>
      cases r
      obtain ⟨its, rv, ⟨o, ho, hc, n', hd⟩, _⟩ := I.tuple hs
      obtain ⟨as, hr, hn⟩ := Dp.readsAllN I ds _ its (by simpa only [NoL] using n) ha rv
      exact ⟨_, Reads.tuple ho hc hd hr, hn⟩
  | .dict kvs, _, _, _, h, r => by
    cases h with
    | @dct a hs =>
      cases r
      obtain ⟨_, hm, vs, kv, o, es, ep, ho, hx, hd, _, hp, _⟩ := I.hok _ _ hs
      cases kv
      have he : es.toList = [] := by
        cases q : es.toList with
        | nil => rfl
        | cons x xs => rw [q] at hp; cases hp
      refine ⟨_, Reads.dict (kvs := []) (as := []) (bs := []) ho ?_ hd ?_ ?_, ?_⟩
      · exact hx.1
      · rw [he]; exact ReadsAll.nil
      · rw [he]; exact ReadsAll.nil
      · have := beq_eq_false_iff_ne.mp hm
        simpa using fun e => this e.symm
theorem Dp.readsAllN (I : Inv X pins σ H s) : ∀ (ds : List PyData) (vs : List V) (us : List Value), NoLs ds → DpAll X.K H vs ds → Vals vs us → ∃ as, ReadsAll s.heap us ds as ∧ sysModules ∉ as
  | [], _, _, _, h, r => by
    cases h
    cases r
    exact ⟨_, ReadsAll.nil, by simp⟩
  | d :: ds, _, _, n, h, r => by
    cases h with
    | cons h1 h2 =>
      cases r with
      | cons r1 r2 =>
        simp only [NoLs] at n
        obtain ⟨as, q1, n1⟩ := Dp.readsN I d _ _ n.1 h1 r1
        obtain ⟨bs, q2, n2⟩ := Dp.readsAllN I ds _ _ n.2 h2 r2
        exact ⟨_, ReadsAll.cons q1 q2, by simp [n1, n2]⟩
end
end
end HM
end
section
/-! HM core 1: data, slots, the state relation, judgements over data -/
namespace HM
open PySem PySem.Spec PyProof.Rows L2

theorem sameT {K : PySem.W.Frag} {H H' : Hp} {a : Addr} {xs : List V} (e : Same H H') (h : SqT K H a xs) : SqT K H' a xs := by
  rcases h with (h | ⟨o, h⟩) | h
  · exact .inl (.inl (e _ _ h))
  · exact .inl (.inr ⟨o, e _ _ h⟩)
  · exact .inr h
mutual
theorem dpMono {K : PySem.W.Frag} {H H' : Hp} (e : Same H H') : ∀ {v : V} {d : PyData}, Dp K H v d → Dp K H' v d
  | _, _, .non => .non
  | _, _, .bl b => .bl b
  | _, _, .int i => .int i
  | _, _, .str x => .str x
  | _, _, .lst h a => .lst (e.seq h) (dpAllMono e a)
  | _, _, .tup h a => .tup (sameT e h) (dpAllMono e a)
  | _, _, .dct h => .dct (e _ _ h)
theorem dpAllMono {K : PySem.W.Frag} {H H' : Hp} (e : Same H H') : ∀ {vs : List V} {ds : List PyData}, DpAll K H vs ds → DpAll K H' vs ds
  | _, _, .nil => .nil
  | _, _, .cons a b => .cons (dpMono e a) (dpAllMono e b)
end
theorem dpAll_len {K : PySem.W.Frag} {H : Hp} : ∀ {vs : List V} {ds : List PyData}, DpAll K H vs ds → vs.length = ds.length
  | _, _, .nil => rfl
  | _, _, .cons _ b => by simp [dpAll_len b]
theorem dpAll_get {K : PySem.W.Frag} {H : Hp} : ∀ {vs : List V} {ds : List PyData} {i : Nat} {d : PyData}, DpAll K H vs ds → ds[i]? = some d → ∃ v, vs[i]? = some v ∧ Dp K H v d
  | _, _, _, _, .nil, h => by simp at h
  | _, _, 0, _, .cons a _, h => by simp at h; subst h; exact ⟨_, rfl, a⟩
  | _, _, i + 1, _, .cons _ b, h => by
    obtain ⟨v, e, r⟩ := dpAll_get (i := i) b (by simpa using h)
    exact ⟨v, by simpa using e, r⟩
theorem dpAll_get' {K : PySem.W.Frag} {H : Hp} : ∀ {vs : List V} {ds : List PyData} {i : Nat} {v : V}, DpAll K H vs ds → vs[i]? = some v → ∃ d, ds[i]? = some d ∧ Dp K H v d
  | _, _, _, _, .nil, h => by simp at h
  | _, _, 0, _, .cons a _, h => by simp at h; subst h; exact ⟨_, rfl, a⟩
  | _, _, i + 1, _, .cons _ b, h => by
    obtain ⟨v, e, r⟩ := dpAll_get' (i := i) b (by simpa using h)
    exact ⟨v, by simpa using e, r⟩
theorem dpAll_set {K : PySem.W.Frag} {H : Hp} {v : V} {d : PyData} (r : Dp K H v d) : ∀ {vs : List V} {ds : List PyData} (i : Nat), DpAll K H vs ds → DpAll K H (vs.set i v) (ds.set i d)
  | _, _, _, .nil => .nil
  | _, _, 0, .cons _ b => .cons r b
  | _, _, i + 1, .cons a b => .cons a (dpAll_set r i b)
theorem dpAll_app {K : PySem.W.Frag} {H : Hp} : ∀ {vs ws : List V} {ds es : List PyData}, DpAll K H vs ds → DpAll K H ws es → DpAll K H (vs ++ ws) (ds ++ es)
  | _, _, _, _, .nil, h => h
  | _, _, _, _, .cons a b, h => .cons a (dpAll_app b h)
theorem dpAll_drop {K : PySem.W.Frag} {H : Hp} : ∀ {vs : List V} {ds : List PyData} (n : Nat), DpAll K H vs ds → DpAll K H (vs.drop n) (ds.drop n)
  | _, _, 0, h => h
  | _, _, _ + 1, .nil => .nil
  | _, _, n + 1, .cons _ b => dpAll_drop n b
theorem dpAll_take {K : PySem.W.Frag} {H : Hp} : ∀ {vs : List V} {ds : List PyData} (n : Nat), DpAll K H vs ds → DpAll K H (vs.take n) (ds.take n)
  | _, _, 0, _ => .nil
  | _, _, _ + 1, .nil => .nil
  | _, _, n + 1, .cons a b => .cons a (dpAll_take n b)
theorem dpAll_rev {K : PySem.W.Frag} {H : Hp} : ∀ {vs : List V} {ds : List PyData}, DpAll K H vs ds → DpAll K H vs.reverse ds.reverse
  | _, _, .nil => .nil
  | _, _, .cons a b => by
    rw [List.reverse_cons, List.reverse_cons]
    exact dpAll_app (dpAll_rev b) (.cons a .nil)
theorem dpAll_ints {K : PySem.W.Frag} {H : Hp} : ∀ {vs : List V} {ns : List Int}, DpAll K H vs (ns.map .int) → vs = ns.map V.int
  | _, [], .nil => rfl
  | _, n :: ns, .cons a b => by
    cases a
    rw [List.map_cons, dpAll_ints b]
theorem dpAll_of_ints {K : PySem.W.Frag} {H : Hp} : ∀ ns : List Int, DpAll K H (ns.map V.int) (ns.map .int)
  | [] => .nil
  | n :: ns => .cons (.int n) (dpAll_of_ints ns)
theorem dpAll_bls {K : PySem.W.Frag} {H : Hp} : ∀ {vs : List V} {ns : List Bool}, DpAll K H vs (ns.map .bool) → vs = ns.map V.bl
  | _, [], .nil => rfl
  | _, n :: ns, .cons a b => by
    cases a
    rw [List.map_cons, dpAll_bls b]

/-! ### the pot: a list of two ints -/
/-- a list of two ints: the first from 0 on (of at most 2^20 bits), the second from 0 on, small -/
def PotOk (a b : Int) : Prop := 0 ≤ a ∧ 0 ≤ b ∧ b < 4294967296
def PotF (p : Addr) : Heap → Prop := fun h => ∃ (a b : Int) (t u : Tok) (n : Nat), PotOk a b ∧ h.get? p = some { cls := .type "list", data := .seq [Value.int a t, Value.int b u].toArray n }

/-! ### values over data -/
/-- d: data; t: data that is read now (an open list of a slot, a parameter of a caller's); pot; any value as it is (a def, a class) -/
inductive Dv where
  | d (x : PyData) | t (x : PyData) | pot | raw (v : V) | row (vs : List V) | z (ds : List PyData)
def DV (K : PySem.W.Frag) (B H : Hp) : Dv → V → Prop
  | .d x, v => Dp K B v x
  | .t x, v => Dp K H v x
  | .pot, v => ∃ a, v = .ref a ∧ B a = some (.ext (PotF a))
  | .raw w, v => v = w
  | .row ws, v => ∃ a, v = .ref a ∧ B a = some (.tup ws)
  | .z ds, v => ∃ a o vs, v = .ref a ∧ B a = some (.frz o (.tup vs)) ∧ o.dict = none ∧ DpAll K B vs ds
theorem DV.mono {K : PySem.W.Frag} {B H B' H' : Hp} (e : Same B B') (f : Same H H') : ∀ {x : Dv} {v : V}, DV K B H x v → DV K B' H' x v
  | .d _, _, h => dpMono e h
  | .t _, _, h => dpMono f h
  | .pot, _, ⟨a, e1, e2⟩ => ⟨a, e1, e _ _ e2⟩
  | .raw _, _, h => h
  | .row _, _, ⟨a, e1, e2⟩ => ⟨a, e1, e _ _ e2⟩
  | .z _, _, ⟨a, o, vs, e1, e2, e3, e4⟩ => ⟨a, o, vs, e1, e _ _ e2, e3, dpAllMono e e4⟩
abbrev DVs (K : PySem.W.Frag) (B H : Hp) : List Dv → List V → Prop := Paired (DV K B H)
theorem DVs.mono {K : PySem.W.Frag} {B H B' H' : Hp} (e : Same B B') (f : Same H H') : ∀ {xs : List Dv} {vs : List V}, DVs K B H xs vs → DVs K B' H' xs vs
  | _, _, .nil => .nil
  | _, _, .cons a b => .cons (a.mono e f) (DVs.mono e f b)

/-- a step: B is the part of H that stays for good -/
structure Stp (B H B' H' : Hp) : Prop where
  bb : Same B B'
  hh : Same H H'
  bh : Same B' H'
  fr : ∀ p, B p = none → H p ≠ none → B' p = none
theorem Stp.refl {B H : Hp} (e : Same B H) : Stp B H B H := ⟨Same.refl _, Same.refl _, e, fun _ h _ => h⟩
theorem Stp.trans {B H B1 H1 B2 H2 : Hp} (a : Stp B H B1 H1) (b : Stp B1 H1 B2 H2) : Stp B H B2 H2 :=
  ⟨a.bb.trans b.bb, a.hh.trans b.hh, b.bh, fun p h1 h2 => b.fr p (a.fr p h1 h2) (fun z => h2 (a.hh.free z))⟩
theorem same_upd {H : Hp} {p : Addr} {o : HO} (h : H p = none) : Same H (upd H p o) := fun b x e => by
  rw [upd_ne (ne_of_none e h)]
  exact e
/-- a new object, in both -/
theorem Stp.new {B H : Hp} {p : Addr} {o : HO} (e : Same B H) (h : H p = none) : Stp B H (upd B p o) (upd H p o) := by
  have hb : B p = none := e.free h
  refine ⟨same_upd hb, same_upd h, fun b x q => ?_, fun q h1 h2 => ?_⟩
  · by_cases z : b = p
    · subst z; rw [upd_same] at q ⊢; exact q
    · rw [upd_ne z] at q ⊢; exact e _ _ q
  · rw [upd_ne (fun z => h2 (by rw [z]; exact h))]; exact h1
/-- a new object, in the heap alone -/
theorem Stp.open {B H : Hp} {p : Addr} {o : HO} (e : Same B H) (h : H p = none) : Stp B H B (upd H p o) :=
  ⟨Same.refl _, same_upd h, e.trans (same_upd h), fun _ h1 _ => h1⟩
/-- an open list is shut -/
theorem Stp.shut {B H B1 H1 : Hp} {p : Addr} {o : HO} (e : Stp B H B1 H1) (h0 : H p = none) (h1 : B1 p = none) (h2 : H1 p = some o) : Stp B H (upd B1 p o) H1 := by
  refine ⟨e.bb.trans (same_upd h1), e.hh, fun b x q => ?_, fun q a1 a2 => ?_⟩
  · by_cases z : b = p
    · subst z; rw [upd_same] at q; rw [← q]; exact h2
    · rw [upd_ne z] at q; exact e.bh _ _ q
  · rw [upd_ne (fun z => a2 (by rw [z]; exact h0))]; exact e.fr q a1 a2

/-! ### slots -/
/-- no: not yet, or forgotten; im: a value; mu: a list of the def's own that is still written -/
inductive Sl where
  | no | im (x : Dv) | mu (xs : List PyData)
def SlV (K : PySem.W.Frag) (H0 B H : Hp) : Sl → Option V → Prop
  | .no, _ => True
  | .im x, ov => ∃ v, ov = some v ∧ DV K B H0 x v
  | .mu xs, ov => ∃ p vs, ov = some (.ref p) ∧ B p = none ∧ H0 p = none ∧ H p = some (.lst vs) ∧ DpAll K B vs xs
structure Ok (K : PySem.W.Frag) (B0 H0 B : Hp) (es : List Sl) (σ : L2.St) (H : Hp) : Prop where
  st : Stp B0 H0 B H
  len : es.length = σ.length
  sl : ∀ (i : Nat) s, es[i]? = some s → ∃ ov, σ[i]? = some ov ∧ SlV K H0 B H s ov
  ne : ∀ (i j : Nat) (xs ys : List PyData) p q, i ≠ j → es[i]? = some (.mu xs) → es[j]? = some (.mu ys) → σ[i]? = some (some (.ref p)) → σ[j]? = some (some (.ref q)) → p ≠ q
section
variable {K : PySem.W.Frag} {B0 H0 B H B' H' : Hp} {es : List Sl} {σ : L2.St}
theorem SlV.mono (f : Stp B H B' H') : ∀ {s : Sl} {ov : Option V}, SlV K H0 B H s ov → SlV K H0 B' H' s ov
  | .no, _, _ => trivial
  | .im _, _, ⟨v, e, h⟩ => ⟨v, e, h.mono f.bb (Same.refl _)⟩
  | .mu _, _, ⟨p, vs, e, hb, h0, hp, ha⟩ => ⟨p, vs, e, f.fr p hb (by rw [hp]; exact fun z => nomatch z), h0, f.hh _ _ hp, dpAllMono f.bb ha⟩
theorem Ok.mono (o : Ok K B0 H0 B es σ H) (f : Stp B H B' H') : Ok K B0 H0 B' es σ H' :=
  ⟨o.st.trans f, o.len, fun i s e => let ⟨ov, e1, h⟩ := o.sl i s e; ⟨ov, e1, h.mono f⟩, o.ne⟩
theorem Ok.bh (o : Ok K B0 H0 B es σ H) : Same B H := o.st.bh
theorem Ok.at (o : Ok K B0 H0 B es σ H) {i : Nat} {x : Dv} (e : es[i]? = some (.im x)) : ∃ v, σ[i]? = some (some v) ∧ DV K B H x v := by
  obtain ⟨ov, e1, v, rfl, h⟩ := o.sl i _ e
  exact ⟨v, e1, h.mono (Same.refl _) o.st.hh⟩
theorem Ok.mu (o : Ok K B0 H0 B es σ H) {i : Nat} {xs : List PyData} (e : es[i]? = some (.mu xs)) : ∃ p vs, σ[i]? = some (some (.ref p)) ∧ B p = none ∧ H0 p = none ∧ H p = some (.lst vs) ∧ DpAll K B vs xs := by
  obtain ⟨ov, e1, p, vs, rfl, h⟩ := o.sl i _ e
  exact ⟨p, vs, e1, h⟩
theorem set_get {α : Type} {l : List α} {i j : Nat} {a b : α} (h : (l.set i a)[j]? = some b) : (j = i ∧ b = a ∧ i < l.length) ∨ (j ≠ i ∧ l[j]? = some b) := by
  by_cases z : j = i
  · subst z
    have hl : j < l.length := by
      have := (List.getElem?_eq_some_iff.mp h).1
      simpa using this
    rw [List.getElem?_set_self hl] at h
    exact .inl ⟨rfl, (Option.some.inj h).symm, hl⟩
  · rw [List.getElem?_set_ne (Ne.symm z)] at h
    exact .inr ⟨z, h⟩
/-- a slot takes a value -/
theorem Ok.set (o : Ok K B0 H0 B es σ H) (i : Nat) {x : Dv} {v : V} (h : DV K B H0 x v) : Ok K B0 H0 B (es.set i (.im x)) (σ.set i (some v)) H := by
  refine ⟨o.st, by rw [List.length_set, List.length_set, o.len], fun j s e => ?_, fun j k xs ys p q hjk e1 e2 e3 e4 => ?_⟩
  · rcases set_get e with ⟨rfl, rfl, hl⟩ | ⟨hne, e⟩
    · exact ⟨some v, List.getElem?_set_self (by rw [← o.len]; exact hl), v, rfl, h⟩
    · obtain ⟨ov, e1, h1⟩ := o.sl j s e
      exact ⟨ov, by rw [List.getElem?_set_ne (Ne.symm hne)]; exact e1, h1⟩
  · rcases set_get e1 with ⟨rfl, z, _⟩ | ⟨n1, e1⟩
    · cases z
    · rcases set_get e2 with ⟨rfl, z, _⟩ | ⟨n2, e2⟩
      · cases z
      · rw [List.getElem?_set_ne (Ne.symm n1)] at e3
        rw [List.getElem?_set_ne (Ne.symm n2)] at e4
        exact o.ne j k xs ys p q hjk e1 e2 e3 e4
/-- a slot is forgotten -/
theorem Ok.wipe (o : Ok K B0 H0 B es σ H) (i : Nat) (ov : Option V) : Ok K B0 H0 B (es.set i .no) (σ.set i ov) H := by
  refine ⟨o.st, by rw [List.length_set, List.length_set, o.len], fun j s e => ?_, fun j k xs ys p q hjk e1 e2 e3 e4 => ?_⟩
  · rcases set_get e with ⟨rfl, rfl, hl⟩ | ⟨hne, e⟩
    · exact ⟨ov, List.getElem?_set_self (by rw [← o.len]; exact hl), trivial⟩
    · obtain ⟨ov, e1, h1⟩ := o.sl j s e
      exact ⟨ov, by rw [List.getElem?_set_ne (Ne.symm hne)]; exact e1, h1⟩
  · rcases set_get e1 with ⟨rfl, z, _⟩ | ⟨n1, e1⟩
    · cases z
    · rcases set_get e2 with ⟨rfl, z, _⟩ | ⟨n2, e2⟩
      · cases z
      · rw [List.getElem?_set_ne (Ne.symm n1)] at e3
        rw [List.getElem?_set_ne (Ne.symm n2)] at e4
        exact o.ne j k xs ys p q hjk e1 e2 e3 e4
/-- a slot takes an open list that is new -/
theorem Ok.setMu (o : Ok K B0 H0 B es σ H) (i : Nat) {p : Addr} {vs : List V} {xs : List PyData} (hn : ∀ (j : Nat) ys, es[j]? = some (.mu ys) → σ[j]? ≠ some (some (.ref p))) (hb : B p = none) (h0 : H0 p = none) (hp : H p = some (.lst vs)) (ha : DpAll K B vs xs) :
    Ok K B0 H0 B (es.set i (.mu xs)) (σ.set i (some (.ref p))) H := by
  refine ⟨o.st, by rw [List.length_set, List.length_set, o.len], fun j s e => ?_, fun j k xs' ys p' q hjk e1 e2 e3 e4 => ?_⟩
  · rcases set_get e with ⟨rfl, rfl, hl⟩ | ⟨hne, e⟩
    · exact ⟨_, List.getElem?_set_self (by rw [← o.len]; exact hl), p, vs, rfl, hb, h0, hp, ha⟩
    · obtain ⟨ov, e1, h1⟩ := o.sl j s e
      exact ⟨ov, by rw [List.getElem?_set_ne (Ne.symm hne)]; exact e1, h1⟩
  · rcases set_get e1 with ⟨r1, z, hl⟩ | ⟨n1, f1⟩
    · rcases set_get e2 with ⟨r2, _, _⟩ | ⟨n2, f2⟩
      · exact absurd (r1.trans r2.symm) hjk
      · rw [r1, List.getElem?_set_self (by rw [← o.len]; exact hl)] at e3
        rw [List.getElem?_set_ne (Ne.symm n2)] at e4
        intro w
        subst w
        cases e3
        exact hn k ys f2 e4
    · rcases set_get e2 with ⟨r2, _, hl⟩ | ⟨n2, f2⟩
      · rw [r2, List.getElem?_set_self (by rw [← o.len]; exact hl)] at e4
        rw [List.getElem?_set_ne (Ne.symm n1)] at e3
        intro w
        subst w
        cases e4
        exact hn j xs' f1 e3
      · rw [List.getElem?_set_ne (Ne.symm n1)] at e3
        rw [List.getElem?_set_ne (Ne.symm n2)] at e4
        exact o.ne j k xs' ys p' q hjk f1 f2 e3 e4
/-- an open list is written -/
theorem Ok.write (o : Ok K B0 H0 B es σ H) {i : Nat} {p : Addr} {xs xs' : List PyData} {vs' : List V} (e : es[i]? = some (.mu xs)) (es' : σ[i]? = some (some (.ref p))) (ha : DpAll K B vs' xs') :
    Ok K B0 H0 B (es.set i (.mu xs')) σ (upd H p (.lst vs')) := by
  obtain ⟨p', vs, e1, hb, h0, hp, _⟩ := o.mu e
  rw [es'] at e1
  cases e1
  have hl : i < es.length := (List.getElem?_eq_some_iff.mp e).1
  refine ⟨⟨o.st.bb, fun b x q => ?_, fun b x q => ?_, o.st.fr⟩, by rw [List.length_set, o.len], fun j s ej => ?_, fun j k xs1 ys p' q hjk e1 e2 e3 e4 => ?_⟩
  · rw [upd_ne (ne_of_none q h0)]; exact o.st.hh _ _ q
  · rw [upd_ne (ne_of_none q hb)]; exact o.st.bh _ _ q
  · rcases set_get ej with ⟨rfl, rfl, _⟩ | ⟨hne, ej⟩
    · exact ⟨_, es', p, vs', rfl, hb, h0, upd_same, ha⟩
    · obtain ⟨ov, e1, h1⟩ := o.sl j s ej
      refine ⟨ov, e1, ?_⟩
      cases s with
      | no => trivial
      | im x => exact h1
      | mu ys =>
        obtain ⟨q, ws, rfl, b1, b2, b3, b4⟩ := h1
        refine ⟨q, ws, rfl, b1, b2, ?_, b4⟩
        rw [upd_ne (Ne.symm (o.ne i j xs ys p q (Ne.symm hne) e ej es' e1))]
        exact b3
  · have get1 : ∀ {j : Nat} {zs : List PyData}, (es.set i (.mu xs'))[j]? = some (.mu zs) → ∃ zs', es[j]? = some (.mu zs') := fun {j zs} h => by
      rcases set_get h with ⟨rfl, _, _⟩ | ⟨_, h⟩
      · exact ⟨_, e⟩
      · exact ⟨_, h⟩
    obtain ⟨_, f1⟩ := get1 e1
    obtain ⟨_, f2⟩ := get1 e2
    exact o.ne j k _ _ p' q hjk f1 f2 e3 e4
/-- an open list is shut: data from now on -/
theorem Ok.shut (o : Ok K B0 H0 B es σ H) {i : Nat} {xs : List PyData} (e : es[i]? = some (.mu xs)) : ∃ B', Same B B' ∧ Ok K B0 H0 B' (es.set i (.im (.d (.list xs)))) σ H := by
  obtain ⟨p, vs, e1, hb, h0, hp, ha⟩ := o.mu e
  refine ⟨upd B p (.lst vs), same_upd hb, o.st.shut h0 hb hp, by rw [List.length_set, o.len], fun j s ej => ?_, fun j k xs1 ys p' q hjk e1 e2 e3 e4 => ?_⟩
  · have sb : Same B (upd B p (.lst vs)) := same_upd hb
    rcases set_get ej with ⟨rfl, rfl, _⟩ | ⟨hne, ej⟩
    · exact ⟨_, e1, _, rfl, Dp.lst (SqL.of upd_same) (dpAllMono sb ha)⟩
    · obtain ⟨ov, f1, h1⟩ := o.sl j s ej
      refine ⟨ov, f1, ?_⟩
      cases s with
      | no => trivial
      | im x =>
        obtain ⟨v, rfl, h1⟩ := h1
        exact ⟨v, rfl, h1.mono sb (Same.refl _)⟩
      | mu ys =>
        obtain ⟨q, ws, rfl, b1, b2, b3, b4⟩ := h1
        refine ⟨q, ws, rfl, ?_, b2, b3, dpAllMono sb b4⟩
        rw [upd_ne (Ne.symm (o.ne i j xs ys p q (Ne.symm hne) e ej e1 f1))]
        exact b1
  · have get1 : ∀ {j : Nat} {zs : List PyData}, (es.set i (.im (.d (.list xs))))[j]? = some (.mu zs) → es[j]? = some (.mu zs) := fun {j zs} h => by
      rcases set_get h with ⟨_, z, _⟩ | ⟨_, h⟩
      · cases z
      · exact h
    exact o.ne j k _ _ p' q hjk (get1 e1) (get1 e2) e3 e4
end
end HM
end
section
/-! HM core 2: judgements over data, expressions -/
namespace HM
open PySem PySem.Spec PyProof.Rows L2

section
variable (K : PySem.W.Frag)
/-- an expression's reading comes to a value of P -/
def Ev (te : TE) (es : List Sl) (P : Dv → Prop) : Prop := ∀ (B0 H0 B : Hp) (σ : L2.St) (H : Hp), Ok K B0 H0 B es σ H → ∀ Q : VK,
  (∀ x v B2 H2, P x → Stp B H B2 H2 → DV K B2 H2 x v → Q v H2) → te σ H Q
/-- .. to a new list -/
def EvL (te : TE) (es : List Sl) (P : List PyData → Prop) : Prop := ∀ (B0 H0 B : Hp) (σ : L2.St) (H : Hp), Ok K B0 H0 B es σ H → ∀ Q : VK,
  (∀ xs p vs B2 H2, P xs → Stp B H B2 H2 → H p = none → B2 p = none → H2 p = some (.lst vs) → DpAll K B2 vs xs → Q (.ref p) H2) → te σ H Q
def EvA (ta : TA) (es : List Sl) (P : List Dv → Prop) : Prop := ∀ (B0 H0 B : Hp) (σ : L2.St) (H : Hp), Ok K B0 H0 B es σ H → ∀ Q : List V → Hp → Prop,
  (∀ xs vs B2 H2, P xs → Stp B H B2 H2 → DVs K B2 H2 xs vs → Q vs H2) → ta σ H Q
def EvT (tt : TT) (es : List Sl) (P : Bool → Prop) : Prop := ∀ (B0 H0 B : Hp) (σ : L2.St) (H : Hp), Ok K B0 H0 B es σ H → ∀ Q : Bool → Hp → Prop,
  (∀ b B2 H2, P b → Stp B H B2 H2 → Q b H2) → tt σ H Q
def EvO (to : TO) (es : List Sl) (P : Option Int → Prop) : Prop := ∀ (B0 H0 B : Hp) (σ : L2.St) (H : Hp), Ok K B0 H0 B es σ H → ∀ Q : Option Int → Hp → Prop,
  (∀ o B2 H2, P o → Stp B H B2 H2 → Q o H2) → to σ H Q
/-- an operation, by values -/
def Rv (r : R2) (x y : Dv) (P : Dv → Prop) : Prop := ∀ (B H : Hp) (v w : V), Same B H → DV K B H x v → DV K B H y w → ∀ Q : VK,
  (∀ z u B2 H2, P z → Stp B H B2 H2 → DV K B2 H2 z u → Q u H2) → r v w H Q
def RvL (r : R2) (x y : Dv) (P : List PyData → Prop) : Prop := ∀ (B H : Hp) (v w : V), Same B H → DV K B H x v → DV K B H y w → ∀ Q : VK,
  (∀ xs p vs B2 H2, P xs → Stp B H B2 H2 → H p = none → B2 p = none → H2 p = some (.lst vs) → DpAll K B2 vs xs → Q (.ref p) H2) → r v w H Q
/-- a call, by values -/
def Rc (r : List V → Hp → VK → Prop) (xs : List Dv) (P : Dv → Prop) : Prop := ∀ (B H : Hp) (vs : List V), Same B H → DVs K B H xs vs → ∀ Q : VK,
  (∀ z u B2 H2, P z → Stp B H B2 H2 → DV K B2 H2 z u → Q u H2) → r vs H Q
def RcL (r : List V → Hp → VK → Prop) (xs : List Dv) (P : List PyData → Prop) : Prop := ∀ (B H : Hp) (vs : List V), Same B H → DVs K B H xs vs → ∀ Q : VK,
  (∀ ys p ws B2 H2, P ys → Stp B H B2 H2 → H p = none → B2 p = none → H2 p = some (.lst ws) → DpAll K B2 ws ys → Q (.ref p) H2) → r vs H Q
/-- promises: from arguments of Pre to a value of Post; to a new list of Post -/
def spG (Pre : List Dv → Prop) (Post : List Dv → Dv → Prop) : Sp := fun vs H Q _ => ∃ B xs, Same B H ∧ DVs K B H xs vs ∧ Pre xs ∧ ∀ z u B2 H2, Post xs z → Stp B H B2 H2 → DV K B2 H2 z u → Q u H2
def spL (Pre : List Dv → Prop) (Post : List Dv → List PyData → Prop) : Sp := fun vs H Q _ => ∃ B xs, Same B H ∧ DVs K B H xs vs ∧ Pre xs ∧
  ∀ ys p ws B2 H2, Post xs ys → Stp B H B2 H2 → H p = none → B2 p = none → H2 p = some (.lst ws) → DpAll K B2 ws ys → Q (.ref p) H2
end

section
variable {K : PySem.W.Frag} {es : List Sl} {te ta tb tc : TE} {P P' Pa Pb : Dv → Prop} {x y z : Dv}
theorem Ev.imp (h : Ev K te es P) (k : ∀ x, P x → P' x) : Ev K te es P' := fun B0 H0 B σ H o Q q => h B0 H0 B σ H o Q fun x v B2 H2 p => q x v B2 H2 (k x p)
theorem EvL.imp {P P' : List PyData → Prop} (h : EvL K te es P) (k : ∀ x, P x → P' x) : EvL K te es P' := fun B0 H0 B σ H o Q q => h B0 H0 B σ H o Q fun x p vs B2 H2 hp => q x p vs B2 H2 (k x hp)
theorem EvT.imp {tt : TT} {P P' : Bool → Prop} (h : EvT K tt es P) (k : ∀ x, P x → P' x) : EvT K tt es P' := fun B0 H0 B σ H o Q q => h B0 H0 B σ H o Q fun x B2 H2 hp => q x B2 H2 (k x hp)
/-- a new list as data -/
theorem EvL.ev {P : List PyData → Prop} (h : EvL K te es P) : Ev K te es (fun x => ∃ xs, x = .d (.list xs) ∧ P xs) := fun B0 H0 B σ H o Q q =>
  h B0 H0 B σ H o Q fun xs p vs B2 H2 hP st h0 hb hp ha => q (.d (.list xs)) (.ref p) (upd B2 p (.lst vs)) H2 ⟨xs, rfl, hP⟩ (st.shut h0 hb hp) (Dp.lst (SqL.of upd_same) (dpAllMono (same_upd hb) ha))
theorem EvL.evd {xs : List PyData} (h : EvL K te es (· = xs)) : Ev K te es (· = .d (.list xs)) := h.ev.imp fun _ ⟨_, e, e'⟩ => by rw [e, e']
theorem ev_var {i : Nat} (e : es[i]? = some (.im x)) : Ev K (tVar i) es (· = x) := fun B0 H0 B σ H o Q q => by
  obtain ⟨v, e1, h⟩ := o.at e
  exact ⟨v, e1, q x v B H rfl (Stp.refl o.bh) h⟩
/-- an open list of a slot, as it stands -/
theorem ev_mu {i : Nat} {xs : List PyData} (e : es[i]? = some (.mu xs)) : Ev K (tVar i) es (· = .t (.list xs)) := fun B0 H0 B σ H o Q q => by
  obtain ⟨p, vs, e1, hb, h0, hp, ha⟩ := o.mu e
  exact ⟨_, e1, q (.t (.list xs)) _ B H rfl (Stp.refl o.bh) (Dp.lst (SqL.of hp) (dpAllMono o.bh ha))⟩
theorem ev_int {n : Int} : Ev K (tC (.int n)) es (· = .d (.int n)) := fun B0 H0 B σ H o Q q => q _ _ B H rfl (Stp.refl o.bh) (.int n)
theorem ev_bl {b : Bool} : Ev K (tC (.bl b)) es (· = .d (.bool b)) := fun B0 H0 B σ H o Q q => q _ _ B H rfl (Stp.refl o.bh) (.bl b)
theorem ev_non : Ev K (tC .non) es (· = .d .none) := fun B0 H0 B σ H o Q q => q _ _ B H rfl (Stp.refl o.bh) .non
theorem ev_str {w : Str} : Ev K (tC (.str w)) es (· = .d (.str w)) := fun B0 H0 B σ H o Q q => q _ _ B H rfl (Stp.refl o.bh) (.str w)
theorem ev_raw {v : V} : Ev K (tC v) es (· = .raw v) := fun B0 H0 B σ H o Q q => q _ _ B H rfl (Stp.refl o.bh) rfl
theorem ev_op {r : R2} (ha : Ev K ta es Pa) (hb : Ev K tb es Pb) (hr : ∀ x y, Pa x → Pb y → Rv K r x y P) : Ev K (tOp r ta tb) es P := fun B0 H0 B σ H o Q q =>
  ha B0 H0 B σ H o _ fun x v B1 H1 px s1 d1 => hb B0 H0 B1 σ H1 (o.mono s1) _ fun y w B2 H2 py s2 d2 =>
    hr x y px py B2 H2 v w s2.bh (d1.mono s2.bb s2.hh) d2 Q fun z u B3 H3 pz s3 d3 => q z u B3 H3 pz (s1.trans (s2.trans s3)) d3
theorem ev_opd {r : R2} (ha : Ev K ta es (· = x)) (hb : Ev K tb es (· = y)) (hr : Rv K r x y P) : Ev K (tOp r ta tb) es P := ev_op ha hb fun _ _ e1 e2 => by rw [e1, e2]; exact hr
theorem ev_opL {r : R2} {P : List PyData → Prop} (ha : Ev K ta es Pa) (hb : Ev K tb es Pb) (hr : ∀ x y, Pa x → Pb y → RvL K r x y P) : EvL K (tOp r ta tb) es P := fun B0 H0 B σ H o Q q =>
  ha B0 H0 B σ H o _ fun x v B1 H1 px s1 d1 => hb B0 H0 B1 σ H1 (o.mono s1) _ fun y w B2 H2 py s2 d2 =>
    hr x y px py B2 H2 v w s2.bh (d1.mono s2.bb s2.hh) d2 Q fun z p u B3 H3 pz s3 h0 => q z p u B3 H3 pz (s1.trans (s2.trans s3)) (s1.hh.free (s2.hh.free h0))
theorem ev_opLd {r : R2} {P : List PyData → Prop} (ha : Ev K ta es (· = x)) (hb : Ev K tb es (· = y)) (hr : RvL K r x y P) : EvL K (tOp r ta tb) es P := ev_opL ha hb fun _ _ e1 e2 => by rw [e1, e2]; exact hr
theorem ea_nil : EvA K tNil es (· = []) := fun B0 H0 B σ H o Q q => q [] [] B H rfl (Stp.refl o.bh) .nil
theorem ea_cons {t : TA} {Pt : List Dv → Prop} (h : Ev K te es P) (ht : EvA K t es Pt) : EvA K (tCons te t) es (fun l => ∃ x xs, l = x :: xs ∧ P x ∧ Pt xs) := fun B0 H0 B σ H o Q q =>
  h B0 H0 B σ H o _ fun x v B1 H1 px s1 d1 => ht B0 H0 B1 σ H1 (o.mono s1) _ fun xs vs B2 H2 pxs s2 d2 => q (x :: xs) (v :: vs) B2 H2 ⟨x, xs, rfl, px, pxs⟩ (s1.trans s2) (.cons (d1.mono s2.bb s2.hh) d2)
theorem ea_consd {t : TA} {xs : List Dv} (h : Ev K te es (· = x)) (ht : EvA K t es (· = xs)) : EvA K (tCons te t) es (· = x :: xs) := fun B0 H0 B σ H o Q q =>
  ea_cons h ht B0 H0 B σ H o Q fun l vs B2 H2 ⟨y, ys, e, e1, e2⟩ => q l vs B2 H2 (by rw [e, e1, e2])
theorem EvA.imp {t : TA} {P P' : List Dv → Prop} (h : EvA K t es P) (k : ∀ x, P x → P' x) : EvA K t es P' := fun B0 H0 B σ H o Q q => h B0 H0 B σ H o Q fun x vs B2 H2 hp => q x vs B2 H2 (k x hp)
theorem ev_cb {r : List V → Hp → VK → Prop} {t : TA} {Pt : List Dv → Prop} (ht : EvA K t es Pt) (hr : ∀ xs, Pt xs → Rc K r xs P) : Ev K (tCB r t) es P := fun B0 H0 B σ H o Q q =>
  ht B0 H0 B σ H o _ fun xs vs B1 H1 px s1 d1 => hr xs px B1 H1 vs s1.bh d1 Q fun z u B2 H2 pz s2 d2 => q z u B2 H2 pz (s1.trans s2) d2
theorem ev_cbd {r : List V → Hp → VK → Prop} {t : TA} {xs : List Dv} (ht : EvA K t es (· = xs)) (hr : Rc K r xs P) : Ev K (tCB r t) es P := ev_cb ht fun _ e => by rw [e]; exact hr
theorem ev_cbL {r : List V → Hp → VK → Prop} {t : TA} {Pt : List Dv → Prop} {P : List PyData → Prop} (ht : EvA K t es Pt) (hr : ∀ xs, Pt xs → RcL K r xs P) : EvL K (tCB r t) es P := fun B0 H0 B σ H o Q q =>
  ht B0 H0 B σ H o _ fun xs vs B1 H1 px s1 d1 => hr xs px B1 H1 vs s1.bh d1 Q fun z p u B2 H2 pz s2 h0 => q z p u B2 H2 pz (s1.trans s2) (s1.hh.free h0)
theorem ev_cbLd {r : List V → Hp → VK → Prop} {t : TA} {xs : List Dv} {P : List PyData → Prop} (ht : EvA K t es (· = xs)) (hr : RcL K r xs P) : EvL K (tCB r t) es P := ev_cbL ht fun _ e => by rw [e]; exact hr
/-! calls of defs -/
theorem ev_call {Pre : List Dv → Prop} {Post : List Dv → Dv → Prop} {t : TA} {Pt : List Dv → Prop} {E : XK} (ht : EvA K t es Pt) (hp : ∀ xs, Pt xs → Pre xs ∧ ∀ z, Post xs z → P z) : Ev K (tCall (spG K Pre Post) [] E t) es P := fun B0 H0 B σ H o Q q =>
  ht B0 H0 B σ H o _ fun xs vs B1 H1 px s1 d1 => by
    show spG K Pre Post (vs ++ []) H1 Q E
    rw [List.append_nil]
    exact ⟨B1, xs, s1.bh, d1, (hp xs px).1, fun z u B2 H2 pz s2 d2 => q z u B2 H2 ((hp xs px).2 z pz) (s1.trans s2) d2⟩
theorem ev_calld {Pre : List Dv → Prop} {Post : List Dv → Dv → Prop} {t : TA} {xs : List Dv} {E : XK} (ht : EvA K t es (· = xs)) (hp : Pre xs) (hq : ∀ z, Post xs z → P z) : Ev K (tCall (spG K Pre Post) [] E t) es P := ev_call ht fun _ e => by rw [e]; exact ⟨hp, hq⟩
theorem ev_callL {Pre : List Dv → Prop} {Post : List Dv → List PyData → Prop} {t : TA} {Pt : List Dv → Prop} {P : List PyData → Prop} {E : XK} (ht : EvA K t es Pt) (hp : ∀ xs, Pt xs → Pre xs ∧ ∀ z, Post xs z → P z) : EvL K (tCall (spL K Pre Post) [] E t) es P := fun B0 H0 B σ H o Q q =>
  ht B0 H0 B σ H o _ fun xs vs B1 H1 px s1 d1 => by
    show spL K Pre Post (vs ++ []) H1 Q E
    rw [List.append_nil]
    exact ⟨B1, xs, s1.bh, d1, (hp xs px).1, fun z p u B2 H2 pz s2 h0 => q z p u B2 H2 ((hp xs px).2 z pz) (s1.trans s2) (s1.hh.free h0)⟩
theorem ev_callLd {Pre : List Dv → Prop} {Post : List Dv → List PyData → Prop} {t : TA} {xs : List Dv} {P : List PyData → Prop} {E : XK} (ht : EvA K t es (· = xs)) (hp : Pre xs) (hq : ∀ z, Post xs z → P z) : EvL K (tCall (spL K Pre Post) [] E t) es P := ev_callL ht fun _ e => by rw [e]; exact ⟨hp, hq⟩
/-! displays -/
/-- data, one for one -/
inductive AllD : List Dv → List PyData → Prop
  | nil : AllD [] []
  | cons {d : PyData} {xs : List Dv} {ds : List PyData} : AllD xs ds → AllD (.d d :: xs) (d :: ds)
theorem AllD.vals {B H : Hp} : ∀ {xs : List Dv} {ds : List PyData} {vs : List V}, AllD xs ds → DVs K B H xs vs → DpAll K B vs ds
  | _, _, _, .nil, .nil => .nil
  | _, _, _, .cons a, .cons h t => .cons h (AllD.vals a t)
theorem allD_len : ∀ {xs : List Dv} {ds : List PyData}, AllD xs ds → xs.length = ds.length
  | _, _, .nil => rfl
  | _, _, .cons a => by simp [allD_len a]
theorem dvs_len {B H : Hp} {xs : List Dv} {vs : List V} (h : DVs K B H xs vs) : xs.length = vs.length := Paired.length h
theorem line_le {n : Nat} (h : n ≤ 16777216) : n ≤ sizeLine := by rw [sizeLine_eq]; exact h
theorem line_lt {n : Nat} (h : n < 16777216) : n < sizeLine := by rw [sizeLine_eq]; exact h
theorem ev_tup {t : TA} {Pt : List Dv → Prop} (ht : EvA K t es Pt) (hp : ∀ xs, Pt xs → ∃ ds, AllD xs ds ∧ ds.length ≤ 1000000 ∧ P (.d (.tuple ds))) : Ev K (tTup t) es P := fun B0 H0 B σ H o Q q =>
  ht B0 H0 B σ H o _ fun xs vs B1 H1 px s1 d1 => by
    obtain ⟨ds, ad, hl, hP⟩ := hp xs px
    have ha := ad.vals d1
    refine ⟨line_le (by rw [dpAll_len ha]; omega), fun p np => ?_⟩
    exact q _ _ (upd B1 p (.tup vs)) _ hP (s1.trans (Stp.new s1.bh np)) (Dp.tup (SqT.of upd_same) (dpAllMono (same_upd (s1.bh.free np)) ha))
theorem ev_tupd {t : TA} {xs : List Dv} {ds : List PyData} (ht : EvA K t es (· = xs)) (ad : AllD xs ds) (hl : ds.length ≤ 1000000) : Ev K (tTup t) es (· = .d (.tuple ds)) := ev_tup ht fun _ e => ⟨ds, by rw [e]; exact ad, hl, rfl⟩
theorem ev_lst {t : TA} {Pt : List Dv → Prop} {P : List PyData → Prop} (ht : EvA K t es Pt) (hp : ∀ xs, Pt xs → ∃ ds, AllD xs ds ∧ ds.length ≤ 1000000 ∧ P ds) : EvL K (tLst t) es P := fun B0 H0 B σ H o Q q =>
  ht B0 H0 B σ H o _ fun xs vs B1 H1 px s1 d1 => by
    obtain ⟨ds, ad, hl, hP⟩ := hp xs px
    have ha := ad.vals d1
    refine ⟨line_le (by rw [dpAll_len ha]; omega), fun p np => ?_⟩
    exact q ds p vs B1 _ hP (s1.trans (Stp.open s1.bh np)) (s1.hh.free np) (s1.bh.free np) upd_same ha
theorem ev_lstd {t : TA} {xs : List Dv} {ds : List PyData} (ht : EvA K t es (· = xs)) (ad : AllD xs ds) (hl : ds.length ≤ 1000000) : EvL K (tLst t) es (· = ds) := ev_lst ht fun _ e => ⟨ds, by rw [e]; exact ad, hl, rfl⟩
/-! tests -/
theorem et_test {Pb : Bool → Prop} (h : Ev K te es (fun x => ∃ b, x = .d (.bool b) ∧ Pb b)) : EvT K (tTest te) es Pb := fun B0 H0 B σ H o Q q =>
  h B0 H0 B σ H o _ fun x v B1 H1 ⟨b, e, pb⟩ s1 d1 => by
    subst e
    cases d1
    exact ⟨b, rfl, q b B1 H1 pb s1⟩
theorem et_testd {b : Bool} (h : Ev K te es (· = .d (.bool b))) : EvT K (tTest te) es (· = b) := et_test (h.imp fun _ e => ⟨b, e, rfl⟩)
theorem et_B {Pb : Bool → Prop} (h : Ev K te es (fun x => ∃ b, x = .d (.bool b) ∧ Pb b)) : EvT K (tB te) es Pb := fun B0 H0 B σ H o Q q =>
  h B0 H0 B σ H o _ fun x v B1 H1 ⟨b, e, pb⟩ s1 d1 => by
    subst e
    cases d1
    exact ⟨b, rfl, q b B1 H1 pb s1⟩
theorem et_Bd {b : Bool} (h : Ev K te es (· = .d (.bool b))) : EvT K (tB te) es (· = b) := et_B (h.imp fun _ e => ⟨b, e, rfl⟩)
theorem et_not {t : TT} {Pb : Bool → Prop} (h : EvT K t es (fun b => Pb (!b))) : EvT K (tNot t) es Pb := fun B0 H0 B σ H o Q q => h B0 H0 B σ H o _ fun b B1 H1 pb s1 => q (!b) B1 H1 pb s1
theorem et_notd {t : TT} {b : Bool} (h : EvT K t es (· = b)) : EvT K (tNot t) es (· = !b) := et_not (h.imp fun _ e => by rw [e])
theorem et_and {t u : TT} {Pt Pb : Bool → Prop} (h : EvT K t es Pt) (h0 : Pt false → Pb false) (h1 : Pt true → EvT K u es Pb) : EvT K (tAnd t u) es Pb := fun B0 H0 B σ H o Q q =>
  h B0 H0 B σ H o _ fun b B1 H1 pb s1 => by
    cases b with
    | false => rw [if_neg Bool.false_ne_true]; exact q false B1 H1 (h0 pb) s1
    | true => rw [if_pos rfl]; exact h1 pb B0 H0 B1 σ H1 (o.mono s1) Q fun c B2 H2 pc s2 => q c B2 H2 pc (s1.trans s2)
theorem et_or {t u : TT} {Pt Pb : Bool → Prop} (h : EvT K t es Pt) (h0 : Pt true → Pb true) (h1 : Pt false → EvT K u es Pb) : EvT K (tOr t u) es Pb := fun B0 H0 B σ H o Q q =>
  h B0 H0 B σ H o _ fun b B1 H1 pb s1 => by
    cases b with
    | true => rw [if_pos rfl]; exact q true B1 H1 (h0 pb) s1
    | false => rw [if_neg Bool.false_ne_true]; exact h1 pb B0 H0 B1 σ H1 (o.mono s1) Q fun c B2 H2 pc s2 => q c B2 H2 pc (s1.trans s2)
theorem et_andd {t u : TT} {a b : Bool} (h : EvT K t es (· = a)) (h1 : a = true → EvT K u es (· = b)) : EvT K (tAnd t u) es (· = (a && b)) :=
  et_and h (fun e => by rw [← e]; rfl) fun e => (h1 e.symm).imp fun _ e' => by rw [e', ← e]; rfl
theorem et_ord {t u : TT} {a b : Bool} (h : EvT K t es (· = a)) (h1 : a = false → EvT K u es (· = b)) : EvT K (tOr t u) es (· = (a || b)) :=
  et_or h (fun e => by rw [← e]; rfl) fun e => (h1 e.symm).imp fun _ e' => by rw [e', ← e]; rfl
theorem ev_andV {Pb : Bool → Prop} (h : Ev K ta es (fun x => ∃ b, x = .d (.bool b) ∧ Pb b)) (h0 : Pb false → P (.d (.bool false))) (h1 : Pb true → Ev K tb es P) : Ev K (tAndV ta tb) es P := fun B0 H0 B σ H o Q q =>
  h B0 H0 B σ H o _ fun x v B1 H1 ⟨b, e, pb⟩ s1 d1 => by
    subst e
    cases d1
    refine ⟨b, rfl, ?_⟩
    cases b with
    | false => rw [if_neg Bool.false_ne_true]; exact q _ _ B1 H1 (h0 pb) s1 (.bl false)
    | true => rw [if_pos rfl]; exact h1 pb B0 H0 B1 σ H1 (o.mono s1) Q fun c u B2 H2 pc s2 => q c u B2 H2 pc (s1.trans s2)
theorem ev_andd {a b : Bool} (h : Ev K ta es (· = .d (.bool a))) (h1 : a = true → Ev K tb es (· = .d (.bool b))) : Ev K (tAndV ta tb) es (· = .d (.bool (a && b))) :=
  ev_andV (Pb := (· = a)) (h.imp fun _ e => ⟨a, e, rfl⟩) (fun e => by rw [← e]; rfl) fun e => (h1 e.symm).imp fun _ e' => by rw [e', ← e]; rfl
theorem ev_orV {Pb : Bool → Prop} (h : Ev K ta es (fun x => ∃ b, x = .d (.bool b) ∧ Pb b)) (h0 : Pb true → P (.d (.bool true))) (h1 : Pb false → Ev K tb es P) : Ev K (tOrV ta tb) es P := fun B0 H0 B σ H o Q q =>
  h B0 H0 B σ H o _ fun x v B1 H1 ⟨b, e, pb⟩ s1 d1 => by
    subst e
    cases d1
    refine ⟨b, rfl, ?_⟩
    cases b with
    | true => rw [if_pos rfl]; exact q _ _ B1 H1 (h0 pb) s1 (.bl true)
    | false => rw [if_neg Bool.false_ne_true]; exact h1 pb B0 H0 B1 σ H1 (o.mono s1) Q fun c u B2 H2 pc s2 => q c u B2 H2 pc (s1.trans s2)
theorem ev_ord {a b : Bool} (h : Ev K ta es (· = .d (.bool a))) (h1 : a = false → Ev K tb es (· = .d (.bool b))) : Ev K (tOrV ta tb) es (· = .d (.bool (a || b))) :=
  ev_orV (Pb := (· = a)) (h.imp fun _ e => ⟨a, e, rfl⟩) (fun e => by rw [← e]; rfl) fun e => (h1 e.symm).imp fun _ e' => by rw [e', ← e]; rfl
theorem ev_notV {Pb : Bool → Prop} (h : Ev K ta es (fun x => ∃ b, x = .d (.bool b) ∧ P (.d (.bool (!b))))) : Ev K (tNotV ta) es P := fun B0 H0 B σ H o Q q =>
  h B0 H0 B σ H o _ fun x v B1 H1 ⟨b, e, pb⟩ s1 d1 => by
    subst e
    cases d1
    exact ⟨b, rfl, q _ _ B1 H1 pb s1 (.bl _)⟩
theorem ev_notd {a : Bool} (h : Ev K ta es (· = .d (.bool a))) : Ev K (tNotV ta) es (· = .d (.bool (!a))) := ev_notV (Pb := fun _ => True) (h.imp fun _ e => ⟨a, e, rfl⟩)
theorem ev_if {t : TT} {Pb : Bool → Prop} (h : EvT K t es Pb) (h1 : Pb true → Ev K ta es P) (h0 : Pb false → Ev K tb es P) : Ev K (tIf t ta tb) es P := fun B0 H0 B σ H o Q q =>
  h B0 H0 B σ H o _ fun b B1 H1 pb s1 => by
    cases b with
    | true => rw [if_pos rfl]; exact h1 pb B0 H0 B1 σ H1 (o.mono s1) Q fun c u B2 H2 pc s2 => q c u B2 H2 pc (s1.trans s2)
    | false => rw [if_neg Bool.false_ne_true]; exact h0 pb B0 H0 B1 σ H1 (o.mono s1) Q fun c u B2 H2 pc s2 => q c u B2 H2 pc (s1.trans s2)
/-- a < b < c -/
theorem ev_chain {r r' : R2} {x y z : Dv} {a b : Bool} (ha : Ev K ta es (· = x)) (hb : Ev K tb es (· = y)) (hr : Rv K r x y (· = .d (.bool a))) (hc : a = true → Ev K tc es (· = z)) (hr' : a = true → Rv K r' y z (· = .d (.bool b))) :
    Ev K (tChain r r' ta tb tc) es (· = .d (.bool (a && b))) := fun B0 H0 B σ H o Q q =>
  ha B0 H0 B σ H o _ fun x' v B1 H1 px s1 d1 => hb B0 H0 B1 σ H1 (o.mono s1) _ fun y' w B2 H2 py s2 d2 => by
    subst px; subst py
    refine hr B2 H2 v w s2.bh (d1.mono s2.bb s2.hh) d2 _ fun z' u B3 H3 pz s3 d3 => ?_
    subst pz
    cases d3
    refine ⟨a, rfl, ?_⟩
    cases a with
    | false => rw [if_neg Bool.false_ne_true]; exact q _ _ B3 H3 rfl (s1.trans (s2.trans s3)) (.bl false)
    | true =>
      rw [if_pos rfl]
      refine hc rfl B0 H0 B3 σ H3 (o.mono (s1.trans (s2.trans s3))) _ fun z2 u2 B4 H4 pz2 s4 d4 => ?_
      subst pz2
      exact hr' rfl B4 H4 w u2 s4.bh (d2.mono (s3.bb.trans s4.bb) (s3.hh.trans s4.hh)) d4 Q fun z5 u5 B5 H5 pz5 s5 d5 => q z5 u5 B5 H5 pz5 (s1.trans (s2.trans (s3.trans (s4.trans s5)))) d5
/-! parts of a slice -/
theorem eo_none : EvO K tNoPart es (· = none) := fun B0 H0 B σ H o Q q => q none B H rfl (Stp.refl o.bh)
theorem eo_some {Pn : Int → Prop} (h : Ev K te es (fun x => ∃ n, x = .d (.int n) ∧ Pn n)) : EvO K (tPart te) es (fun o => ∃ n, o = some n ∧ Pn n) := fun B0 H0 B σ H o Q q =>
  h B0 H0 B σ H o _ fun x v B1 H1 ⟨n, e, pn⟩ s1 d1 => by
    subst e
    cases d1
    exact ⟨n, rfl, q (some n) B1 H1 ⟨n, rfl, pn⟩ s1⟩
theorem eo_somed {n : Int} (h : Ev K te es (· = .d (.int n))) : EvO K (tPart te) es (· = some n) := fun B0 H0 B σ H o Q q => eo_some (Pn := (· = n)) (h.imp fun _ e => ⟨n, e, rfl⟩) B0 H0 B σ H o Q fun ov B1 H1 ⟨m, e, e'⟩ => q ov B1 H1 (by rw [e, e'])
end
end HM
end
section
/-! HM core 3: statements, loops, comprehensions, defs -/
namespace HM
open PySem PySem.Spec PyProof.Rows L2

/-- what is wanted behind a statement: of the slots; of what is returned (a value, a new list) -/
structure Pst where
  nx : List Sl → Prop
  rt : Dv → Prop := fun _ => False
  rl : List PyData → Prop := fun _ => False
  rx : List Sl → Dv → Prop := fun _ _ => False
  bk : List Sl → Prop := fun _ => False
  ct : List Sl → Prop := fun _ => False
structure Goes (K : PySem.W.Frag) (B0 H0 B : Hp) (p : Pst) (D : Ends) : Prop where
  nx : ∀ es B1 σ H, p.nx es → Same B B1 → Ok K B0 H0 B1 es σ H → D.nx σ H
  rt : ∀ z v B1 H, p.rt z → Stp B0 H0 B1 H → DV K B1 H z v → D.rt v H
  rl : ∀ xs q vs B1 H, p.rl xs → Stp B0 H0 B1 H → H0 q = none → B1 q = none → H q = some (.lst vs) → DpAll K B1 vs xs → D.rt (.ref q) H
  rx : ∀ es z v B1 σ H, p.rx es z → Ok K B0 H0 B1 es σ H → DV K B1 H z v → D.rt v H
  bk : ∀ es B1 σ H, p.bk es → Same B B1 → Ok K B0 H0 B1 es σ H → D.bk σ H
  ct : ∀ es B1 σ H, p.ct es → Same B B1 → Ok K B0 H0 B1 es σ H → D.ct σ H
theorem Goes.mono {K : PySem.W.Frag} {B0 H0 B B' : Hp} {p : Pst} {D : Ends} (g : Goes K B0 H0 B p D) (e : Same B B') : Goes K B0 H0 B' p D :=
  ⟨fun es B1 σ H m q => g.nx es B1 σ H m (e.trans q), g.rt, g.rl, g.rx, fun es B1 σ H m q => g.bk es B1 σ H m (e.trans q), fun es B1 σ H m q => g.ct es B1 σ H m (e.trans q)⟩
def Sx (K : PySem.W.Frag) (ts : TS) (es : List Sl) (p : Pst) : Prop := ∀ (B0 H0 B : Hp) (σ : L2.St) (H : Hp) (D : Ends), Ok K B0 H0 B es σ H → Goes K B0 H0 B p D → ts D σ H
/-- a value that may be kept in a slot -/
def Stay : Dv → Prop
  | .t _ => False
  | _ => True
theorem DV.stay {K : PySem.W.Frag} {B H H0 : Hp} : ∀ {x : Dv} {v : V}, Stay x → DV K B H x v → DV K B H0 x v
  | .d _, _, _, h => h
  | .pot, _, _, h => h
  | .raw _, _, _, h => h
  | .row _, _, _, h => h
  | .z _, _, _, h => h
section
variable {K : PySem.W.Frag} {es es' : List Sl} {te ta tb : TE} {t u : TS} {p : Pst} {P : Dv → Prop}
theorem sx_next (h : p.nx es) : Sx K tNext es p := fun B0 H0 B σ H D o g => g.nx es B σ H h (Same.refl _) o
theorem sx_break (h : p.bk es) : Sx K tBreak es p := fun B0 H0 B σ H D o g => g.bk es B σ H h (Same.refl _) o
theorem sx_cont (h : p.ct es) : Sx K tCont es p := fun B0 H0 B σ H D o g => g.ct es B σ H h (Same.refl _) o
theorem sx_seq {M : List Sl → Prop} (h : Sx K t es { p with nx := M }) (k : ∀ es', M es' → Sx K u es' p) : Sx K (tSeq t u) es p := fun B0 H0 B σ H D o g =>
  h B0 H0 B σ H _ o ⟨fun es' B' σ' H' m e o' => k es' m B0 H0 B' σ' H' D o' (g.mono e), g.rt, g.rl, g.rx, g.bk, g.ct⟩
theorem sx_seqd (h : Sx K t es { p with nx := (· = es') }) (k : Sx K u es' p) : Sx K (tSeq t u) es p := sx_seq h fun _ e => by rw [e]; exact k
theorem Sx.imp {p' : Pst} (h : Sx K t es p) (a : ∀ es, p.nx es → p'.nx es) (b : ∀ z, p.rt z → p'.rt z) (c : ∀ z, p.rl z → p'.rl z) (c' : ∀ e z, p.rx e z → p'.rx e z) (d : ∀ es, p.bk es → p'.bk es) (e : ∀ es, p.ct es → p'.ct es) : Sx K t es p' := fun B0 H0 B σ H D o g =>
  h B0 H0 B σ H D o ⟨fun es B σ H m => g.nx es B σ H (a es m), fun z v B H m => g.rt z v B H (b z m), fun z q v B H m => g.rl z q v B H (c z m), fun e z v B σ H m => g.rx e z v B σ H (c' e z m), fun es B σ H m => g.bk es B σ H (d es m), fun es B σ H m => g.ct es B σ H (e es m)⟩
theorem sx_set {i : Nat} (h : Ev K te es P) (k : ∀ x, P x → Stay x ∧ p.nx (es.set i (.im x))) : Sx K (tAsg te (gName i)) es p := fun B0 H0 B σ H D o g =>
  h B0 H0 B σ H o _ fun x v B1 H1 px s1 d1 => g.nx _ B1 _ H1 (k x px).2 s1.bb ((o.mono s1).set i (d1.stay (k x px).1))
theorem sx_setd {i : Nat} {x : Dv} (h : Ev K te es (· = x)) (s : Stay x) (k : p.nx (es.set i (.im x))) : Sx K (tAsg te (gName i)) es p := sx_set h fun _ e => by rw [e]; exact ⟨s, k⟩
theorem sx_setL {i : Nat} {P : List PyData → Prop} (h : EvL K te es P) (k : ∀ xs, P xs → p.nx (es.set i (.mu xs))) : Sx K (tAsg te (gName i)) es p := fun B0 H0 B σ H D o g =>
  h B0 H0 B σ H o _ fun xs q vs B1 H1 px s1 h0 hb hp ha => g.nx _ B1 _ H1 (k xs px) s1.bb ((o.mono s1).setMu i (fun j ys e e2 => by
    obtain ⟨q', ws, e3, _, _, e4, _⟩ := o.mu e
    rw [e2] at e3
    cases e3
    rw [h0] at e4
    cases e4) hb (o.st.hh.free h0) hp ha)
theorem sx_setLd {i : Nat} {xs : List PyData} (h : EvL K te es (· = xs)) (k : p.nx (es.set i (.mu xs))) : Sx K (tAsg te (gName i)) es p := sx_setL h fun _ e => by rw [e]; exact k
/-- an open list is shut -/
theorem sx_shut (i : Nat) {xs : List PyData} (e : es[i]? = some (.mu xs)) (h : Sx K t (es.set i (.im (.d (.list xs)))) p) : Sx K t es p := fun B0 H0 B σ H D o g => by
  obtain ⟨B', sb, o'⟩ := o.shut e
  exact h B0 H0 B' σ H D o' (g.mono sb)
theorem sx_ret (h : Ev K te es P) (k : ∀ x, P x → p.rt x) : Sx K (tRet te) es p := fun B0 H0 B σ H D o g =>
  h B0 H0 B σ H o _ fun x v B1 H1 px s1 d1 => g.rt x v B1 H1 (k x px) (o.st.trans s1) d1
theorem sx_retd {x : Dv} (h : Ev K te es (· = x)) (k : p.rt x) : Sx K (tRet te) es p := sx_ret h fun _ e => by rw [e]; exact k
theorem sx_retL {P : List PyData → Prop} (h : EvL K te es P) (k : ∀ xs, P xs → p.rl xs) : Sx K (tRet te) es p := fun B0 H0 B σ H D o g =>
  h B0 H0 B σ H o _ fun xs q vs B1 H1 px s1 h0 hb hp ha => g.rl xs q vs B1 H1 (k xs px) (o.st.trans s1) (o.st.hh.free h0) hb hp ha
theorem sx_retX (h : Ev K te es P) (k : ∀ x, P x → p.rx es x) : Sx K (tRet te) es p := fun B0 H0 B σ H D o g =>
  h B0 H0 B σ H o _ fun x v B1 H1 px s1 d1 => g.rx es x v B1 σ H1 (k x px) (o.mono s1) d1
/-- an open list is returned -/
theorem sx_retMu {i : Nat} {xs : List PyData} (e : es[i]? = some (.mu xs)) (k : p.rl xs) : Sx K (tRet (tVar i)) es p := fun B0 H0 B σ H D o g => by
  obtain ⟨q, vs, e1, hb, h0, hp, ha⟩ := o.mu e
  exact ⟨_, e1, g.rl xs q vs B H k o.st h0 hb hp ha⟩
theorem sx_if {c : TT} {Pb : Bool → Prop} (h : EvT K c es Pb) (h1 : Pb true → Sx K t es p) (h0 : Pb false → Sx K u es p) : Sx K (tIfS c t u) es p := fun B0 H0 B σ H D o g =>
  h B0 H0 B σ H o _ fun b B1 H1 pb s1 => by
    cases b with
    | true => rw [if_pos rfl]; exact h1 pb B0 H0 B1 σ H1 D (o.mono s1) (g.mono s1.bb)
    | false => rw [if_neg Bool.false_ne_true]; exact h0 pb B0 H0 B1 σ H1 D (o.mono s1) (g.mono s1.bb)
theorem sx_drop (h : Ev K te es P) (k : p.nx es) : Sx K (tDrop te) es p := fun B0 H0 B σ H D o g => h B0 H0 B σ H o _ fun x v B1 H1 px s1 d1 => g.nx es B1 σ H1 k s1.bb (o.mono s1)
theorem sx_app {i : Nat} {xs : List PyData} (e : es[i]? = some (.mu xs)) (h : Ev K te es P) (hl : xs.length < 8000000) (k : ∀ x, P x → ∃ d, x = .d d ∧ p.nx (es.set i (.mu (xs ++ [d])))) :
    Sx K (tDrop (tBM K "list" rAppend (tVar i) (tCons te tNil))) es p := fun B0 H0 B σ H D o g => by
  obtain ⟨q, vs, e1, hb, h0, hp, ha⟩ := o.mu e
  refine ⟨_, e1, .inl ⟨rfl, _, SqL.of hp⟩, h B0 H0 B σ H o _ fun x v B1 H1 px s1 d1 => ?_⟩
  obtain ⟨d, rfl, kx⟩ := k x px
  have o1 := o.mono s1
  obtain ⟨q', vs', e1', _, _, hp', ha'⟩ := o1.mu e
  rw [e1] at e1'
  cases e1'
  refine ⟨q, vs', v, rfl, rfl, hp', line_lt (by rw [dpAll_len ha']; omega), ?_⟩
  exact g.nx _ B1 σ _ kx s1.bb (o1.write e e1 (dpAll_app ha' (.cons d1 .nil)))
theorem sx_ext {i : Nat} {xs : List PyData} {P : List PyData → Prop} (e : es[i]? = some (.mu xs)) (h : EvL K te es P) (hl : xs.length < 8000000) (k : ∀ ys, P ys → ys.length < 8000000 ∧ p.nx (es.set i (.mu (xs ++ ys)))) :
    Sx K (tDrop (tBM K "list" rExtend (tVar i) (tCons te tNil))) es p := fun B0 H0 B σ H D o g => by
  obtain ⟨q, vs, e1, hb, h0, hp, ha⟩ := o.mu e
  refine ⟨_, e1, .inl ⟨rfl, _, SqL.of hp⟩, h B0 H0 B σ H o _ fun ys r ws B1 H1 px s1 r0 rb rp ra => ?_⟩
  obtain ⟨hl2, kx⟩ := k ys px
  have o1 := o.mono s1
  obtain ⟨q', vs', e1', _, _, hp', ha'⟩ := o1.mu e
  rw [e1] at e1'
  cases e1'
  refine ⟨q, r, vs', ws, rfl, rfl, hp', rp, line_le (by rw [dpAll_len ha', dpAll_len ra]; omega), ?_⟩
  exact g.nx _ B1 σ _ kx s1.bb (o1.write e e1 (dpAll_app ha' ra))
theorem sx_setItem {i : Nat} {j : Nat} {xs : List PyData} (e : es[i]? = some (.mu xs)) (h : Ev K te es P) (hi : Ev K ta es (· = .d (.int (j : Int)))) (hj : j < xs.length) (k : ∀ x, P x → ∃ d, x = .d d ∧ p.nx (es.set i (.mu (xs.set j d)))) :
    Sx K (tAsg te (gSub (tVar i) ta rSetL)) es p := fun B0 H0 B σ H D o g =>
  h B0 H0 B σ H o _ fun x v B1 H1 px s1 d1 => by
    obtain ⟨d, rfl, kx⟩ := k x px
    have o1 := o.mono s1
    obtain ⟨q, vs, e1, hb, h0, hp, ha⟩ := o1.mu e
    refine ⟨_, e1, hi B0 H0 B1 σ H1 o1 _ fun y w B2 H2 py s2 d2 => ?_⟩
    subst py
    cases d2
    have o2 := o1.mono s2
    obtain ⟨q', vs', e1', _, _, hp', ha'⟩ := o2.mu e
    rw [e1] at e1'
    cases e1'
    refine ⟨q, vs', (j : Int), j, rfl, rfl, hp', ?_, ?_⟩
    · have hl : j < vs'.length := by rw [dpAll_len ha']; exact hj
      unfold ixN
      rw [if_pos (Int.natCast_nonneg j), if_pos (Int.ofNat_lt.mpr hl)]
      rfl
    · exact g.nx _ B2 σ _ kx (s1.bb.trans s2.bb) (o2.write e e1 (dpAll_set (dpMono s2.bb d1) j ha'))
theorem sx_par {i j : Nat} {ta : TA} {Pa : List Dv → Prop} (h : EvA K ta es Pa) (k : ∀ l, Pa l → ∃ x y, l = [x, y] ∧ Stay x ∧ Stay y ∧ p.nx ((es.set i (.im x)).set j (.im y))) : Sx K (tPar i j ta) es p := fun B0 H0 B σ H D o g =>
  h B0 H0 B σ H o _ fun l vs B1 H1 px s1 d1 => by
    obtain ⟨x, y, rfl, s1', s2', kx⟩ := k l px
    cases d1 with
    | cons a1 a2 =>
      cases a2 with
      | cons b1 b2 =>
        cases b2
        exact ⟨_, _, rfl, g.nx _ B1 _ H1 kx s1.bb (((o.mono s1).set i (a1.stay s1')).set j (b1.stay s2'))⟩
/-- found, total = [], 0: a new list and a value -/
theorem sx_parL {i j : Nat} {P : List PyData → Prop} (h : EvL K te es P) (h2 : Ev K ta es (fun x => ∃ d, x = .d d ∧ Stay x ∧ ∀ xs, P xs → p.nx ((es.set i (.mu xs)).set j (.im x)))) : Sx K (tPar i j (tCons te (tCons ta tNil))) es p := fun B0 H0 B σ H D o g =>
  h B0 H0 B σ H o _ fun xs q vs B1 H1 px s1 h0 hb hp ha => h2 B0 H0 B1 σ H1 (o.mono s1) _ fun x v B2 H2 ⟨d, e, sx, kx⟩ s2 d2 => by
    refine ⟨_, _, rfl, g.nx _ B2 _ H2 (kx xs px) (s1.bb.trans s2.bb) (((((o.mono s1).mono s2).setMu i (fun j ys e e2 => ?_) (s2.fr q hb (by rw [hp]; exact fun z => nomatch z)) (o.st.hh.free h0) (s2.hh _ _ hp) (dpAllMono s2.bb ha))).set j (d2.stay sx))⟩
    obtain ⟨q', ws, e3, _, _, e4, _⟩ := o.mu e
    rw [e2] at e3
    cases e3
    rw [h0] at e4
    cases e4
/-! ### targets -/
/-- a target takes x: js are the slots that it writes -/
def Tg (K : PySem.W.Frag) (js : List Nat) (g : TG) (es : List Sl) (x : Dv) (es' : List Sl) : Prop := ∀ (B0 H0 B : Hp) (σ : L2.St) (H : Hp) (v : V), Ok K B0 H0 B es σ H → DV K B H x v → ∀ Q : L2.St → Hp → Prop,
  (∀ σ', Ok K B0 H0 B es' σ' H → σ'.length = σ.length → (∀ k, k ∉ js → σ'[k]? = σ[k]?) → Q σ' H) → g v σ H Q
theorem tg_name {i : Nat} {x : Dv} (s : Stay x) : Tg K [i] (gName i) es x (es.set i (.im x)) := fun B0 H0 B σ H v o d Q q =>
  q _ (o.set i (d.stay s)) (by rw [List.length_set]) fun k hk => List.getElem?_set_ne (fun z => hk (by rw [z]; exact List.mem_singleton.mpr rfl))
/-- .. several targets -/
def Tgs (K : PySem.W.Frag) (js : List Nat) (g : TGs) (es : List Sl) (ds : List PyData) (es' : List Sl) : Prop := ∀ (B0 H0 B : Hp) (σ : L2.St) (H : Hp) (vs : List V), Ok K B0 H0 B es σ H → DpAll K B vs ds → ∀ Q : L2.St → Hp → Prop,
  (∀ σ', Ok K B0 H0 B es' σ' H → σ'.length = σ.length → (∀ k, k ∉ js → σ'[k]? = σ[k]?) → Q σ' H) → g vs σ H Q
theorem tgs_nil : Tgs K [] gNil es [] es := fun B0 H0 B σ H vs o d Q q => by
  cases d
  exact ⟨rfl, q σ o rfl fun _ _ => rfl⟩
theorem tgs_cons {js ks : List Nat} {g : TG} {gs : TGs} {d : PyData} {ds : List PyData} {es1 : List Sl} (h : Tg K js g es (.d d) es1) (hs : Tgs K ks gs es1 ds es') : Tgs K (js ++ ks) (gCons g gs) es (d :: ds) es' := fun B0 H0 B σ H vs o da Q q => by
  cases da with
  | cons a b =>
    refine ⟨_, _, rfl, h B0 H0 B σ H _ o a _ fun σ1 o1 l1 n1 => hs B0 H0 B σ1 H _ o1 b _ fun σ2 o2 l2 n2 => q σ2 o2 (l2.trans l1) fun k hk => ?_⟩
    rw [n2 k (fun z => hk (List.mem_append_right _ z)), n1 k (fun z => hk (List.mem_append_left _ z))]
theorem tg_tup {js : List Nat} {g : TGs} {n : Nat} {ds : List PyData} (h : Tgs K js g es ds es') (hn : ds.length = n) : Tg K js (gTup K n g) es (.d (.tuple ds)) es' := fun B0 H0 B σ H v o d Q q => by
  cases d with
  | tup hs ha => exact ⟨_, _, rfl, sameT o.bh hs, by rw [dpAll_len ha, hn], h B0 H0 B σ H _ o ha Q q⟩
/-- target = value -/
theorem sx_asg {js : List Nat} {g : TG} (h : Ev K te es P) (k : ∀ x, P x → ∃ es', Tg K js g es x es' ∧ p.nx es') : Sx K (tAsg te g) es p := fun B0 H0 B σ H D o gg =>
  h B0 H0 B σ H o _ fun x v B1 H1 px s1 d1 => by
    obtain ⟨es', ht, kx⟩ := k x px
    exact ht B0 H0 B1 σ H1 v (o.mono s1) d1 _ fun σ' o' _ _ => gg.nx es' B1 σ' H1 kx s1.bb o'
/-! ### what is walked -/
structure Wk (K : PySem.W.Frag) (B : Hp) (J : It) (n : Nat) (f : Nat → Dv) : Prop where
  go : ∀ (i : Nat) H, Same B H → i < n → J.go i H
  stop : ∀ H, Same B H → J.stop n H
  yld : ∀ B1 (i : Nat) H x H', Same B B1 → Same B1 H → i < n → J.yld i H x H' → ∃ B2, Stp B1 H B2 H' ∧ DV K B2 H' (f i) x
def EvI (K : PySem.W.Frag) (wi : TI) (es : List Sl) (P : Nat → (Nat → Dv) → Prop) : Prop := ∀ (B0 H0 B : Hp) (σ : L2.St) (H : Hp), Ok K B0 H0 B es σ H → ∀ R : It → Hp → Prop,
  (∀ J n f B2 H2, P n f → Stp B H B2 H2 → Wk K B2 J n f → R J H2) → wi σ H R
theorem getD_some {xs : List PyData} {i : Nat} (h : i < xs.length) : xs[i]? = some (xs.getD i .none) := by
  rw [List.getD_eq_getElem?_getD, List.getElem?_eq_getElem h]
  rfl
theorem wk_list {B : Hp} {a : Addr} {vs : List V} {xs : List PyData} (hs : SqL K B a vs) (ha : DpAll K B vs xs) : Wk K B (Itl K a) xs.length (fun i => .d (xs.getD i .none)) where
  go := fun i H e hi => by
    obtain ⟨v, e1, _⟩ := dpAll_get ha (getD_some hi)
    exact ⟨vs, v, Same.seq e hs, e1⟩
  stop := fun H e => ⟨vs, Same.seq e hs, by rw [dpAll_len ha]; exact Nat.le_refl _⟩
  yld := fun B1 i H x H' e e1 hi h => by
    obtain ⟨rfl, h⟩ := h
    obtain ⟨v, e2, hd⟩ := dpAll_get ha (getD_some hi)
    have := h vs (Same.seq (e.trans e1) hs)
    rw [e2] at this
    cases this
    exact ⟨B1, Stp.refl e1, dpMono e hd⟩
theorem wk_tup {B : Hp} {a : Addr} {vs : List V} {xs : List PyData} (hs : SqT K B a vs) (ha : DpAll K B vs xs) : Wk K B (Itt K a) xs.length (fun i => .d (xs.getD i .none)) where
  go := fun i H e hi => by
    obtain ⟨v, e1, _⟩ := dpAll_get ha (getD_some hi)
    exact ⟨vs, v, sameT e hs, e1⟩
  stop := fun H e => ⟨vs, sameT e hs, by rw [dpAll_len ha]; exact Nat.le_refl _⟩
  yld := fun B1 i H x H' e e1 hi h => by
    obtain ⟨rfl, h⟩ := h
    obtain ⟨v, e2, hd⟩ := dpAll_get ha (getD_some hi)
    have := h vs (sameT (e.trans e1) hs)
    rw [e2] at this
    cases this
    exact ⟨B1, Stp.refl e1, dpMono e hd⟩
theorem wk_range {B : Hp} {lo : Int} {n : Nat} : Wk K B (Itr lo n) n (fun i => .d (.int (lo + i))) where
  go := fun i H e hi => hi
  stop := fun H e => Nat.le_refl _
  yld := fun B1 i H x H' e e1 hi h => by
    obtain ⟨rfl, rfl⟩ := h
    exact ⟨B1, Stp.refl e1, .int _⟩
theorem ei_list {xs : List PyData} (h : Ev K te es (· = .d (.list xs))) : EvI K (iList K te) es (fun n f => n = xs.length ∧ f = fun i => .d (xs.getD i .none)) := fun B0 H0 B σ H o R r =>
  h B0 H0 B σ H o _ fun x v B1 H1 e s1 d1 => by
    subst e
    cases d1 with
    | lst hs ha => exact ⟨_, rfl, ⟨_, Same.seq s1.bh hs⟩, r _ _ _ B1 H1 ⟨rfl, rfl⟩ s1 (wk_list hs ha)⟩
theorem ei_tup {xs : List PyData} (h : Ev K te es (· = .d (.tuple xs))) : EvI K (iTup K te) es (fun n f => n = xs.length ∧ f = fun i => .d (xs.getD i .none)) := fun B0 H0 B σ H o R r =>
  h B0 H0 B σ H o _ fun x v B1 H1 e s1 d1 => by
    subst e
    cases d1 with
    | tup hs ha => exact ⟨_, rfl, ⟨_, sameT s1.bh hs⟩, r _ _ _ B1 H1 ⟨rfl, rfl⟩ s1 (wk_tup hs ha)⟩
theorem ei_range1 {ta : TA} {n : Int} (h : EvA K ta es (· = [.d (.int n)])) (hn : n < 1000000) (hm : -1000000 < n) : EvI K (iRng1 ta) es (fun m f => m = n.toNat ∧ f = fun i => .d (.int i)) := fun B0 H0 B σ H o R r =>
  h B0 H0 B σ H o _ fun x v B1 H1 e s1 d1 => by
    subst e
    cases d1 with
    | cons a b =>
      cases b
      cases a
      exact ⟨n, rfl, by omega, by omega, r _ _ _ B1 H1 ⟨rfl, by funext i; rw [Int.zero_add]⟩ s1 wk_range⟩
theorem ei_range2 {ta : TA} {lo n : Int} (h : EvA K ta es (· = [.d (.int lo), .d (.int n)])) (hl : lo < 1000000) (hl' : -1000000 < lo) (hn : n < 1000000) (hm : -1000000 < n) : EvI K (iRng2 ta) es (fun m f => m = (n - lo).toNat ∧ f = fun i => .d (.int (lo + i))) := fun B0 H0 B σ H o R r =>
  h B0 H0 B σ H o _ fun x v B1 H1 e s1 d1 => by
    subst e
    cases d1 with
    | cons a b =>
      cases b with
      | cons b c =>
        cases c
        cases a
        cases b
        exact ⟨lo, n, rfl, ⟨by omega, by omega, by omega, by omega⟩, r _ _ _ B1 H1 ⟨rfl, rfl⟩ s1 wk_range⟩
/-- zip of two lists -/
theorem wk_zip {B : Hp} {a b : Addr} {vs ws : List V} {xs ys : List PyData} (hs : SqL K B a vs) (ha : DpAll K B vs xs) (hs' : SqL K B b ws) (ha' : DpAll K B ws ys) :
    Wk K B (Itz K a b) (min xs.length ys.length) (fun i => .d (.tuple [xs.getD i .none, ys.getD i .none])) where
  go := fun i H e hi => (walk_zip (K := K) (a := a) (b := b) (xs := vs) (ys := ws) rfl).goes i H (by rw [dpAll_len ha, dpAll_len ha']; exact hi) ⟨Same.seq e hs, Same.seq e hs'⟩
  stop := fun H e => by
    have := (walk_zip (K := K) (a := a) (b := b) (xs := vs) (ys := ws) rfl).stops H ⟨Same.seq e hs, Same.seq e hs'⟩
    rw [dpAll_len ha, dpAll_len ha'] at this
    exact this
  yld := fun B1 i H x H' e e1 hi h => by
    obtain ⟨T, x1, y1, rfl, nT, rfl, g1, g2⟩ := (walk_zip (K := K) (a := a) (b := b) (xs := vs) (ys := ws) rfl).yields i H x H' (by rw [dpAll_len ha, dpAll_len ha']; exact hi) ⟨Same.seq (e.trans e1) hs, Same.seq (e.trans e1) hs'⟩ h
    obtain ⟨v1, k1, r1⟩ := dpAll_get ha (getD_some (xs := xs) (i := i) (by omega))
    obtain ⟨v2, k2, r2⟩ := dpAll_get ha' (getD_some (xs := ys) (i := i) (by omega))
    have g1 : vs[i]? = some x1 := g1
    have g2 : ws[i]? = some y1 := g2
    rw [k1] at g1
    rw [k2] at g2
    cases g1
    cases g2
    have sb : Same B1 (upd B1 T (.tup [x1, y1])) := same_upd (e1.free nT)
    exact ⟨_, Stp.new e1 nT, Dp.tup (SqT.of upd_same) (.cons (dpMono (e.trans sb) r1) (.cons (dpMono (e.trans sb) r2) .nil))⟩
/-! ### for -/
theorem sx_for {wi : TI} {g : TG} {tb : TS} {js : List Nat} {Pi : Nat → (Nat → Dv) → Prop} (h : EvI K wi es Pi) (I : Nat → List Sl → Prop) (h0 : I 0 es)
    (k : ∀ n f, Pi n f → (∀ i es', i < n → I i es' → ∃ es2, Tg K js g es' (f i) es2 ∧ Sx K tb es2 { p with nx := I (i + 1), ct := I (i + 1), bk := p.nx }) ∧ ∀ es', I n es' → p.nx es') : Sx K (tFor wi g tb) es p := fun B0 H0 B σ H D o gg =>
  h B0 H0 B σ H o _ fun J n f B1 H1 pi s1 wk => by
    obtain ⟨kt, kd⟩ := k n f pi
    have o1 := o.mono s1
    refine ⟨fun i m σ H => m = n - i ∧ i ≤ n ∧ ∃ es' B', Same B1 B' ∧ I i es' ∧ Ok K B0 H0 B' es' σ H, ⟨n, by simp, Nat.zero_le _, es, B1, Same.refl _, h0, o1⟩, ?_⟩
    rintro i m σ H ⟨rfl, hi, es', B', sb, ii, o'⟩
    by_cases hlt : i < n
    · refine .inr ⟨wk.go i H (sb.trans o'.bh) hlt, fun σ' H' => ∃ es'' B'', Same B1 B'' ∧ I (i + 1) es'' ∧ Ok K B0 H0 B'' es'' σ' H', fun σ' H' h' => ⟨n - (i + 1), by omega, rfl, hlt, h'⟩, fun x H' y => ?_⟩
      obtain ⟨B2, s2, d2⟩ := wk.yld B' i H x H' sb o'.bh hlt y
      obtain ⟨es2, tg, sx⟩ := kt i es' hlt ii
      refine tg B0 H0 B2 σ H' x (o'.mono s2) d2 _ fun σ2 o2 _ _ => ?_
      exact sx B0 H0 B2 σ2 H' _ o2 ⟨fun es B3 σ3 H3 m q o3 => ⟨es, B3, sb.trans (s2.bb.trans q), m, o3⟩, gg.rt, gg.rl, gg.rx, fun es B3 σ3 H3 m q o3 => gg.nx es B3 σ3 H3 m (s1.bb.trans (sb.trans (s2.bb.trans q))) o3, fun es B3 σ3 H3 m q o3 => ⟨es, B3, sb.trans (s2.bb.trans q), m, o3⟩⟩
    · have e : i = n := by omega
      subst e
      exact .inl ⟨wk.stop H (sb.trans o'.bh), gg.nx es' B' σ H (kd es' ii) (s1.bb.trans sb) o'⟩
/-! ### while -/
theorem sx_while {c : TT} {tb : TS} (I : List Sl → Prop) (μ : List Sl → Nat) (Pb : List Sl → Bool → Prop) (h0 : I es) (hc : ∀ es', I es' → EvT K c es' (Pb es'))
    (h1 : ∀ es', I es' → Pb es' true → Sx K tb es' { p with nx := fun e => I e ∧ μ e < μ es', ct := fun e => I e ∧ μ e < μ es', bk := p.nx }) (h2 : ∀ es', I es' → Pb es' false → p.nx es') : Sx K (tWhile c tb) es p := fun B0 H0 B σ H D o gg => by
  refine ⟨fun m σ H => ∃ es' B', Same B B' ∧ I es' ∧ Ok K B0 H0 B' es' σ H ∧ m = μ es', ⟨μ es, es, B, Same.refl _, h0, o, rfl⟩, ?_⟩
  rintro m σ H ⟨es', B', sb, ii, o', rfl⟩
  refine hc es' ii B0 H0 B' σ H o' _ fun b B1 H1 pb s1 => ?_
  have o1 := o'.mono s1
  cases b with
  | true =>
    rw [if_pos rfl]
    refine ⟨fun σ' H' => ∃ e2 B2, Same B B2 ∧ I e2 ∧ Ok K B0 H0 B2 e2 σ' H' ∧ μ e2 < μ es', fun σ' H' ⟨e2, B2, q1, q2, q3, q4⟩ => ⟨μ e2, q4, e2, B2, q1, q2, q3, rfl⟩, ?_⟩
    exact h1 es' ii pb B0 H0 B1 σ H1 _ o1 ⟨fun e2 B2 σ2 H2 m q o2 => ⟨e2, B2, sb.trans (s1.bb.trans q), m.1, o2, m.2⟩, gg.rt, gg.rl, gg.rx, fun e2 B2 σ2 H2 m q o2 => gg.nx e2 B2 σ2 H2 m (sb.trans (s1.bb.trans q)) o2, fun e2 B2 σ2 H2 m q o2 => ⟨e2, B2, sb.trans (s1.bb.trans q), m.1, o2, m.2⟩⟩
  | false =>
    rw [if_neg Bool.false_ne_true]
    exact gg.nx es' B1 σ H1 (h2 es' ii pb) (sb.trans s1.bb) o1
/-! ### comprehensions -/
def wipeS (es : List Sl) : List Nat → List Sl
  | [] => es
  | v :: vs => (wipeS es vs).set v .no
theorem Ok.wipes {B0 H0 B H : Hp} {σ : L2.St} (o : Ok K B0 H0 B es σ H) : ∀ vs : List Nat, Ok K B0 H0 B (wipeS es vs) (L2.wipe σ vs) H
  | [] => o
  | v :: vs => (Ok.wipes o vs).wipe v none
theorem wipe_get {σ : L2.St} {k : Nat} : ∀ {vs : List Nat}, (wipe σ vs)[k]? = if k ∈ vs then σ[k]?.map (fun _ => none) else σ[k]?
  | [] => by simp [wipe]
  | v :: vs => by
    unfold wipe
    by_cases h : v = k
    · subst h
      rw [if_pos List.mem_cons_self]
      by_cases hl : v < σ.length
      · rw [List.getElem?_set_self (by rw [wipe_length]; exact hl), List.getElem?_eq_getElem hl]
        rfl
      · rw [List.getElem?_eq_none (by rw [List.length_set, wipe_length]; omega), List.getElem?_eq_none (by omega)]
        rfl
    · rw [List.getElem?_set_ne h, wipe_get (vs := vs)]
      by_cases h2 : k ∈ vs
      · rw [if_pos h2, if_pos (List.mem_cons_of_mem _ h2)]
      · rw [if_neg h2, if_neg (fun z => (List.mem_cons.mp z).elim (fun e => h e.symm) h2)]
theorem wipe_same {σ σ' : L2.St} {js vs : List Nat} (hj : ∀ j ∈ js, j ∈ vs) (hl : σ'.length = (wipe σ vs).length) (hk : ∀ k, k ∉ js → σ'[k]? = (wipe σ vs)[k]?) : wipe σ' vs = wipe σ vs := by
  rw [wipe_length] at hl
  apply List.ext_getElem?
  intro k
  rw [wipe_get]
  by_cases h : k ∈ vs
  · rw [if_pos h, wipe_get, if_pos h]
    by_cases hk' : k < σ.length
    · rw [List.getElem?_eq_getElem (by omega), List.getElem?_eq_getElem hk']
      rfl
    · rw [List.getElem?_eq_none (by omega), List.getElem?_eq_none (by omega)]
  · rw [if_neg h, hk k fun z => h (hj k z)]
/-- I i ys: what the list may be behind i turns -/
theorem ev_lc {wi : TI} {g : TG} {tt : TT} {vs js : List Nat} {Pi : Nat → (Nat → Dv) → Prop} {P : List PyData → Prop} (h : EvI K wi es Pi) (I : Nat → List PyData → Prop) (Pb : Nat → Bool → Prop) (Pd : Nat → PyData → Prop) (h0 : I 0 [])
    (hj : ∀ j ∈ js, j ∈ vs)
    (k : ∀ n f, Pi n f → n ≤ 8000000 ∧ (∀ i, i < n → ∃ es2, Tg K js g (wipeS es vs) (f i) es2 ∧ EvT K tt es2 (Pb i) ∧ (Pb i true → Ev K te es2 (fun x => ∃ d, x = .d d ∧ Pd i d))) ∧
      (∀ i ys d, i < n → I i ys → Pb i true → Pd i d → I (i + 1) (ys ++ [d])) ∧ (∀ i ys, i < n → I i ys → Pb i false → I (i + 1) ys) ∧ ∀ ys, I n ys → P ys) : EvL K (tLc wi g tt te vs) es P := fun B0 H0 B σ H o Q q =>
  h B0 H0 B σ H o _ fun J n f B1 H1 pi s1 wk D nD => by
    obtain ⟨hn, kt, k1, k0, kd⟩ := k n f pi
    have o1 := o.mono s1
    have bD : B1 D = none := s1.bh.free nD
    refine ⟨fun i m H => m = n - i ∧ i ≤ n ∧ ∃ B' ys acc, Stp B1 H1 B' H ∧ B' D = none ∧ H D = some (.lst acc) ∧ DpAll K B' acc ys ∧ I i ys ∧ ys.length ≤ i, ⟨n, by simp, Nat.zero_le _, B1, [], [], Stp.open s1.bh nD, bD, upd_same, .nil, h0, Nat.le_refl _⟩, ?_⟩
    rintro i m H ⟨rfl, hi, B', ys, acc, st, bD', hD, ha, hI, hl⟩
    by_cases hlt : i < n
    · refine .inr ⟨wk.go i H (st.bb.trans st.bh) hlt, fun H' => ∃ B' ys acc, Stp B1 H1 B' H' ∧ B' D = none ∧ H' D = some (.lst acc) ∧ DpAll K B' acc ys ∧ I (i + 1) ys ∧ ys.length ≤ i + 1, fun H' h' => ⟨n - (i + 1), by omega, rfl, hlt, h'⟩, fun x H' y => ?_⟩
      obtain ⟨B2, s2, d2⟩ := wk.yld B' i H x H' st.bb st.bh hlt y
      obtain ⟨es2, tg, ht, he⟩ := kt i hlt
      have st2 := st.trans s2
      have nz : H D ≠ none := by rw [hD]; exact fun z => nomatch z
      have b2 := s2.fr D bD' nz
      refine tg B0 H0 B2 (wipe σ vs) H' x ((o1.mono st2).wipes vs) d2 _ fun σ2 o2 l2 n2 => ⟨wipe_same hj l2 n2, ht B0 H0 B2 σ2 H' o2 _ fun b B3 H3 pb s3 => ?_⟩
      have h3 : H3 D = some (.lst acc) := s3.hh _ _ (s2.hh _ _ hD)
      have nz2 : H' D ≠ none := by rw [s2.hh _ _ hD]; exact fun z => nomatch z
      have b3 := s3.fr D b2 nz2
      cases b with
      | false =>
        rw [if_neg Bool.false_ne_true]
        exact ⟨B3, ys, acc, st2.trans s3, b3, h3, dpAllMono (s2.bb.trans s3.bb) ha, k0 i ys hlt hI pb, by omega⟩
      | true =>
        rw [if_pos rfl]
        refine he pb B0 H0 B3 σ2 H3 (o2.mono s3) _ fun z v B4 H4 ⟨d, e, pd⟩ s4 d4 => ?_
        subst e
        have h4 : H4 D = some (.lst acc) := s4.hh _ _ h3
        have b4 := s4.fr D b3 (by rw [h3]; exact fun z => nomatch z)
        have st4 := (st2.trans s3).trans s4
        have ha4 := dpAllMono (s2.bb.trans (s3.bb.trans s4.bb)) ha
        refine ⟨acc, h4, line_lt (by rw [dpAll_len ha4]; omega), B4, ys ++ [d], acc ++ [v], ?_, b4, upd_same, dpAll_app ha4 (.cons d4 .nil), k1 i ys d hlt hI pb pd, by rw [List.length_append, List.length_singleton]; omega⟩
        refine ⟨st4.bb, fun b x e => ?_, fun b x e => ?_, st4.fr⟩
        · rw [upd_ne (ne_of_none e nD)]; exact st4.hh _ _ e
        · rw [upd_ne (ne_of_none e b4)]; exact st4.bh _ _ e
    · have e : i = n := by omega
      subst e
      exact .inl ⟨wk.stop H (st.bb.trans st.bh), q ys D acc B' H (kd ys hI) (s1.trans st) (s1.hh.free nD) bD' hD ha⟩
theorem et_yes : EvT K tYes es (· = true) := fun B0 H0 B σ H o Q q => q true B H rfl (Stp.refl o.bh)
/-! ### a def -/
def startS (N : List Str) (xs : List Dv) : List Sl := xs.map .im ++ List.replicate (N.length - xs.length) .no
theorem ok_start {N : List Str} {B H : Hp} {xs : List Dv} {vs : List V} (e : Same B H) (h : DVs K B H xs vs) : Ok K B H B (startS N xs) (L2.start N vs) H := by
  have hl := dvs_len h
  refine ⟨Stp.refl e, ?_, fun i s hs => ?_, fun i j ys zs a b _ h1 _ _ _ => ?_⟩
  · unfold startS L2.start
    rw [List.length_append, List.length_append, List.length_map, List.length_map, List.length_replicate, List.length_replicate, hl]
  · unfold startS at hs
    unfold L2.start
    by_cases hi : i < xs.length
    · rw [List.getElem?_append_left (by rw [List.length_map]; exact hi), List.getElem?_map, List.getElem?_eq_getElem hi] at hs
      cases hs
      have hv : i < vs.length := by omega
      rw [List.getElem?_append_left (by rw [List.length_map]; exact hv), List.getElem?_map, List.getElem?_eq_getElem hv]
      refine ⟨some vs[i], rfl, vs[i], rfl, ?_⟩
      induction h generalizing i with
      | nil => simp at hi
      | cons a b ih =>
        cases i with
        | zero => exact a
        | succ i => exact ih (by simpa using hl) i (by simpa using hi) (by simpa using hv)
    · rw [List.getElem?_append_right (by rw [List.length_map]; omega), List.length_map] at hs
      rw [List.getElem?_append_right (by rw [List.length_map]; omega), List.length_map]
      have hr := List.getElem?_eq_some_iff.mp hs
      obtain ⟨h1, h2⟩ := hr
      rw [List.length_replicate] at h1
      rw [List.getElem_replicate] at h2
      subst h2
      exact ⟨none, by rw [List.getElem?_replicate, if_pos (by omega)], trivial⟩
  · unfold startS at h1
    by_cases hi : i < xs.length
    · rw [List.getElem?_append_left (by rw [List.length_map]; exact hi), List.getElem?_map, List.getElem?_eq_getElem hi] at h1
      cases h1
    · rw [List.getElem?_append_right (by rw [List.length_map]; omega), List.length_map] at h1
      obtain ⟨_, h2⟩ := List.getElem?_eq_some_iff.mp h1
      rw [List.getElem_replicate] at h2
      cases h2
/-- a body's promise -/
theorem body_G {N : List Str} {Pre : List Dv → Prop} {Post : List Dv → Dv → Prop} (h : ∀ xs, Pre xs → Sx K t (startS N xs) { nx := fun _ => Post xs (.d .none), rt := Post xs, rl := fun ys => Post xs (.d (.list ys)) }) (vs : List V) (H : Hp) (Q : VK) (E : XK) (hs : spG K Pre Post vs H Q E) :
    t { nx := fun _ H' => Q .non H', rt := Q } (L2.start N vs) H := by
  obtain ⟨B, xs, sb, dv, hp, q⟩ := hs
  exact h xs hp B H B (L2.start N vs) H _ (ok_start sb dv) ⟨fun es B1 σ H1 m _ o => q _ _ B1 H1 m o.st .non, fun z v B1 H1 m s d => q z v B1 H1 m s d, fun ys p ws B1 H1 m s h0 hb hp ha =>
    q _ _ (upd B1 p (.lst ws)) H1 m (s.shut h0 hb hp) (Dp.lst (SqL.of upd_same) (dpAllMono (same_upd hb) ha)), fun _ _ _ _ _ _ m => m.elim, fun _ _ _ _ m => m.elim, fun _ _ _ _ m => m.elim⟩
theorem body_L {N : List Str} {Pre : List Dv → Prop} {Post : List Dv → List PyData → Prop} (h : ∀ xs, Pre xs → Sx K t (startS N xs) { nx := fun _ => False, rl := Post xs }) (vs : List V) (H : Hp) (Q : VK) (E : XK) (hs : spL K Pre Post vs H Q E) :
    t { nx := fun _ H' => Q .non H', rt := Q } (L2.start N vs) H := by
  obtain ⟨B, xs, sb, dv, hp, q⟩ := hs
  exact h xs hp B H B (L2.start N vs) H _ (ok_start sb dv) ⟨fun es B1 σ H1 m _ o => m.elim, fun z v B1 H1 m s d => m.elim, fun ys p ws B1 H1 m s h0 hb hp ha => q ys p ws B1 H1 m s h0 hb hp ha, fun _ _ _ _ _ _ m => m.elim, fun _ _ _ _ m => m.elim, fun _ _ _ _ m => m.elim⟩
theorem len_G {Pre : List Dv → Prop} {Post : List Dv → Dv → Prop} {n : Nat} (h : ∀ xs, Pre xs → xs.length = n) (vs : List V) (H : Hp) (Q : VK) (E : XK) (hs : spG K Pre Post vs H Q E) : vs.length = n := by
  obtain ⟨B, xs, sb, dv, hp, q⟩ := hs
  rw [← dvs_len dv, h xs hp]
theorem len_L {Pre : List Dv → Prop} {Post : List Dv → List PyData → Prop} {n : Nat} (h : ∀ xs, Pre xs → xs.length = n) (vs : List V) (H : Hp) (Q : VK) (E : XK) (hs : spL K Pre Post vs H Q E) : vs.length = n := by
  obtain ⟨B, xs, sb, dv, hp, q⟩ := hs
  rw [← dvs_len dv, h xs hp]
section
variable {Pg : Program} {w : World} {mg : Str → Option Value} {base : Heap}
/-- THE RULE for a def that gives a value -/
theorem fnG {x qual : Str} {st : Stmt} {f : Addr} {fd : FuncData} {N ps : List Str} {k : Nat} {Pre : List Dv → Prop} {Post : List Dv → Dv → Prop} (F : Fun K x qual st f fd) (S : FnScope N ps (defScope st)) (len : ∀ xs, Pre xs → xs.length = ps.length)
    (hb : ∀ (cdv : Value) (A : Around) (outer : List Env) (s : Shared) (H : Hp) (E : XK), Room k (A.deeper (envOfC qual (defScope st) s.heap.objs.size f cdv)) →
      ∃ t, PSs (cxOf CX0 Pg w K mg base N qual (defScope st) f cdv A outer s H E).nox (defBody st) t ∧ ∀ xs, Pre xs → Sx K t (startS N xs) { nx := fun _ => Post xs (.d .none), rt := Post xs, rl := fun ys => Post xs (.d (.list ys)) }) :
    FnOk Pg w K mg base CX0 (k + 1) f fd ps (spG K Pre Post) :=
  F.ok S (len_G len) fun cdv A outer s H vs Q E hr hs => by
    obtain ⟨t, h1, h2⟩ := hb cdv A outer s H E hr
    exact ⟨t, h1, body_G h2 vs H Q E hs⟩
theorem fnL {x qual : Str} {st : Stmt} {f : Addr} {fd : FuncData} {N ps : List Str} {k : Nat} {Pre : List Dv → Prop} {Post : List Dv → List PyData → Prop} (F : Fun K x qual st f fd) (S : FnScope N ps (defScope st)) (len : ∀ xs, Pre xs → xs.length = ps.length)
    (hb : ∀ (cdv : Value) (A : Around) (outer : List Env) (s : Shared) (H : Hp) (E : XK), Room k (A.deeper (envOfC qual (defScope st) s.heap.objs.size f cdv)) →
      ∃ t, PSs (cxOf CX0 Pg w K mg base N qual (defScope st) f cdv A outer s H E).nox (defBody st) t ∧ ∀ xs, Pre xs → Sx K t (startS N xs) { nx := fun _ => False, rl := Post xs }) :
    FnOk Pg w K mg base CX0 (k + 1) f fd ps (spL K Pre Post) :=
  F.ok S (len_L len) fun cdv A outer s H vs Q E hr hs => by
    obtain ⟨t, h1, h2⟩ := hb cdv A outer s H E hr
    exact ⟨t, h1, body_L h2 vs H Q E hs⟩
end
end
end HM
end
section
/-! HM core 4: machine rules by data: ==, in, +, *, sum, max, min, sorted over lists and tuples -/
namespace HM
open PySem PySem.Spec PyProof.Rows L2

/-- the depth of what is compared -/
def Flat (d : PyData) : Prop := d.plain = true ∧ d.depth ≤ 60
section
variable {X : Cx}
def rEqP (K : PySem.W.Frag) : R2 := fun x y H Q => ∃ d e, Dp K H x d ∧ Dp K H y e ∧ Flat d ∧ Flat e ∧ Q (.bl (PyData.eqv d e)) H
def rNeP (K : PySem.W.Frag) : R2 := fun x y H Q => ∃ d e, Dp K H x d ∧ Dp K H y e ∧ Flat d ∧ Flat e ∧ Q (.bl (!PyData.eqv d e)) H
theorem op_eqP (hu : X.A.units + 64 < cLine) : OpR X (compareOp .Eq) (rEqP X.K) := by
  intro pins s σ H x y v u Q I rx ry h
  obtain ⟨d, e, hd, he, sd, se, q⟩ := h
  obtain ⟨as, r1⟩ := Dp.reads I d x v hd rx
  obtain ⟨bs, r2⟩ := Dp.reads I e y u he ry
  exact PySem.SeqAt.eq_plain r1 r2 sd.1 se.1 (by have := sd.2; have := se.2; omega) ⟨.bl _, H, I, rfl, q⟩
theorem op_neP (hu : X.A.units + 64 < cLine) : OpR X (compareOp .NotEq) (rNeP X.K) := by
  intro pins s σ H x y v u Q I rx ry h
  obtain ⟨d, e, hd, he, sd, se, q⟩ := h
  obtain ⟨as, r1⟩ := Dp.reads I d x v hd rx
  obtain ⟨bs, r2⟩ := Dp.reads I e y u he ry
  exact PySem.SeqAt.ne_plain r1 r2 sd.1 se.1 (by have := sd.2; have := se.2; omega) ⟨.bl _, H, I, rfl, q⟩
/-- x in c, c a list or a tuple of data -/
def rInP (K : PySem.W.Frag) : R2 := fun x y H Q => ∃ d e xs, Dp K H x d ∧ Dp K H y e ∧ (e = .list xs ∨ e = .tuple xs) ∧ Flat d ∧ Flat e ∧ Q (.bl (xs.any fun y => PyData.eqv y d)) H
def rNotInP (K : PySem.W.Frag) : R2 := fun x y H Q => ∃ d e xs, Dp K H x d ∧ Dp K H y e ∧ (e = .list xs ∨ e = .tuple xs) ∧ Flat d ∧ Flat e ∧ Q (.bl (!xs.any fun y => PyData.eqv y d)) H
theorem op_inP (hu : X.A.units + 64 < cLine) : OpR X (compareOp .In) (rInP X.K) := by
  intro pins s σ H x y v u Q I rx ry h
  obtain ⟨d, e, xs, hd, he, hx, sd, se, q⟩ := h
  obtain ⟨as, r1⟩ := Dp.reads I d x v hd rx
  obtain ⟨bs, r2⟩ := Dp.reads I e y u he ry
  have hq : EP X pins σ Q (.bool (xs.any fun y => PyData.eqv y d)) s := ⟨.bl _, H, I, rfl, q⟩
  have hd' := sd.2
  rcases hx with rfl | rfl
  · exact PySem.SeqAt.in_list_data r2 r1 (by have := se.1; unfold PyData.plain at this; exact this) sd.1 (by omega) hq
  · exact PySem.SeqAt.in_tuple_data r2 r1 (by have := se.1; unfold PyData.plain at this; exact this) sd.1 (by omega) hq
theorem op_notInP (hu : X.A.units + 64 < cLine) : OpR X (compareOp .NotIn) (rNotInP X.K) := by
  intro pins s σ H x y v u Q I rx ry h
  obtain ⟨d, e, xs, hd, he, hx, sd, se, q⟩ := h
  obtain ⟨as, r1⟩ := Dp.reads I d x v hd rx
  obtain ⟨bs, r2⟩ := Dp.reads I e y u he ry
  have hq : EP X pins σ Q (.bool (!xs.any fun y => PyData.eqv y d)) s := ⟨.bl _, H, I, rfl, q⟩
  have hd' := sd.2
  rcases hx with rfl | rfl
  · exact PySem.SeqAt.notIn_list_data r2 r1 (by have := se.1; unfold PyData.plain at this; exact this) sd.1 (by omega) hq
  · exact PySem.SeqAt.notIn_tuple_data r2 r1 (by have := se.1; unfold PyData.plain at this; exact this) sd.1 (by omega) hq
/-- list + list -/
def rCatL (K : PySem.W.Frag) : R2 := fun x y H Q => ∃ l b xs zs, x = .ref l ∧ y = .ref b ∧ SqL K H l xs ∧ SqL K H b zs ∧ xs.length + zs.length ≤ 2000000 ∧ ∀ p, H p = none → Q (.ref p) (upd H p (.lst (xs ++ zs)))
theorem op_catL : OpR X (binaryOp .Add) (rCatL X.K) := by
  intro pins s σ H x y v u Q I rx ry h
  obtain ⟨l, b, xs, zs, rfl, rfl, hH, hB, hz0, q⟩ := h
  have hz : xs.length + zs.length ≤ sizeLine := line_le (by omega)
  cases rx
  cases ry
  obtain ⟨its, r, ⟨⟨cls, dd, data, sl⟩, n, ho, hc, hdd, hd⟩, hl⟩ := I.list hH
  obtain ⟨its2, r2, ⟨⟨cls2, dd2, data2, sl2⟩, n2, ho2, hc2, hdd2, hd2⟩, hl2⟩ := I.list hB
  simp only at hc hdd hd hc2 hdd2 hd2
  subst hc hdd hd hc2 hdd2 hd2
  have e1 := r.length
  have e2 := r2.length
  refine concat_meets ⟨_, ho, rfl⟩ ⟨_, ho2, rfl⟩ noFill_list_add seq_list_add PySem.F.slot_list_add PySem.F.entry_list_add (PySem.F.args_list_add_2 _ _) (list_addW l b its.toArray its2.toArray n n2 none none sl sl2 (by simp only [List.size_toArray]; omega)) ⟨ho, ho2, ?_⟩
  have ea : its.toArray ++ its2.toArray = (its ++ its2).toArray := by simp
  rw [ea]
  exact ⟨.ref _, _, I.lnew (t' := s.toks) (r.append r2) (by rw [List.length_append]; omega), rfl, q _ I.fresh⟩
/-! sums, greatest, least -/
theorem depth_ints' (ns : List Int) : PyData.depthAll (ns.map .int) = 0 := PySem.W.depth_ints ns
theorem alikeAll_ints (ns : List Int) : PySem.W.AlikeAll (ns.map .int) := by
  refine ⟨fun x hx y hy => ?_, fun x hx => ?_⟩
  · obtain ⟨a, _, rfl⟩ := List.mem_map.mp hx
    obtain ⟨b, _, rfl⟩ := List.mem_map.mp hy
    rfl
  · obtain ⟨a, _, rfl⟩ := List.mem_map.mp hx
    exact fun z => nomatch z
/-- one list or tuple of ints -/
def IsIs (K : PySem.W.Frag) (H : Hp) (v : V) (ns : List Int) : Prop := Dp K H v (.list (ns.map .int)) ∨ Dp K H v (.tuple (ns.map .int))
def rMaxD (K : PySem.W.Frag) : List V → Hp → VK → Prop := fun vs H Q => ∃ v n ns, vs = [v] ∧ IsIs K H v (n :: ns) ∧ Q (.int (ns.foldl max n)) H
def rMinD (K : PySem.W.Frag) : List V → Hp → VK → Prop := fun vs H Q => ∃ v n ns, vs = [v] ∧ IsIs K H v (n :: ns) ∧ Q (.int (ns.foldl min n)) H
def rSumD (K : PySem.W.Frag) : List V → Hp → VK → Prop := fun vs H Q => ∃ v ns, vs = [v] ∧ IsIs K H v ns ∧ Q (.int ns.sum) H
theorem reads_int {h : Heap} {v : Value} {n : Int} {as : List Addr} (r : Reads h v (.int n) as) : ∃ t, v = .int n t := by
  cases r with
  | int i t => exact ⟨t, rfl⟩
theorem cr_maxD (hc : X.calm = true) (hu : X.A.units + 64 < cLine) : CallR X (.builtin "max") (rMaxD X.K) := by
  intro pins s σ H vs us Q I r h
  obtain ⟨v, n, ns, rfl, hs, q⟩ := h
  obtain ⟨u, rfl, ru⟩ := vals1 r
  have hd : PyData.depthAll ((n :: ns).map .int) = 0 := depth_ints' _
  rcases hs with hs | hs
  · cases hs with
    | lst hl ha =>
      cases ru
      obtain ⟨its, rv, pl, _⟩ := I.list hl
      obtain ⟨as, hr⟩ := Dp.readsAll I _ _ its ha rv
      refine PySem.W.max_list_data (x := .int n) (xs := ns.map .int) (I.ok.hd hc) pl.isList hr (alikeAll_ints (n :: ns)) (by rw [show (PyData.int n :: ns.map PyData.int) = (n :: ns).map .int from rfl, hd]; omega) fun i v h' tk bs _ hv hk => ?_
      rw [PySem.W.maxD_ints] at hv
      obtain ⟨t, rfl⟩ := reads_int hv
      exact ⟨.int _, H, I.kept hk, ⟨_, rfl⟩, q⟩
  · cases hs with
    | tup hl ha =>
      cases ru
      obtain ⟨its, rv, pl, _⟩ := I.tuple hl
      obtain ⟨as, hr⟩ := Dp.readsAll I _ _ its ha rv
      refine PySem.W.max_tuple_data (x := .int n) (xs := ns.map .int) (I.ok.hd hc) pl hr (alikeAll_ints (n :: ns)) (by rw [show (PyData.int n :: ns.map PyData.int) = (n :: ns).map .int from rfl, hd]; omega) fun i v h' tk bs _ hv hk => ?_
      rw [PySem.W.maxD_ints] at hv
      obtain ⟨t, rfl⟩ := reads_int hv
      exact ⟨.int _, H, I.kept hk, ⟨_, rfl⟩, q⟩
theorem cr_minD (hc : X.calm = true) (hu : X.A.units + 64 < cLine) : CallR X (.builtin "min") (rMinD X.K) := by
  intro pins s σ H vs us Q I r h
  obtain ⟨v, n, ns, rfl, hs, q⟩ := h
  obtain ⟨u, rfl, ru⟩ := vals1 r
  have hd : PyData.depthAll ((n :: ns).map .int) = 0 := depth_ints' _
  rcases hs with hs | hs
  · cases hs with
    | lst hl ha =>
      cases ru
      obtain ⟨its, rv, pl, _⟩ := I.list hl
      obtain ⟨as, hr⟩ := Dp.readsAll I _ _ its ha rv
      refine PySem.W.min_list_data (x := .int n) (xs := ns.map .int) (I.ok.hd hc) pl.isList hr (alikeAll_ints (n :: ns)) (by rw [show (PyData.int n :: ns.map PyData.int) = (n :: ns).map .int from rfl, hd]; omega) fun i v h' tk bs _ hv hk => ?_
      rw [PySem.W.minD_ints] at hv
      obtain ⟨t, rfl⟩ := reads_int hv
      exact ⟨.int _, H, I.kept hk, ⟨_, rfl⟩, q⟩
  · cases hs with
    | tup hl ha =>
      cases ru
      obtain ⟨its, rv, pl, _⟩ := I.tuple hl
      obtain ⟨as, hr⟩ := Dp.readsAll I _ _ its ha rv
      refine PySem.W.min_tuple_data (x := .int n) (xs := ns.map .int) (I.ok.hd hc) pl hr (alikeAll_ints (n :: ns)) (by rw [show (PyData.int n :: ns.map PyData.int) = (n :: ns).map .int from rfl, hd]; omega) fun i v h' tk bs _ hv hk => ?_
      rw [PySem.W.minD_ints] at hv
      obtain ⟨t, rfl⟩ := reads_int hv
      exact ⟨.int _, H, I.kept hk, ⟨_, rfl⟩, q⟩
theorem intItems_get {xs : Array (Int × Tok)} {i : Nat} {v : Value} (h : (intItems xs)[i]? = some v) : ∃ t, v = .int (numAt xs i) t := intItems_at h
theorem cr_sumD (hc : X.calm = true) : CallR X (.builtin "sum") (rSumD X.K) := by
  intro pins s σ H vs us Q I r h
  obtain ⟨v, ns, rfl, hs, q⟩ := h
  obtain ⟨u, rfl, ru⟩ := vals1 r
  rcases hs with hs | hs
  · cases hs with
    | lst hl ha =>
      cases ru
      have := dpAll_ints ha
      subst this
      obtain ⟨its, rv, pl, _⟩ := I.list hl
      exact sum_raw (I.ok.hd hc) pl.isList rv.ints fun h' tk t' hk => ⟨.int _, H, I.kept hk, ⟨_, rfl⟩, q⟩
  · cases hs with
    | tup hl ha =>
      cases ru
      have := dpAll_ints ha
      subst this
      obtain ⟨its, rv, pl, _⟩ := I.tuple hl
      obtain ⟨xs, e⟩ := rv.ints.allInts.items
      have hn : numsOf (intItems xs).toList = ns := by rw [← e]; exact rv.ints.numsOf
      rw [nums_intItems] at hn
      rw [e] at pl
      refine PySem.call_sum_walkAnyS (PySem.W.iter_tupleW (A := X.A.in1) (I.ok.hd hc) pl fun s₂ e W st hfp hw hk => ?_)
      refine ⟨_, _, _, _, _, _, _, numAt xs, rfl, W, st, hfp, fun i v hv => intItems_at hv, fun s' t' m => ?_⟩
      obtain ⟨h', tk, rfl, hk'⟩ := PySem.W.moved_old e rfl m
      have hsz : (intItems xs).size = xs.size := by simp [intItems]
      rw [hsz, preSum_eq, List.take_of_length_le (by simp), hn]
      exact ⟨.int _, H, I.kept hk', ⟨_, rfl⟩, q⟩
end

section
variable {prog : Program} {w : World} {A : Around} {E : Value → Shared → Prop} {s : Shared}
open PyProof.Rows in
theorem collect_tuple {l : Addr} {vs : List Value} {Q : List Value → Shared → Prop} (hl : s.heap.IsTuple l vs.toArray)
    (h : Q vs { s with heap := (s.heap.push (seqObj "list" #[] 0)).update s.heap.objs.size (Obj.mapSeq (· ++ vs.toArray)) }) (hsz : vs.length ≤ sizeLine) :
    wpAny (model prog w) A (collect (.ref l)) Q E s := by
  obtain ⟨o, ho, hc, n, hd⟩ := id hl
  unfold collect
  refine wpAny_bind (wpAny_runValue (codeAny_builtin entry_proto_collect' ?_))
  show wpAny _ _ (do again (.builtin "list.__iadd__" ⟨[← newList [], .ref l], []⟩)) _ _ s
  refine wpAny_bind (wpAny_newList (wpAny_pure ⟨Code.quiet_builtin _ (by decide +kernel), codeAny_builtin entry_list_iadd' ?_⟩))
  show wpAny _ _ (Builtin.List.listExtendWith (.ref s.heap.objs.size) (.ref l) (.ref s.heap.objs.size)) _ _ { s with heap := s.heap.push (seqObj "list" #[] 0) }
  unfold Builtin.List.listExtendWith
  have ho' : (s.heap.push (seqObj "list" #[] 0)).get? l = some o := Heap.get?_push_of_some _ ho
  refine wpAny_bind (wpAny_typeOf (T := "tuple") ⟨o, ho', hc⟩ ?_)
  have ht : (Value.type "tuple" == Value.type "tuple") = true := by rfl
  rw [if_pos (by rw [ht]; simp)]
  refine wpAny_bind (listItems_at ho' hd ?_)
  refine wpAny_bind (listItems_at (xs := #[]) (n := 0) (Heap.get?_push_size _ rfl) rfl ?_)
  rw [if_neg (by simp)]
  refine wpAny_bind (listUpdate_at (xs := #[]) (n := 0) (Heap.get?_push_size _ rfl) rfl ?_ (Nat.zero_le _) (by show (#[] ++ vs.toArray).size ≤ sizeLine + 1; simp only [Array.size_append, List.size_toArray, List.length_nil]; omega))
  refine wpAny_pure ?_
  show wpAny (model prog w) A (do
      let o ← load s.heap.objs.size
      match o.data with
      | .seq xs _ => pure xs.toList
      | _ => unsupported "internal:collect") Q E { s with heap := (s.heap.push (seqObj "list" #[] 0)).update s.heap.objs.size (Obj.mapSeq (· ++ vs.toArray)) }
  refine wpAny_bind (wpAny_load (get?_update_seq (Heap.get?_push_size _ rfl) _) ?_)
  show wpAny _ _ (pure ((#[] : Array Value) ++ vs.toArray).toList) Q E _
  rw [show ((#[] : Array Value) ++ vs.toArray).toList = vs by simp]
  exact wpAny_pure h
open PyProof.Rows Srt SrtO in
/-- sorted of a list or a tuple: the collected items, then list.sort -/
theorem sorted_ordX {l : Addr} {vs : List Value} {b : Bool} {kw : List (Str × Value)} {ltv : Value → Value → Bool} {Q : Value → Shared → Prop} (hk : ∀ a, Builtin.«list.sort» ⟨[.ref a], kw⟩ = Builtin.«list.sort» ⟨[.ref a], [(Str.ofString "reverse", .bool b)]⟩)
    (ha1 : argsOk "sorted" ⟨[.ref l], kw⟩) (ha2 : ∀ a, argsOk "list.sort" ⟨[a], kw⟩) (O : Swo ltv) (hl : s.heap.IsList l vs.toArray ∨ s.heap.IsTuple l vs.toArray) (hz : vs.length ≤ sizeLine)
    (hS : 2 ≤ vs.length → ∀ (h₁ : Heap) (a : Addr), h₁.get? a = some (seqObj "list" vs.toArray 0) → (∀ b o, s.heap.get? b = some o → b ≠ a ∧ h₁.get? b = some o) → SortableO prog w A.in1.in1 { s with heap := h₁ } a vs ltv)
    (h : ∀ out : List Value, Srtd ltv out → Stb ltv out (if b = true then vs.reverse else vs) → Q (.ref (s.heap.objs.size + 1)) { s with heap := sortedAll s.heap vs (if b = true then out.toArray.reverse else out.toArray) }) :
    wpAny (model prog w) A (call (.builtin "sorted") [.ref l] kw) Q E s := by
  refine call_function_entry_kw kind_sorted plain_sorted entry_sorted ha1 ?_
  unfold Builtin.«sorted»
  refine wpAny_bind (m := checkCount "sorted" 1 1 _) (wpAny_pure ?_)
  have hcol : ∀ {Q' : List Value → Shared → Prop} {E' : Value → Shared → Prop}, Q' vs { s with heap := (s.heap.push (seqObj "list" #[] 0)).update s.heap.objs.size (Obj.mapSeq (· ++ vs.toArray)) } → wpAny (model prog w) A.in1 (collect (.ref l)) Q' E' s := fun q => by
    rcases hl with hl | hl
    · exact collect_list hl q hz
    · exact collect_tuple hl q hz
  refine wpAny_bind (hcol ?_)
  refine wpAny_bind (wpAny_newList ?_ hz)
  have hsz : ((s.heap.push (seqObj "list" #[] 0)).update s.heap.objs.size (Obj.mapSeq (· ++ vs.toArray))).objs.size = s.heap.objs.size + 1 := by
    rw [Heap.size_update, size_push']
  have hoL : (((s.heap.push (seqObj "list" #[] 0)).update s.heap.objs.size (Obj.mapSeq (· ++ vs.toArray))).push (seqObj "list" vs.toArray 0)).get? (s.heap.objs.size + 1) = some (seqObj "list" vs.toArray 0) := by
    rw [← hsz]; exact Heap.get?_push_size _ rfl
  have keep : ∀ b o, s.heap.get? b = some o → b ≠ s.heap.objs.size + 1 ∧ (((s.heap.push (seqObj "list" #[] 0)).update s.heap.objs.size (Obj.mapSeq (· ++ vs.toArray))).push (seqObj "list" vs.toArray 0)).get? b = some o := fun b o q => by
    have hlt : b < s.heap.objs.size := Heap.lt_size q
    refine ⟨Nat.ne_of_lt (Nat.lt_succ_of_lt hlt), Heap.get?_push_of_some _ ?_⟩
    rw [Heap.get?_update_ne _ _ _ _ (Nat.ne_of_lt hlt)]
    exact Heap.get?_push_of_some _ q
  show wpAny _ _ _ _ _ { s with heap := ((s.heap.push (seqObj "list" #[] 0)).update s.heap.objs.size (Obj.mapSeq (· ++ vs.toArray))).push (seqObj "list" vs.toArray 0) }
  rw [hsz]
  refine wpAny_bind (wpAny_holding (wpAny_call_entry_kw slot_list_sort ⟨_, hoL, rfl⟩ entry_list_sort ?_ (ha2 _)))
  rw [hk]
  refine SrtR.list_sort_ordR O hoL hz (fun h2 => hS h2 _ _ hoL keep) fun out hs hb => ⟨_, rfl, ?_⟩
  exact wpAny_pure ⟨_, rfl, h out hs hb⟩
end
section
variable {X : Cx}
/-- sorted(xs, reverse=b) of ints, a list or a tuple -/
def rSortedR (K : PySem.W.Frag) (b : Bool) (zs0 : List V) : List V → List V → Hp → VK → Prop := fun vs zs H Q => ∃ v ns, vs = [v] ∧ zs = zs0 ∧ IsIs K H v ns ∧
  ∀ (ns' : List Int) (p : Addr), ns'.Perm ns → OrdB b ns' → H p = none → Q (.ref p) (upd H p (.lst (ns'.map V.int)))
theorem sorted_runX {b : Bool} {kw : List (Str × Value)} {pins : List (Addr × Obj)} {s : Shared} {σ : L2.St} {H : Hp} {v : V} {u : Value} {ns : List Int} {Q : VK} (I : Inv X pins σ H s) (hs : IsIs X.K H v ns) (ru : RelV v u)
    (hk : ∀ a, Builtin.«list.sort» ⟨[.ref a], kw⟩ = Builtin.«list.sort» ⟨[.ref a], [(Str.ofString "reverse", .bool b)]⟩) (ha1 : ∀ l, argsOk "sorted" ⟨[.ref l], kw⟩) (ha2 : ∀ a, argsOk "list.sort" ⟨[a], kw⟩)
    (q : ∀ (ns' : List Int) (p : Addr), ns'.Perm ns → OrdB b ns' → H p = none → Q (.ref p) (upd H p (.lst (ns'.map V.int)))) : wpAny (model X.prog X.w) X.A (call (.builtin "sorted") [u] kw) (EP X pins σ Q) X.xe s := by
  have key : ∀ (l : Addr) (its : List Value), Vals (ns.map V.int) its → (s.heap.IsList l its.toArray ∨ s.heap.IsTuple l its.toArray) → (ns.map V.int).length ≤ sizeLine → wpAny (model X.prog X.w) X.A (call (.builtin "sorted") [.ref l] kw) (EP X pins σ Q) X.xe s := fun l its rv hl hz => by
    have hi := rv.ints
    refine sorted_ordX hk (ha1 l) ha2 SrtO.swo_int hl (by rw [← rv.length]; exact hz) (fun h2 h₁ a' _ _ => SrtO.ints_sortable hi h2) fun out h1 h2 => ?_
    obtain ⟨ns', k1, k2, k3⟩ := SrtR.ints_outR hi h1 h2
    obtain ⟨ep, he'⟩ := PyProof.Rows.sortedAll_at s.heap its (if b = true then out.toArray.reverse else out.toArray)
    have hlen : (ns'.map V.int).length ≤ sizeLine := by
      rw [List.length_map, k2.length_eq]
      rw [List.length_map] at hz
      exact hz
    have e0 : ((if b = true then out.toArray.reverse else out.toArray).toList).toArray = (if b = true then out.toArray.reverse else out.toArray) := by rw [Array.toArray_toList]
    exact ⟨.ref _, upd H (s.heap.objs.size + 1) (.lst (ns'.map V.int)), I.laid (t' := s.toks) (fun _ _ => PyProof.Rows.sortedAll_old) (Nat.le_succ _) ⟨hlen, _, ep, vals_of_ints k1, by rw [e0]; exact he'⟩, rfl, q _ _ k2 k3 (I.hok.fresh (Nat.le_succ _))⟩
  rcases hs with hs | hs
  · cases hs with
    | lst hl ha =>
      cases ru
      have := dpAll_ints ha
      subst this
      obtain ⟨its, rv, pl, hz⟩ := I.list hl
      exact key _ its rv (.inl pl.isList) hz
  · cases hs with
    | tup hl ha =>
      cases ru
      have := dpAll_ints ha
      subst this
      obtain ⟨its, rv, pl, hz⟩ := I.tuple hl
      exact key _ its rv (.inr pl) hz
theorem cr_sortedRevX {b : Bool} : CallRK X (.builtin "sorted") [Str.ofString "reverse"] (rSortedR X.K b [.bl b]) := by
  intro pins s σ H vs zs us ws Q I r rz h
  obtain ⟨v, ns, rfl, rfl, hs, q⟩ := h
  obtain ⟨u, rfl, ru⟩ := vals1 r
  obtain ⟨w1, rfl, e1⟩ := vals1 rz
  obtain rfl : w1 = Value.bool b := e1
  exact sorted_runX I hs ru (fun _ => rfl) (fun _ => PyProof.Rows.args_sorted_rev _ _) (fun _ => PyProof.Rows.args_list_sort_rev _ _) q
def rSortedX (K : PySem.W.Frag) : List V → Hp → VK → Prop := fun vs H Q => ∃ v ns, vs = [v] ∧ IsIs K H v ns ∧
  ∀ (ns' : List Int) (p : Addr), ns'.Perm ns → OrdB false ns' → H p = none → Q (.ref p) (upd H p (.lst (ns'.map V.int)))
theorem sort_nokw (a : Addr) : Builtin.«list.sort» ⟨[.ref a], []⟩ = Builtin.«list.sort» ⟨[.ref a], [(Str.ofString "reverse", .bool false)]⟩ := by
  first | rfl | kernel_rfl
theorem cr_sortedX : CallR X (.builtin "sorted") (rSortedX X.K) := by
  intro pins s σ H vs us Q I r h
  obtain ⟨v, ns, rfl, hs, q⟩ := h
  obtain ⟨u, rfl, ru⟩ := vals1 r
  exact sorted_runX (kw := []) I hs ru sort_nokw (fun _ => PyProof.Rows.args_sorted1 _) (fun _ => PyProof.Rows.args_list_sort _) q
/-! tuple * int -/
def rRepA (K : PySem.W.Frag) : R2 := fun x y H Q => ∃ l k xs, x = .ref l ∧ y = .int k ∧ SqT K H l xs ∧ xs ≠ [] ∧ k ≤ 1000 ∧ -1000 ≤ k ∧ xs.length ≤ 1000 ∧ (k = 1 → Q (.ref l) H) ∧ (k ≠ 1 → ∀ p, H p = none → Q (.ref p) (upd H p (.tup (List.replicate k.toNat xs).flatten)))
theorem tuple_mul0 (l : Addr) (items : Array Value) (n : Nat) (dd : Option Addr) (sl : Array (Option Value)) (x : Int) (u : Tok) (c0 : (decide (x < -(2 ^ 63)) || decide (x ≥ 2 ^ 63)) = false) (c1 : (items.isEmpty || x == 1) = false) (c2 : (decide (x ≤ 0) || items.isEmpty) = true) :
    Meets (Builtin.«tuple.__mul__» ⟨[.ref l, .int x u], []⟩) (fun _ R s => s.heap.get? l = some { cls := .type "tuple", dict := dd, data := .seq items n, slots := sl } ∧
      R (.ok (.ret (Value.ref s.heap.objs.size))) { s with heap := s.heap.push { cls := Value.type "tuple", data := Data.seq #[] }, toks := s.toks }) :=
  .of_wp fun prog w A R s h => by
    obtain ⟨hp, g, d, tk, os⟩ := s
    obtain ⟨hl, h⟩ := h
    have f1 := AutoSeq1.idx_int
    wp_walk using wpAny_loadPart' hl
    repeat (first
      | (refine wpAny_ite_false (decide_eq_false (by rw [c0]; exact Bool.false_ne_true)) ?_; wp_walk using wpAny_loadPart' hl)
      | (refine wpAny_ite_false (decide_eq_false (by rw [c1]; exact Bool.false_ne_true)) ?_; wp_walk using wpAny_loadPart' hl)
      | (refine wpAny_ite_true (decide_eq_true (by rw [c2])) ?_; wp_walk using wpAny_loadPart' hl))
    exact ⟨_, rfl, h⟩
theorem tuple_mul1 (l : Addr) (items : Array Value) (n : Nat) (dd : Option Addr) (sl : Array (Option Value)) (x : Int) (u : Tok) (c0 : (decide (x < -(2 ^ 63)) || decide (x ≥ 2 ^ 63)) = false) (c1 : (items.isEmpty || x == 1) = true) :
    Meets (Builtin.«tuple.__mul__» ⟨[.ref l, .int x u], []⟩) (fun _ R s => s.heap.get? l = some { cls := .type "tuple", dict := dd, data := .seq items n, slots := sl } ∧
      R (.ok (.ret (Value.ref l))) { s with toks := s.toks }) :=
  .of_wp fun prog w A R s h => by
    obtain ⟨hp, g, d, tk, os⟩ := s
    obtain ⟨hl, h⟩ := h
    have f1 := AutoSeq1.idx_int
    wp_walk using wpAny_loadPart' hl
    repeat (first
      | (refine wpAny_ite_false (decide_eq_false (by rw [c0]; exact Bool.false_ne_true)) ?_; wp_walk using wpAny_loadPart' hl)
      | (refine wpAny_ite_true (decide_eq_true (by rw [c1])) ?_; wp_walk using wpAny_loadPart' hl))
    exact ⟨_, rfl, h⟩
theorem op_repA : OpR X (binaryOp .Mult) (rRepA X.K) := by
  intro pins s σ H x y v u Q I rx ry h
  obtain ⟨l, k, xs, rfl, rfl, hT, hne, h2, h1, hz, q1, q2⟩ := h
  by_cases hk2 : 2 ≤ k
  · exact op_repT pins s σ H _ _ v u Q I rx ry ⟨l, k, xs, rfl, rfl, hT, hne, hk2, h2, hz, q2 (by omega)⟩
  cases rx
  obtain ⟨t, rfl⟩ := ry
  obtain ⟨its, r, ⟨⟨cls, dd, data, sl⟩, ho, hc, n, hd⟩, hs⟩ := I.tuple hT
  simp only at hc hd
  subst hc hd
  have hle : its.length = xs.length := r.length.symm
  have hn : its ≠ [] := fun e => hne (by
    rw [e] at hle
    exact List.eq_nil_of_length_eq_zero hle.symm)
  have hi : its.toArray.isEmpty = false := by
    cases its with
    | nil => exact absurd rfl hn
    | cons a b => rfl
  have c0 : (decide (k < -(2 ^ 63)) || decide (k ≥ 2 ^ 63)) = false := by
    rw [decide_eq_false (by omega), decide_eq_false (by omega)] <;> rfl
  by_cases hk1 : k = 1
  · have c1 : (its.toArray.isEmpty || k == 1) = true := by
      rw [hk1, hi] <;> rfl
    refine wpAny_binaryOp_repeat_ref (T := "tuple") (U := "int") (by decide) ⟨_, ho, rfl⟩ (fun s' => typeIs_int s' k t) noFill_tuple_mul F.fills_int_mul F.slot_int_rmul repeat_tuple F.slot_int_index.lookup
      (call_meets F.slot_int_rmul (typeIs_int s k t) F.entry_int_rmul (F.args_int_rmul_2 _ _) (int_rmul_tuple k t l its.toArray n dd sl)
        ⟨ho, rfl, ⟨_, ho, rfl⟩, call_meets F.slot_tuple_mul ⟨_, ho, rfl⟩ F.entry_tuple_mul (F.args_tuple_mul_2 _ _) (tuple_mul1 l its.toArray n dd sl k t c0 c1) ⟨ho, ?_⟩⟩)
    exact ⟨.ref l, H, I, rfl, q1 hk1⟩
  · have c1 : (its.toArray.isEmpty || k == 1) = false := by
      rw [hi, Bool.false_or]
      exact beq_eq_false_iff_ne.mpr hk1
    have c2 : (decide (k ≤ 0) || its.toArray.isEmpty) = true := by
      rw [hi, Bool.or_false]
      exact decide_eq_true (by omega)
    refine wpAny_binaryOp_repeat_ref (T := "tuple") (U := "int") (by decide) ⟨_, ho, rfl⟩ (fun s' => typeIs_int s' k t) noFill_tuple_mul F.fills_int_mul F.slot_int_rmul repeat_tuple F.slot_int_index.lookup
      (call_meets F.slot_int_rmul (typeIs_int s k t) F.entry_int_rmul (F.args_int_rmul_2 _ _) (int_rmul_tuple k t l its.toArray n dd sl)
        ⟨ho, rfl, ⟨_, ho, rfl⟩, call_meets F.slot_tuple_mul ⟨_, ho, rfl⟩ F.entry_tuple_mul (F.args_tuple_mul_2 _ _) (tuple_mul0 l its.toArray n dd sl k t c0 c1 c2) ⟨ho, ?_⟩⟩)
    have e0 : (List.replicate k.toNat xs).flatten = [] := by
      rw [show k.toNat = 0 by omega]
      rfl
    have q3 := q2 hk1
    rw [e0] at q3
    exact ⟨.ref s.heap.objs.size, _, I.laid (t' := s.toks) (o := .tup []) (fun b ob q => Heap.get?_push_of_some _ q) (Nat.le_refl _) ⟨Nat.zero_le _, [], .nil, IsTup.new _ _⟩, rfl, q3 _ (I.hok.fresh (Nat.le_refl _))⟩
end
end HM
end
section
/-! HM core 5: operations by data -/
namespace HM
open PySem PySem.Spec PyProof.Rows L2

/-! ### combined machine rules -/
section
variable {X : Cx}
def rOr (r r' : R2) : R2 := fun x y H Q => r x y H Q ∨ r' x y H Q
def cOr (r r' : List V → Hp → VK → Prop) : List V → Hp → VK → Prop := fun vs H Q => r vs H Q ∨ r' vs H Q
def rAddI : R2 := rI0 fun i j => .int (i + j)
def rAddStr : R2 := fun x y H Q => ∃ i j, x = .str i ∧ y = .str j ∧ i.length + j.length ≤ sizeLine ∧ Q (.str (i ++ j)) H
def rAddG (K : PySem.W.Frag) : R2 := rOr rAddI (rOr (rCatA K) (rOr (rCatL K) rAddStr))
theorem op_addG : OpR X (binaryOp .Add) (rAddG X.K) := op_add.or (op_catA.or (op_catL.or op_add_str))
def rSubI : R2 := rI0 fun i j => .int (i - j)
theorem op_subG : OpR X (binaryOp .Sub) rSubI := op_sub
def rMulI : R2 := rI CMul fun i j => .int (i * j)
def rMulG (K : PySem.W.Frag) : R2 := rOr rMulI (rOr (rRepA K) rRep)
theorem op_mulG : OpR X (binaryOp .Mult) (rMulG X.K) := op_mul.or (op_repA.or op_rep)
def rModI : R2 := rI (fun _ j => 0 < j) fun i j => .int (i % j)
theorem op_modG : OpR X (binaryOp .Mod) rModI := op_mod
def rDivI : R2 := rI CDiv fun i j => .int (i / j)
theorem op_divG : OpR X (binaryOp .FloorDiv) rDivI := op_fdiv
def rPowI : R2 := rI CPow fun i j => .int (i ^ j.toNat)
theorem op_powG : OpR X (binaryOp .Pow) rPowI := op_pow
def rLtI : R2 := rI0 fun i j => .bl (decide (i < j))
def rLeI : R2 := rI0 fun i j => .bl (decide (i ≤ j))
def rGtI : R2 := rI0 fun i j => .bl (decide (j < i))
def rGeI : R2 := rI0 fun i j => .bl (decide (j ≤ i))
theorem op_ltG : OpR X (compareOp .Lt) rLtI := op_lt
theorem op_leG : OpR X (compareOp .LtE) rLeI := op_le
theorem op_gtG : OpR X (compareOp .Gt) rGtI := op_gt
theorem op_geG : OpR X (compareOp .GtE) rGeI := op_ge
def rIsNon : R2 := fun x y H Q => y = .non ∧ Q (.bl (decide (x = .non))) H
def rNotNon : R2 := fun x y H Q => y = .non ∧ Q (.bl (!decide (x = .non))) H
def rIsG : R2 := rOr rIsB rIsNon
def rIsNotG : R2 := rOr rNotB rNotNon
theorem op_isG : OpR X (compareOp .Is) rIsG := op_isBl.or op_isN
theorem op_isNotG : OpR X (compareOp .IsNot) rIsNotG := op_notBl.or op_notN
def rMax2 : List V → Hp → VK → Prop := fun xs H Q => ∃ i j, xs = [.int i, .int j] ∧ Q (.int (if j > i then j else i)) H
def rMin2 : List V → Hp → VK → Prop := fun xs H Q => ∃ i j, xs = [.int i, .int j] ∧ Q (.int (if j < i then j else i)) H
def rMaxG (K : PySem.W.Frag) := cOr (rMaxD K) rMax2
def rMinG (K : PySem.W.Frag) := cOr (rMinD K) rMin2
theorem call_maxG (hc : X.calm = true) (hu : X.A.units + 64 < cLine) : CallR X (.builtin "max") (rMaxG X.K) := (cr_maxD hc hu).or (call_max2 hc)
theorem call_minG (hc : X.calm = true) (hu : X.A.units + 64 < cLine) : CallR X (.builtin "min") (rMinG X.K) := (cr_minD hc hu).or (call_min2 hc)
def rLenS (K : PySem.W.Frag) : List V → Hp → VK → Prop := fun xs H Q => ∃ p ys, xs = [.ref p] ∧ (SqL K H p ys ∨ SqT K H p ys) ∧ Q (.int ys.length) H
theorem call_lenG : CallR X (.builtin "len") (rLenS X.K) := call_len_seq
def rInt1 : List V → Hp → VK → Prop := fun xs H Q => (∃ i, xs = [.int i] ∧ Q (.int i) H) ∨ ∃ k, xs = [.bl k] ∧ Q (.int (if k then 1 else 0)) H
theorem call_intG : CallR X (.type "int") rInt1 := call_int1
def rAbs : List V → Hp → VK → Prop := fun xs H Q => ∃ i, xs = [.int i] ∧ Q (.int (if i < 0 then -i else i)) H
theorem call_absG : CallR X (.builtin "abs") rAbs := call_abs
def rTupOf (K : PySem.W.Frag) : List V → Hp → VK → Prop := fun xs H Q => ∃ p ys, xs = [.ref p] ∧ ((SqL K H p ys ∧ ∀ l, H l = none → Q (.ref l) (upd H l (.tup ys))) ∨ (SqT K H p ys ∧ Q (.ref p) H))
theorem call_tupG : CallR X (.type "tuple") (rTupOf X.K) := call_tuple_of
def rLstOf (K : PySem.W.Frag) : List V → Hp → VK → Prop := fun xs H Q => ∃ p ys, xs = [.ref p] ∧ (SqL K H p ys ∨ SqT K H p ys) ∧ ∀ l, H l = none → Q (.ref l) (upd H l (.lst ys))
theorem call_lstG : CallR X (.type "list") (rLstOf X.K) := call_list_of
def rDivmod : List V → Hp → VK → Prop := fun xs H Q => ∃ i j, xs = [.int i, .int j] ∧ CDiv i j ∧ ∀ p, H p = none → Q (.ref p) (upd H p (.tup [.int (i / j), .int (i % j)]))
theorem call_divmodG : CallR X (.builtin "divmod") rDivmod := call_divmod
/-- isinstance(v, T), T a built-in class -/
def isa (c : String) (d : PyData) : Option Bool :=
  if c = "int" then some d.isInt else if c = "bool" then some d.isBool else if c = "tuple" then some d.isTuple else if c = "list" then some d.isList else if c = "str" then some d.isStr else none
def rIsaD (K : PySem.W.Frag) : List V → Hp → VK → Prop := fun vs H Q => ∃ v d c b, vs = [v, .ty c] ∧ Dp K H v d ∧ isa c d = some b ∧ Q (.bl b) H
theorem call_isaG : CallR X (.builtin "isinstance") (rIsaD X.K) := by
  intro pins s σ H vs us Q I r h
  obtain ⟨v, d, c, b, rfl, hd, hb, q⟩ := h
  obtain ⟨u, u2, rfl, ru, r2⟩ := vals2 r
  cases r2
  obtain ⟨as, rd⟩ := Dp.reads I d v u hd ru
  have fin : ∀ tk, s.toks ≤ tk → EP X pins σ Q (.bool b) { s with toks := tk } := fun tk _ => ⟨.bl b, H, I.tok tk, rfl, q⟩
  unfold isa at hb
  by_cases h1 : c = "int"
  · subst h1
    rw [if_pos rfl] at hb
    cases hb
    exact PySem.W.isinstance_int_data rd fin
  rw [if_neg h1] at hb
  by_cases h1 : c = "bool"
  · subst h1
    rw [if_pos rfl] at hb
    cases hb
    exact PySem.W.isinstance_bool_data rd fin
  rw [if_neg h1] at hb
  by_cases h1 : c = "tuple"
  · subst h1
    rw [if_pos rfl] at hb
    cases hb
    exact PySem.W.isinstance_tuple_data rd fin
  rw [if_neg h1] at hb
  by_cases h1 : c = "list"
  · subst h1
    rw [if_pos rfl] at hb
    cases hb
    exact PySem.W.isinstance_list_data rd fin
  rw [if_neg h1] at hb
  by_cases h1 : c = "str"
  · subst h1
    rw [if_pos rfl] at hb
    cases hb
    exact PySem.W.isinstance_str_data rd fin
  rw [if_neg h1] at hb
  cases hb
end

/-! ### data -/
def tI (ns : List Int) : PyData := .tuple (ns.map .int)
def lI (ns : List Int) : PyData := .list (ns.map .int)
theorem plainAll_ints : ∀ ns : List Int, PyData.plainAll (ns.map .int) = true
  | [] => by simp [PyData.plainAll]
  | n :: ns => by simp [PyData.plainAll, PyData.plain, plainAll_ints ns]
theorem flat_int (n : Int) : Flat (.int n) := ⟨by simp [PyData.plain], by simp [PyData.depth]⟩
theorem flat_bool (b : Bool) : Flat (.bool b) := ⟨by simp [PyData.plain], by simp [PyData.depth]⟩
theorem flat_none : Flat .none := ⟨by simp [PyData.plain], by simp [PyData.depth]⟩
theorem flat_str (s : Str) : Flat (.str s) := ⟨by simp [PyData.plain], by simp [PyData.depth]⟩
theorem flat_tI (ns : List Int) : Flat (tI ns) := ⟨by simp [tI, PyData.plain, plainAll_ints], by simp [tI, PyData.depth, depth_ints']⟩
theorem flat_lI (ns : List Int) : Flat (lI ns) := ⟨by simp [lI, PyData.plain, plainAll_ints], by simp [lI, PyData.depth, depth_ints']⟩
theorem eqvAll_ints : ∀ xs ys : List Int, PyData.eqvAll (xs.map .int) (ys.map .int) = decide (xs = ys)
  | [], [] => by simp [PyData.eqvAll]
  | [], _ :: _ => by simp [PyData.eqvAll]
  | _ :: _, [] => by simp [PyData.eqvAll]
  | x :: xs, y :: ys => by simp [PyData.eqvAll, PyData.eqv, eqvAll_ints xs ys, Bool.beq_eq_decide_eq]
theorem eqv_tI (xs ys : List Int) : PyData.eqv (tI xs) (tI ys) = decide (xs = ys) := by simp [tI, PyData.eqv, eqvAll_ints]
theorem eqv_lI (xs ys : List Int) : PyData.eqv (lI xs) (lI ys) = decide (xs = ys) := by simp [lI, PyData.eqv, eqvAll_ints]
theorem eqv_int (x y : Int) : PyData.eqv (.int x) (.int y) = decide (x = y) := by simp [PyData.eqv, Bool.beq_eq_decide_eq]
theorem eqv_bool (x y : Bool) : PyData.eqv (.bool x) (.bool y) = decide (x = y) := by simp [PyData.eqv, Bool.beq_eq_decide_eq]

/-- a value that reads as data now -/
def Rd1 (x : Dv) (d : PyData) : Prop := x = .d d ∨ x = .t d
theorem Rd1.dp {K : PySem.W.Frag} {B H : Hp} {x : Dv} {d : PyData} {v : V} (h : Rd1 x d) (e : Same B H) (r : DV K B H x v) : Dp K H v d := by
  rcases h with rfl | rfl
  · exact dpMono e r
  · exact r

section
variable {K : PySem.W.Frag} {x y z : Dv} {P : Dv → Prop} {r r' : R2}
theorem Rv.lft (h : Rv K r x y P) : Rv K (rOr r r') x y P := fun B H v w e a b Q q => .inl (h B H v w e a b Q q)
theorem Rv.rgt (h : Rv K r' x y P) : Rv K (rOr r r') x y P := fun B H v w e a b Q q => .inr (h B H v w e a b Q q)
theorem RvL.lft {P : List PyData → Prop} (h : RvL K r x y P) : RvL K (rOr r r') x y P := fun B H v w e a b Q q => .inl (h B H v w e a b Q q)
theorem RvL.rgt {P : List PyData → Prop} (h : RvL K r' x y P) : RvL K (rOr r r') x y P := fun B H v w e a b Q q => .inr (h B H v w e a b Q q)
/-- ints in, data that needs no heap out -/
theorem rv_I0 {g : Int → Int → Int} {i j : Int} : Rv K (rI0 fun i j => .int (g i j)) (.d (.int i)) (.d (.int j)) (· = .d (.int (g i j))) := fun B H v w e a b Q q => by
  cases a; cases b
  exact ⟨i, j, rfl, rfl, q _ _ B H rfl (Stp.refl e) (.int _)⟩
theorem rv_B0 {g : Int → Int → Bool} {i j : Int} : Rv K (rI0 fun i j => .bl (g i j)) (.d (.int i)) (.d (.int j)) (· = .d (.bool (g i j))) := fun B H v w e a b Q q => by
  cases a; cases b
  exact ⟨i, j, rfl, rfl, q _ _ B H rfl (Stp.refl e) (.bl _)⟩
theorem rv_IC {C : Int → Int → Prop} {g : Int → Int → Int} {i j : Int} (hc : C i j) : Rv K (rI C fun i j => .int (g i j)) (.d (.int i)) (.d (.int j)) (· = .d (.int (g i j))) := fun B H v w e a b Q q => by
  cases a; cases b
  exact ⟨i, j, rfl, rfl, hc, q _ _ B H rfl (Stp.refl e) (.int _)⟩
theorem rv_add {i j : Int} : Rv K (rAddG K) (.d (.int i)) (.d (.int j)) (· = .d (.int (i + j))) := Rv.lft (rv_I0 (g := fun i j => i + j))
theorem rv_sub {i j : Int} : Rv K rSubI (.d (.int i)) (.d (.int j)) (· = .d (.int (i - j))) := rv_I0 (g := fun i j => i - j)
theorem rv_mul {i j : Int} (h : CMul i j) : Rv K (rMulG K) (.d (.int i)) (.d (.int j)) (· = .d (.int (i * j))) := Rv.lft (rv_IC (g := fun i j => i * j) h)
theorem rv_mod {i j : Int} (h : 0 < j) : Rv K rModI (.d (.int i)) (.d (.int j)) (· = .d (.int (i % j))) := rv_IC (g := fun i j => i % j) h
theorem rv_div {i j : Int} (h : 0 < j) (h2 : j < 1073741824) : Rv K rDivI (.d (.int i)) (.d (.int j)) (· = .d (.int (i / j))) := rv_IC (g := fun i j => i / j) ⟨h, h2⟩
theorem rv_pow {i j : Int} (h : CPow i j) : Rv K rPowI (.d (.int i)) (.d (.int j)) (· = .d (.int (i ^ j.toNat))) := rv_IC (g := fun i j => i ^ j.toNat) h
theorem rv_lt {i j : Int} : Rv K rLtI (.d (.int i)) (.d (.int j)) (· = .d (.bool (decide (i < j)))) := rv_B0 (g := fun i j => decide (i < j))
theorem rv_le {i j : Int} : Rv K rLeI (.d (.int i)) (.d (.int j)) (· = .d (.bool (decide (i ≤ j)))) := rv_B0 (g := fun i j => decide (i ≤ j))
theorem rv_gt {i j : Int} : Rv K rGtI (.d (.int i)) (.d (.int j)) (· = .d (.bool (decide (j < i)))) := rv_B0 (g := fun i j => decide (j < i))
theorem rv_ge {i j : Int} : Rv K rGeI (.d (.int i)) (.d (.int j)) (· = .d (.bool (decide (j ≤ i)))) := rv_B0 (g := fun i j => decide (j ≤ i))
theorem rv_eq {d e : PyData} (h1 : Rd1 x d) (h2 : Rd1 y e) (f1 : Flat d) (f2 : Flat e) : Rv K (rEqP K) x y (· = .d (.bool (PyData.eqv d e))) := fun B H v w eb a b Q q =>
  ⟨d, e, h1.dp eb a, h2.dp eb b, f1, f2, q _ _ B H rfl (Stp.refl eb) (.bl _)⟩
theorem rv_ne {d e : PyData} (h1 : Rd1 x d) (h2 : Rd1 y e) (f1 : Flat d) (f2 : Flat e) : Rv K (rNeP K) x y (· = .d (.bool (!PyData.eqv d e))) := fun B H v w eb a b Q q =>
  ⟨d, e, h1.dp eb a, h2.dp eb b, f1, f2, q _ _ B H rfl (Stp.refl eb) (.bl _)⟩
theorem rv_in {d e : PyData} {xs : List PyData} (h1 : Rd1 x d) (h2 : Rd1 y e) (he : e = .list xs ∨ e = .tuple xs) (f1 : Flat d) (f2 : Flat e) : Rv K (rInP K) x y (· = .d (.bool (xs.any fun y => PyData.eqv y d))) := fun B H v w eb a b Q q =>
  ⟨d, e, xs, h1.dp eb a, h2.dp eb b, he, f1, f2, q _ _ B H rfl (Stp.refl eb) (.bl _)⟩
theorem rv_notin {d e : PyData} {xs : List PyData} (h1 : Rd1 x d) (h2 : Rd1 y e) (he : e = .list xs ∨ e = .tuple xs) (f1 : Flat d) (f2 : Flat e) : Rv K (rNotInP K) x y (· = .d (.bool (!xs.any fun y => PyData.eqv y d))) := fun B H v w eb a b Q q =>
  ⟨d, e, xs, h1.dp eb a, h2.dp eb b, he, f1, f2, q _ _ B H rfl (Stp.refl eb) (.bl _)⟩
theorem rv_isB {a b : Bool} : Rv K rIsG (.d (.bool a)) (.d (.bool b)) (· = .d (.bool (decide (a = b)))) := fun B H v w e h1 h2 Q q => by
  cases h1; cases h2
  exact .inl ⟨a, b, rfl, rfl, q _ _ B H rfl (Stp.refl e) (.bl _)⟩
theorem rv_catT {xs ys : List PyData} (hl : xs.length + ys.length ≤ 1000000) : Rv K (rAddG K) (.d (.tuple xs)) (.d (.tuple ys)) (· = .d (.tuple (xs ++ ys))) := Rv.rgt (Rv.lft fun B H v w e a b Q q => by
  cases a with
  | tup ha da =>
    cases b with
    | tup hb db =>
      have l1 := dpAll_len da
      have l2 := dpAll_len db
      refine ⟨_, _, _, _, rfl, rfl, sameT e ha, sameT e hb, line_le (by omega), fun z => ?_, fun _ z => ?_, fun _ _ p np => ?_⟩
      · subst z
        cases da
        exact q _ _ B H rfl (Stp.refl e) (Dp.tup hb db)
      · subst z
        cases db
        rw [List.append_nil] at q
        exact q _ _ B H rfl (Stp.refl e) (Dp.tup ha da)
      · exact q _ _ _ _ rfl (Stp.new e np) (Dp.tup (SqT.of upd_same) (dpAllMono (same_upd (e.free np)) (dpAll_app da db))))
theorem rvl_cat {xs ys : List PyData} (hl : xs.length + ys.length ≤ 1000000) : RvL K (rAddG K) (.d (.list xs)) (.d (.list ys)) (· = xs ++ ys) := RvL.rgt (RvL.rgt (RvL.lft fun B H v w e a b Q q => by
  cases a with
  | lst ha da =>
    cases b with
    | lst hb db =>
      have l1 := dpAll_len da
      have l2 := dpAll_len db
      exact ⟨_, _, _, _, rfl, rfl, Same.seq e ha, Same.seq e hb, by omega, fun p np => q _ p _ B _ rfl (Stp.open e np) np (e.free np) upd_same (dpAll_app da db)⟩))
theorem rep_len {α : Type} (xs : List α) (n : Nat) : (List.replicate n xs).flatten.length = n * xs.length := by
  induction n with
  | zero => simp
  | succ n ih => rw [List.replicate_succ, List.flatten_cons, List.length_append, ih, Nat.succ_mul]; omega
theorem dpAll_rep {H : Hp} {vs : List V} {ds : List PyData} (h : DpAll K H vs ds) : ∀ n : Nat, DpAll K H (List.replicate n vs).flatten (List.replicate n ds).flatten
  | 0 => .nil
  | n + 1 => by
    rw [List.replicate_succ, List.replicate_succ, List.flatten_cons, List.flatten_cons]
    exact dpAll_app h (dpAll_rep h n)
theorem rv_repT {xs : List PyData} {k : Int} (hne : xs ≠ []) (hl : xs.length ≤ 1000) (h1 : k ≤ 1000) (h2 : -1000 ≤ k) : Rv K (rMulG K) (.d (.tuple xs)) (.d (.int k)) (· = .d (.tuple (List.replicate k.toNat xs).flatten)) := Rv.rgt (Rv.lft fun B H v w e a b Q q => by
  cases a with
  | tup ha da =>
    cases b
    have l1 := dpAll_len da
    refine ⟨_, _, _, rfl, rfl, sameT e ha, fun z => hne (by subst z; cases da; rfl), h1, h2, by omega, fun z => ?_, fun _ p np => ?_⟩
    · subst z
      rw [show (List.replicate (Int.toNat 1) xs).flatten = xs by simp] at q
      exact q _ _ B H rfl (Stp.refl e) (Dp.tup ha da)
    · exact q _ _ _ _ rfl (Stp.new e np) (Dp.tup (SqT.of upd_same) (dpAllMono (same_upd (e.free np)) (dpAll_rep da _))))
/-! places -/
theorem atI_of {α : Type} {xs : List α} {j : Nat} {i : Int} {v : α} (h : xs[j]? = some v) (e : i = j) : atI xs i = some v := by rw [e]; exact atI_nat h
theorem rv_ixT {xs : List PyData} {d : PyData} {i : Int} (h : atI xs i = some d) : Rv K (rIx K) (.d (.tuple xs)) (.d (.int i)) (· = .d d) := fun B H v w e a b Q q => by
  cases a with
  | tup ha da =>
    cases b
    unfold atI at h
    obtain ⟨j, hj, hx⟩ := Option.bind_eq_some_iff.mp h
    obtain ⟨u, hu, ru⟩ := dpAll_get da hx
    refine .inr (.inl ⟨_, _, i, u, rfl, rfl, sameT e ha, ?_, q _ _ B H rfl (Stp.refl e) ru⟩)
    unfold atI
    rw [dpAll_len da, hj]
    exact hu
theorem rv_ixL {xs : List PyData} {d : PyData} {i : Int} (h : atI xs i = some d) : Rv K (rIx K) (.d (.list xs)) (.d (.int i)) (· = .d d) := fun B H v w e a b Q q => by
  cases a with
  | lst ha da =>
    cases b
    unfold atI at h
    obtain ⟨j, hj, hx⟩ := Option.bind_eq_some_iff.mp h
    obtain ⟨u, hu, ru⟩ := dpAll_get da hx
    refine .inl ⟨_, _, i, u, rfl, rfl, Same.seq e ha, ?_, q _ _ B H rfl (Stp.refl e) ru⟩
    unfold atI
    rw [dpAll_len da, hj]
    exact hu
/-- an int of an open list -/
theorem rv_ixLt {xs : List PyData} {n : Int} {i : Int} (h : atI xs i = some (.int n)) : Rv K (rIx K) (.t (.list xs)) (.d (.int i)) (· = .d (.int n)) := fun B H v w e a b Q q => by
  cases a with
  | lst ha da =>
    cases b
    unfold atI at h
    obtain ⟨j, hj, hx⟩ := Option.bind_eq_some_iff.mp h
    obtain ⟨u, hu, ru⟩ := dpAll_get da hx
    cases ru
    refine .inl ⟨_, _, i, _, rfl, rfl, ha, ?_, q _ _ B H rfl (Stp.refl e) (.int n)⟩
    unfold atI
    rw [dpAll_len da, hj]
    exact hu
/-! calls -/
variable {c c' : List V → Hp → VK → Prop} {xs : List Dv}
theorem Rc.lft (h : Rc K c xs P) : Rc K (cOr c c') xs P := fun B H vs e a Q q => .inl (h B H vs e a Q q)
theorem Rc.rgt (h : Rc K c' xs P) : Rc K (cOr c c') xs P := fun B H vs e a Q q => .inr (h B H vs e a Q q)
theorem dv1 {B H : Hp} {vs : List V} (h : DVs K B H [x] vs) : ∃ v, vs = [v] ∧ DV K B H x v := by
  cases h with
  | cons a b => cases b; exact ⟨_, rfl, a⟩
theorem dv2 {B H : Hp} {vs : List V} (h : DVs K B H [x, y] vs) : ∃ v w, vs = [v, w] ∧ DV K B H x v ∧ DV K B H y w := by
  cases h with
  | cons a b => cases b with | cons b c => cases c; exact ⟨_, _, rfl, a, b⟩
theorem rc_len {d : PyData} {ds : List PyData} (h : Rd1 x d) (hd : d = .list ds ∨ d = .tuple ds) : Rc K (rLenS K) [x] (· = .d (.int (ds.length : Nat))) := fun B H vs e a0 Q q => by
  obtain ⟨v, rfl, a⟩ := dv1 a0
  have dp := h.dp e a
  rcases hd with rfl | rfl
  · cases dp with
    | lst hs ha => exact ⟨_, _, rfl, .inl hs, by rw [dpAll_len ha]; exact q _ _ B H rfl (Stp.refl e) (.int _)⟩
  · cases dp with
    | tup hs ha => exact ⟨_, _, rfl, .inr hs, by rw [dpAll_len ha]; exact q _ _ B H rfl (Stp.refl e) (.int _)⟩
theorem rc_max2 {i j : Int} : Rc K (rMaxG K) [.d (.int i), .d (.int j)] (· = .d (.int (max i j))) := Rc.rgt fun B H vs e a0 Q q => by
  obtain ⟨v, w, rfl, a, b⟩ := dv2 a0
  cases a; cases b
  refine ⟨i, j, rfl, ?_⟩
  rw [show (if j > i then j else i) = max i j by omega]
  exact q _ _ B H rfl (Stp.refl e) (.int _)
theorem rc_min2 {i j : Int} : Rc K (rMinG K) [.d (.int i), .d (.int j)] (· = .d (.int (min i j))) := Rc.rgt fun B H vs e a0 Q q => by
  obtain ⟨v, w, rfl, a, b⟩ := dv2 a0
  cases a; cases b
  refine ⟨i, j, rfl, ?_⟩
  rw [show (if j < i then j else i) = min i j by omega]
  exact q _ _ B H rfl (Stp.refl e) (.int _)
/-- x is a list or a tuple of ints -/
def IsD (x : Dv) (ns : List Int) : Prop := Rd1 x (lI ns) ∨ Rd1 x (tI ns)
theorem IsD.is {B H : Hp} {v : V} {ns : List Int} (h : IsD x ns) (e : Same B H) (a : DV K B H x v) : IsIs K H v ns := by
  rcases h with h | h
  · exact .inl (h.dp e a)
  · exact .inr (h.dp e a)
theorem rc_max {n : Int} {ns : List Int} (h : IsD x (n :: ns)) : Rc K (rMaxG K) [x] (· = .d (.int (ns.foldl max n))) := Rc.lft fun B H vs e a0 Q q => by
  obtain ⟨v, rfl, a⟩ := dv1 a0
  exact ⟨v, n, ns, rfl, h.is e a, q _ _ B H rfl (Stp.refl e) (.int _)⟩
theorem rc_min {n : Int} {ns : List Int} (h : IsD x (n :: ns)) : Rc K (rMinG K) [x] (· = .d (.int (ns.foldl min n))) := Rc.lft fun B H vs e a0 Q q => by
  obtain ⟨v, rfl, a⟩ := dv1 a0
  exact ⟨v, n, ns, rfl, h.is e a, q _ _ B H rfl (Stp.refl e) (.int _)⟩
theorem rc_sum {ns : List Int} (h : IsD x ns) : Rc K (rSumD K) [x] (· = .d (.int ns.sum)) := fun B H vs e a0 Q q => by
  obtain ⟨v, rfl, a⟩ := dv1 a0
  exact ⟨v, ns, rfl, h.is e a, q _ _ B H rfl (Stp.refl e) (.int _)⟩
theorem rc_all {bs : List Bool} (h : Rd1 x (.list (bs.map .bool))) : Rc K (rAll K) [x] (· = .d (.bool (bs.all id))) := fun B H vs e a0 Q q => by
  obtain ⟨v, rfl, a⟩ := dv1 a0
  have dp := h.dp e a
  cases dp with
  | lst hs ha =>
    have := dpAll_bls ha
    subst this
    exact ⟨_, bs, rfl, hs, q _ _ B H rfl (Stp.refl e) (.bl _)⟩
theorem rc_any {bs : List Bool} (h : Rd1 x (.list (bs.map .bool))) : Rc K (rAny K) [x] (· = .d (.bool (bs.any id))) := fun B H vs e a0 Q q => by
  obtain ⟨v, rfl, a⟩ := dv1 a0
  have dp := h.dp e a
  cases dp with
  | lst hs ha =>
    have := dpAll_bls ha
    subst this
    exact ⟨_, bs, rfl, hs, q _ _ B H rfl (Stp.refl e) (.bl _)⟩
theorem rc_int {n : Int} : Rc K rInt1 [.d (.int n)] (· = .d (.int n)) := fun B H vs e a0 Q q => by
  obtain ⟨v, rfl, a⟩ := dv1 a0
  cases a
  exact .inl ⟨n, rfl, q _ _ B H rfl (Stp.refl e) (.int _)⟩
theorem rc_intB {b : Bool} : Rc K rInt1 [.d (.bool b)] (· = .d (.int (if b then 1 else 0))) := fun B H vs e a0 Q q => by
  obtain ⟨v, rfl, a⟩ := dv1 a0
  cases a
  exact .inr ⟨b, rfl, q _ _ B H rfl (Stp.refl e) (.int _)⟩
theorem rc_abs {n : Int} : Rc K rAbs [.d (.int n)] (· = .d (.int n.natAbs)) := fun B H vs e a0 Q q => by
  obtain ⟨v, rfl, a⟩ := dv1 a0
  cases a
  refine ⟨n, rfl, ?_⟩
  rw [show (if n < 0 then -n else n) = (n.natAbs : Int) by omega]
  exact q _ _ B H rfl (Stp.refl e) (.int _)
theorem rc_tupL {ds : List PyData} : Rc K (rTupOf K) [.d (.list ds)] (· = .d (.tuple ds)) := fun B H vs e a0 Q q => by
  obtain ⟨v, rfl, a⟩ := dv1 a0
  cases a with
  | lst hs ha => exact ⟨_, _, rfl, .inl ⟨Same.seq e hs, fun p np => q _ _ _ _ rfl (Stp.new e np) (Dp.tup (SqT.of upd_same) (dpAllMono (same_upd (e.free np)) ha))⟩⟩
theorem rc_tupT {ds : List PyData} : Rc K (rTupOf K) [.d (.tuple ds)] (· = .d (.tuple ds)) := fun B H vs e a0 Q q => by
  obtain ⟨v, rfl, a⟩ := dv1 a0
  cases a with
  | tup hs ha => exact ⟨_, _, rfl, .inr ⟨sameT e hs, q _ _ B H rfl (Stp.refl e) (Dp.tup hs ha)⟩⟩
theorem rcl_lst {ds : List PyData} (h : x = .d (.list ds) ∨ x = .d (.tuple ds)) : RcL K (rLstOf K) [x] (· = ds) := fun B H vs e a0 Q q => by
  obtain ⟨v, rfl, a⟩ := dv1 a0
  rcases h with rfl | rfl
  · cases a with
    | lst hs ha => exact ⟨_, _, rfl, .inl (Same.seq e hs), fun p np => q _ p _ B _ rfl (Stp.open e np) np (e.free np) upd_same ha⟩
  · cases a with
    | tup hs ha => exact ⟨_, _, rfl, .inr (sameT e hs), fun p np => q _ p _ B _ rfl (Stp.open e np) np (e.free np) upd_same ha⟩
theorem rc_divmod {i j : Int} (h : 0 < j) (h2 : j < 1073741824) : Rc K rDivmod [.d (.int i), .d (.int j)] (· = .d (.tuple [.int (i / j), .int (i % j)])) := fun B H vs e a0 Q q => by
  obtain ⟨v, w, rfl, a, b⟩ := dv2 a0
  cases a; cases b
  exact ⟨i, j, rfl, ⟨h, h2⟩, fun p np => q _ _ _ _ rfl (Stp.new e np) (Dp.tup (SqT.of upd_same) (.cons (.int _) (.cons (.int _) .nil)))⟩
theorem rc_isa {c : String} {d : PyData} {b : Bool} (h : Rd1 x d) (hb : isa c d = some b) : Rc K (rIsaD K) [x, .raw (.ty c)] (· = .d (.bool b)) := fun B H vs e a0 Q q => by
  obtain ⟨v, w, rfl, a, rfl⟩ := dv2 a0
  exact ⟨v, d, c, b, rfl, h.dp e a, hb, q _ _ B H rfl (Stp.refl e) (.bl _)⟩
/-- sorted, by its one list -/
theorem rcl_sorted {ns : List Int} (h : IsD x ns) : RcL K (rSortedX K) [x] (fun l => ∃ ms : List Int, l = ms.map .int ∧ ms.Perm ns ∧ ms.Pairwise (· ≤ ·)) := fun B H vs e a0 Q q => by
  obtain ⟨v, rfl, a⟩ := dv1 a0
  exact ⟨v, ns, rfl, h.is e a, fun ms p pm od np => q _ p _ B _ ⟨ms, rfl, pm, od⟩ (Stp.open e np) np (e.free np) upd_same (dpAll_of_ints ms)⟩
end
/-- a call with keywords -/
theorem ev_kwL {K : PySem.W.Frag} {es : List Sl} {b : Bool} {ns : List Int} {x : Dv} {t tk : TA} (ht : EvA K t es (· = [x])) (hk : EvA K tk es (· = [.d (.bool b)])) (h : IsD x ns) :
    EvL K (tCKw (rSortedR K b [.bl b]) t tk) es (fun l => ∃ ms : List Int, l = ms.map .int ∧ ms.Perm ns ∧ OrdB b ms) := fun B0 H0 B σ H o Q q =>
  ht B0 H0 B σ H o _ fun xs vs B1 H1 e s1 d1 => hk B0 H0 B1 σ H1 (o.mono s1) _ fun ys ws B2 H2 e2 s2 d2 => by
    subst e; subst e2
    obtain ⟨v, rfl, a⟩ := dv1 d1
    obtain ⟨w, rfl, b'⟩ := dv1 d2
    cases b'
    exact ⟨v, ns, rfl, rfl, h.is s2.bh (a.mono s2.bb s2.hh), fun ms p pm od np => q _ p _ B2 _ ⟨ms, rfl, pm, od⟩ ((s1.trans s2).trans (Stp.open s2.bh np)) (s1.hh.free (s2.hh.free np)) (s2.bh.free np) upd_same (dpAll_of_ints ms)⟩
end HM
end
section
/-! HM core 6: what the printed terms name -/
namespace HM
open PySem PySem.Spec PyProof.Rows L2 RZ

/-- a def that may be called by its name -/
structure Cl (P : Program) (w : World) (K : PySem.W.Frag) (mg : Str → Option Value) (base : Heap) (k : Nat) (x : Str) (sp : Sp) : Prop where
  ex : ∃ (f : Addr) (fd : FuncData) (ps : List Str), FnOk P w K mg base CX0 k f fd ps sp ∧ mg x = some (.ref f) ∧ PySem.W.keepIn K (.ref f) = true ∧ Binds K fd ps []
/-- the built-in names that stand -/
structure Blt (mg : Str → Option Value) : Prop where
  n_len : mg "len" = none
  n_tuple : mg "tuple" = none
  n_list : mg "list" = none
  n_range : mg "range" = none
  n_max : mg "max" = none
  n_min : mg "min" = none
  n_sum : mg "sum" = none
  n_all : mg "all" = none
  n_any : mg "any" = none
  n_sorted : mg "sorted" = none
  n_int : mg "int" = none
  n_bool : mg "bool" = none
  n_str : mg "str" = none
  n_abs : mg "abs" = none
  n_divmod : mg "divmod" = none
  n_isinstance : mg "isinstance" = none
  n_zip : mg "zip" = none
  n_enumerate : mg "enumerate" = none
  n_repr : mg "repr" = none
  n_set : mg "set" = none
section
variable {X : Cx} {k j : Nat} {x : Str} {sp : Sp} {p pos : Pos} {e : Expr} {es : List Expr} {t : TA} {te : TE}
theorem pe_cl (c : Cl X.prog X.w X.K X.mg X.base k x sp) (hr : Room j X.A) (hk : k ≤ j) (hg : Gl X x) (ha : PA X (e :: es) t)
    (hdb : (x == ("__debug__" : Str)) = false := by decide) (he : starEach (e :: es) X.env = (false, eval e X.env) :: starEach es X.env := by rfl) (hpl : (backTo pos (starEach es X.env)).any (·.1) = false := by rfl) :
    PE X (.Call (.Name x p) (e :: es) [] pos) (tCall sp [] E0 t) := by
  obtain ⟨f, fd, ps, F, hm, kp, b⟩ := c.ex
  exact pe_call F (hr.mono hk) hg hm kp b .nil pass0 ha hdb he hpl
def iSeq (K : PySem.W.Frag) (te : TE) : TI := fun σ H R => iList K te σ H R ∨ iTup K te σ H R
theorem pi_seq {tg l : Expr} (hl : PE X l te) : PI X tg l (iSeq X.K te) := ⟨fun pins s σ H R I h => by
  rcases h with h | h
  · exact (pi_list hl).run pins s σ H R I h
  · exact (pi_tup hl).run pins s σ H R I h⟩
/-- a slice -/
def rSlG (K : PySem.W.Frag) : V → Option Int → Option Int → Hp → VK → Prop := fun x lo hi H Q => rSlL K x lo hi H Q ∨ rSlA K x lo hi H Q
theorem sl_seq : SlR X (rSlG X.K) := sl_list.or sl_tupA
end
section
variable {K : PySem.W.Frag} {es : List Sl} {te : TE}
theorem EvI.imp {wi : TI} {P P' : Nat → (Nat → Dv) → Prop} (h : EvI K wi es P) (k : ∀ n f, P n f → P' n f) : EvI K wi es P' := fun B0 H0 B σ H o R r => h B0 H0 B σ H o R fun J n f B2 H2 p => r J n f B2 H2 (k n f p)
theorem ei_seqL {xs : List PyData} (h : Ev K te es (· = .d (.list xs))) : EvI K (iSeq K te) es (fun n f => n = xs.length ∧ f = fun i => .d (xs.getD i .none)) := fun B0 H0 B σ H o R r => .inl (ei_list h B0 H0 B σ H o R r)
theorem ei_seqT {xs : List PyData} (h : Ev K te es (· = .d (.tuple xs))) : EvI K (iSeq K te) es (fun n f => n = xs.length ∧ f = fun i => .d (xs.getD i .none)) := fun B0 H0 B σ H o R r => .inr (ei_tup h B0 H0 B σ H o R r)
theorem ei_zipL {ta : TA} {xs ys : List PyData} (h : EvA K ta es (· = [.d (.list xs), .d (.list ys)])) : EvI K (iZipA K ta) es (fun n f => n = min xs.length ys.length ∧ f = fun i => .d (.tuple [xs.getD i .none, ys.getD i .none])) := fun B0 H0 B σ H o R r =>
  h B0 H0 B σ H o _ fun x v B1 H1 e s1 d1 => by
    subst e
    obtain ⟨v, w, rfl, a, b⟩ := dv2 d1
    cases a with
    | lst ha da =>
      cases b with
      | lst hb db => exact ⟨_, _, _, _, rfl, .inl ⟨Same.seq s1.bh ha, Same.seq s1.bh hb, r _ _ _ B1 H1 ⟨rfl, rfl⟩ s1 (wk_zip ha da hb db)⟩⟩
/-- zip of two tuples -/
theorem wk_zipT {B : Hp} {a b : Addr} {vs ws : List V} {xs ys : List PyData} (hs : SqT K B a vs) (ha : DpAll K B vs xs) (hs' : SqT K B b ws) (ha' : DpAll K B ws ys) :
    Wk K B (ItzT K a b) (min xs.length ys.length) (fun i => .d (.tuple [xs.getD i .none, ys.getD i .none])) where
  go := fun i H e hi => by
    obtain ⟨v1, k1, _⟩ := dpAll_get ha (getD_some (xs := xs) (i := i) (by omega))
    obtain ⟨v2, k2, _⟩ := dpAll_get ha' (getD_some (xs := ys) (i := i) (by omega))
    exact ⟨vs, ws, v1, v2, sameT e hs, sameT e hs', k1, k2⟩
  stop := fun H e => ⟨vs, ws, sameT e hs, sameT e hs', by rw [dpAll_len ha, dpAll_len ha']; omega⟩
  yld := fun B1 i H x H' e e1 hi h => by
    obtain ⟨T, x1, y1, rfl, nT, rfl, g1, g2⟩ := h
    have g1 := g1 vs (sameT (e.trans e1) hs)
    have g2 := g2 ws (sameT (e.trans e1) hs')
    obtain ⟨v1, k1, r1⟩ := dpAll_get ha (getD_some (xs := xs) (i := i) (by omega))
    obtain ⟨v2, k2, r2⟩ := dpAll_get ha' (getD_some (xs := ys) (i := i) (by omega))
    rw [k1] at g1
    rw [k2] at g2
    cases g1
    cases g2
    have sb : Same B1 (upd B1 T (.tup [x1, y1])) := same_upd (e1.free nT)
    exact ⟨_, Stp.new e1 nT, Dp.tup (SqT.of upd_same) (.cons (dpMono (e.trans sb) r1) (.cons (dpMono (e.trans sb) r2) .nil))⟩
theorem ei_zipT {ta : TA} {xs ys : List PyData} (h : EvA K ta es (· = [.d (.tuple xs), .d (.tuple ys)])) : EvI K (iZipA K ta) es (fun n f => n = min xs.length ys.length ∧ f = fun i => .d (.tuple [xs.getD i .none, ys.getD i .none])) := fun B0 H0 B σ H o R r =>
  h B0 H0 B σ H o _ fun x v B1 H1 e s1 d1 => by
    subst e
    obtain ⟨v, w, rfl, a, b⟩ := dv2 d1
    cases a with
    | tup ha da =>
      cases b with
      | tup hb db => exact ⟨_, _, _, _, rfl, .inr ⟨sameT s1.bh ha, sameT s1.bh hb, r _ _ _ B1 H1 ⟨rfl, rfl⟩ s1 (wk_zipT ha da hb db)⟩⟩
/-! comprehensions whose parts are known -/
/-- [elt for target in iter] -/
theorem ev_lcAll {wi : TI} {g : TG} {vs js : List Nat} {n : Nat} {f : Nat → Dv} (h : EvI K wi es (fun m h => m = n ∧ h = f)) (v : Nat → PyData) (hn : n ≤ 8000000) (hj : ∀ j ∈ js, j ∈ vs)
    (k : ∀ i, i < n → ∃ es2, Tg K js g (wipeS es vs) (f i) es2 ∧ Ev K te es2 (· = .d (v i))) : EvL K (tLc wi g tYes te vs) es (· = (List.range n).map v) :=
  ev_lc (Pi := fun m h => m = n ∧ h = f) h (fun i ys => ys = (List.range i).map v) (fun _ b => b = true) (fun i d => d = v i) rfl hj fun m f' ⟨em, ef⟩ => by
    subst em; subst ef
    refine ⟨hn, fun i hi => ?_, fun i ys d hi hy _ hd => ?_, fun i ys _ _ hb => (nomatch hb), fun ys hy => hy⟩
    · obtain ⟨es2, tg, ev⟩ := k i hi
      exact ⟨es2, tg, et_yes, fun _ => ev.imp fun x e => ⟨v i, e, rfl⟩⟩
    · rw [hy, hd, List.range_succ, List.map_append]
      rfl
/-- .. if a test, whose answer is known -/
theorem ev_lcIf {wi : TI} {g : TG} {tt : TT} {vs js : List Nat} {n : Nat} {f : Nat → Dv} (h : EvI K wi es (fun m h => m = n ∧ h = f)) (b : Nat → Bool) (v : Nat → PyData) (hn : n ≤ 8000000) (hj : ∀ j ∈ js, j ∈ vs)
    (k : ∀ i, i < n → ∃ es2, Tg K js g (wipeS es vs) (f i) es2 ∧ EvT K tt es2 (· = b i) ∧ (b i = true → Ev K te es2 (· = .d (v i)))) : EvL K (tLc wi g tt te vs) es (· = ((List.range n).filter b).map v) :=
  ev_lc (Pi := fun m h => m = n ∧ h = f) h (fun i ys => ys = ((List.range i).filter b).map v) (fun i c => c = b i) (fun i d => d = v i) rfl hj fun m f' ⟨em, ef⟩ => by
    subst em; subst ef
    refine ⟨hn, fun i hi => ?_, fun i ys d hi hy hb hd => ?_, fun i ys hi hy hb => ?_, fun ys hy => hy⟩
    · obtain ⟨es2, tg, et, ev⟩ := k i hi
      exact ⟨es2, tg, et, fun e => (ev e.symm).imp fun x e => ⟨v i, e, rfl⟩⟩
    · rw [hy, hd, List.range_succ, List.filter_append, List.map_append, List.filter_cons, ← hb]
      rfl
    · rw [hy, List.range_succ, List.filter_append, List.filter_cons, ← hb]
      simp
/-- over a list of things told in Lean -/
theorem range_map {α β : Type} (xs : List α) (d : α) (v : α → β) : (List.range xs.length).map (fun i => v (xs.getD i d)) = xs.map v := by
  apply List.ext_getElem
  · simp
  · intro i h1 h2
    simp at h1
    simp [List.getD_eq_getElem?_getD, h1]
theorem range_filter {α β : Type} (d : α) (b : α → Bool) (v : α → β) : ∀ (xs : List α), ((List.range xs.length).filter fun i => b (xs.getD i d)).map (fun i => v (xs.getD i d)) = (xs.filter b).map v := by
  intro xs
  have e : ((List.range xs.length).map fun i => xs.getD i d) = xs := by
    have := range_map xs d (fun x => x)
    simpa using this
  conv => rhs; rw [← e]
  rw [List.filter_map, List.map_map]
  rfl
end
end HM
end
section
/-! HM core 7: forms that one uses -/
namespace HM
open PySem PySem.Spec PyProof.Rows L2 RZ
section
variable {K : PySem.W.Frag} {es : List Sl} {te ta : TE} {t u : TS} {p : Pst} {P : Dv → Prop}
/-- e' forgets some slots of e -/
def Less (e e' : List Sl) : Prop := e'.length = e.length ∧ ∀ (i : Nat) s, e'[i]? = some s → s = .no ∨ e[i]? = some s
theorem Ok.less {B0 H0 B H : Hp} {σ : L2.St} {e e' : List Sl} (o : Ok K B0 H0 B e σ H) (h : Less e e') : Ok K B0 H0 B e' σ H := by
  refine ⟨o.st, h.1.trans o.len, fun i s hs => ?_, fun i j xs ys a b hij h1 h2 => ?_⟩
  · rcases h.2 i s hs with rfl | hs'
    · have hl : i < σ.length := by
        have := (List.getElem?_eq_some_iff.mp hs).1
        rw [h.1, o.len] at this
        exact this
      exact ⟨σ[i], List.getElem?_eq_getElem hl, trivial⟩
    · exact o.sl i s hs'
  · rcases h.2 i _ h1 with z | h1
    · cases z
    · rcases h.2 j _ h2 with z | h2
      · cases z
      · exact o.ne i j xs ys a b hij h1 h2
theorem Less.refl (e : List Sl) : Less e e := ⟨rfl, fun _ _ h => .inr h⟩
theorem less_nil : Less [] [] := Less.refl _
theorem less_same {s : Sl} {e e' : List Sl} (h : Less e e') : Less (s :: e) (s :: e') := ⟨by simp [h.1], fun i s' hs => by
  cases i with
  | zero => exact .inr hs
  | succ i => exact h.2 i s' (by simpa using hs)⟩
theorem less_no {s : Sl} {e e' : List Sl} (h : Less e e') : Less (s :: e) (.no :: e') := ⟨by simp [h.1], fun i s' hs => by
  cases i with
  | zero => exact .inl (by simpa using hs.symm)
  | succ i => exact h.2 i s' (by simpa using hs)⟩
theorem sx_weak {N : List Sl → Prop} (h : Sx K t es { p with nx := N }) (k : ∀ e, N e → ∃ e', Less e e' ∧ p.nx e') : Sx K t es p := fun B0 H0 B σ H D o g =>
  h B0 H0 B σ H D o ⟨fun e B1 σ1 H1 m q o1 => by
    obtain ⟨e', l, m'⟩ := k e m
    exact g.nx e' B1 σ1 H1 m' q (o1.less l), g.rt, g.rl, g.rx, g.bk, g.ct⟩
theorem sx_less {es' : List Sl} (l : Less es es') (h : Sx K t es' p) : Sx K t es p := fun B0 H0 B σ H D o g => h B0 H0 B σ H D (o.less l) g
/-! comprehensions -/
section
variable {α β : Type}
theorem getD_map (xs : List α) (enc : α → PyData) (i : Nat) (h : i < xs.length) : (xs.map enc).getD i .none = enc xs[i] := by
  simp [List.getD_eq_getElem?_getD, h]
/-- [elt for j in xs] -/
theorem ev_lcMap {wi : TI} {j : Nat} {vs : List Nat} (xs : List α) (enc : α → PyData) (v : α → PyData) (h : EvI K wi es (fun n f => n = (xs.map enc).length ∧ f = fun i => .d ((xs.map enc).getD i .none))) (hn : xs.length ≤ 8000000) (hj : j ∈ vs)
    (k : ∀ x, x ∈ xs → Ev K te ((wipeS es vs).set j (.im (.d (enc x)))) (· = .d (v x))) : EvL K (tLc wi (gName j) tYes te vs) es (· = xs.map v) :=
  ev_lc (js := [j]) (Pi := fun n f => n = (xs.map enc).length ∧ f = fun i => .d ((xs.map enc).getD i .none)) h (fun i ys => ys = (xs.take i).map v) (fun _ b => b = true) (fun i d => ∃ x, xs[i]? = some x ∧ d = v x) (by simp) (fun i hi => by rw [List.mem_singleton.mp hi]; exact hj) fun n f ⟨en, ef⟩ => by
    subst en; subst ef
    rw [List.length_map]
    refine ⟨hn, fun i hi => ⟨_, tg_name trivial, et_yes, fun _ => ?_⟩, fun i ys d hi hy _ ⟨x, hx, hd⟩ => ?_, fun i ys _ _ hb => (nomatch hb), fun ys hy => by rw [hy, List.take_length]⟩
    · show Ev K te ((wipeS es vs).set j (.im (.d ((xs.map enc).getD i .none)))) _
      rw [getD_map xs enc i hi]
      exact (k _ (List.getElem_mem hi)).imp fun z e => ⟨_, e, xs[i], List.getElem?_eq_getElem hi, rfl⟩
    · rw [hy, hd, List.take_add_one, hx, List.map_append]
      rfl
/-- [elt for j in xs if test] -/
theorem ev_lcFil {wi : TI} {j : Nat} {vs : List Nat} {tt : TT} (xs : List α) (enc : α → PyData) (b : α → Bool) (v : α → PyData) (h : EvI K wi es (fun n f => n = (xs.map enc).length ∧ f = fun i => .d ((xs.map enc).getD i .none))) (hn : xs.length ≤ 8000000) (hj : j ∈ vs)
    (k : ∀ x, x ∈ xs → EvT K tt ((wipeS es vs).set j (.im (.d (enc x)))) (· = b x) ∧ (b x = true → Ev K te ((wipeS es vs).set j (.im (.d (enc x)))) (· = .d (v x)))) : EvL K (tLc wi (gName j) tt te vs) es (· = (xs.filter b).map v) :=
  ev_lc (js := [j]) (Pi := fun n f => n = (xs.map enc).length ∧ f = fun i => .d ((xs.map enc).getD i .none)) h (fun i ys => ys = ((xs.take i).filter b).map v) (fun i c => ∃ x, xs[i]? = some x ∧ c = b x) (fun i d => ∃ x, xs[i]? = some x ∧ d = v x) (by simp) (fun i hi => by rw [List.mem_singleton.mp hi]; exact hj) fun n f ⟨en, ef⟩ => by
    subst en; subst ef
    rw [List.length_map]
    refine ⟨hn, fun i hi => ⟨_, tg_name trivial, ?_, fun ⟨x, hx, hb⟩ => ?_⟩, fun i ys d hi hy ⟨x', hx', hb⟩ ⟨x, hx, hd⟩ => ?_, fun i ys hi hy ⟨x, hx, hb⟩ => ?_, fun ys hy => by rw [hy, List.take_length]⟩
    · show EvT K tt ((wipeS es vs).set j (.im (.d ((xs.map enc).getD i .none)))) _
      rw [getD_map xs enc i hi]
      exact (k _ (List.getElem_mem hi)).1.imp fun z e => ⟨xs[i], List.getElem?_eq_getElem hi, e⟩
    · show Ev K te ((wipeS es vs).set j (.im (.d ((xs.map enc).getD i .none)))) _
      rw [getD_map xs enc i hi]
      rw [List.getElem?_eq_getElem hi] at hx
      cases hx
      exact ((k _ (List.getElem_mem hi)).2 hb.symm).imp fun z e => ⟨_, e, xs[i], List.getElem?_eq_getElem hi, rfl⟩
    · rw [hx] at hx'
      cases hx'
      rw [hy, hd, List.take_add_one, hx, Option.toList_some, List.filter_append, List.map_append, List.filter_cons, ← hb]
      rfl
    · rw [hy, List.take_add_one, hx, Option.toList_some, List.filter_append, List.filter_cons, ← hb]
      simp
/-- [elt for j in range(..)] -/
theorem ev_lcRange {wi : TI} {j : Nat} {vs : List Nat} {n : Nat} {lo : Int} (v : Nat → PyData) (h : EvI K wi es (fun m f => m = n ∧ f = fun i => .d (.int (lo + (i : Nat))))) (hn : n ≤ 8000000) (hj : j ∈ vs)
    (k : ∀ i, i < n → Ev K te ((wipeS es vs).set j (.im (.d (.int (lo + (i : Nat)))))) (· = .d (v i))) : EvL K (tLc wi (gName j) tYes te vs) es (· = (List.range n).map v) :=
  ev_lcAll (js := [j]) h v hn (fun i hi => by rw [List.mem_singleton.mp hi]; exact hj) fun i hi => ⟨_, tg_name trivial, k i hi⟩
/-- for a, b in zip(xs, ys) -/
theorem tg_pair {i j : Nat} {a b : PyData} : Tg K [i, j] (gTup K 2 (gCons (gName i) (gCons (gName j) gNil))) es (.d (.tuple [a, b])) ((es.set i (.im (.d a))).set j (.im (.d b))) :=
  tg_tup (tgs_cons (js := [i]) (ks := [j]) (tg_name trivial) (tgs_cons (js := [j]) (ks := []) (tg_name trivial) tgs_nil)) rfl
theorem ev_lcZip {wi : TI} {i j : Nat} {vs : List Nat} (xs : List α) (ys : List β) (enc : α → PyData) (enc' : β → PyData) (v : α → β → PyData)
    (h : EvI K wi es (fun n f => n = min (xs.map enc).length (ys.map enc').length ∧ f = fun i => .d (.tuple [(xs.map enc).getD i .none, (ys.map enc').getD i .none]))) (hn : xs.length ≤ 8000000) (hi : i ∈ vs) (hj : j ∈ vs)
    (k : ∀ x y, (x, y) ∈ xs.zip ys → Ev K te (((wipeS es vs).set i (.im (.d (enc x)))).set j (.im (.d (enc' y)))) (· = .d (v x y))) :
    EvL K (tLc wi (gTup K 2 (gCons (gName i) (gCons (gName j) gNil))) tYes te vs) es (· = (xs.zip ys).map fun p => v p.1 p.2) :=
  ev_lc (js := [i, j]) (Pi := fun n f => n = min (xs.map enc).length (ys.map enc').length ∧ f = fun i => .d (.tuple [(xs.map enc).getD i .none, (ys.map enc').getD i .none])) h (fun m zs => zs = ((xs.zip ys).take m).map fun p => v p.1 p.2) (fun _ b => b = true) (fun m d => ∃ p, (xs.zip ys)[m]? = some p ∧ d = v p.1 p.2) (by simp)
    (fun q hq => by
      rcases List.mem_cons.mp hq with rfl | hq
      · exact hi
      · rw [List.mem_singleton.mp hq]; exact hj) fun n f ⟨en, ef⟩ => by
    subst en; subst ef
    rw [List.length_map, List.length_map]
    refine ⟨by omega, fun m hm => ⟨_, tg_pair, et_yes, fun _ => ?_⟩, fun m zs d hm hz _ ⟨p, hp, hd⟩ => ?_, fun m zs _ _ hb => (nomatch hb), fun zs hz => by
      rw [hz, List.take_of_length_le (by rw [List.length_zip]; exact Nat.le_refl _)]⟩
    · have h1 : m < xs.length := by omega
      have h2 : m < ys.length := by omega
      rw [getD_map xs enc m h1, getD_map ys enc' m h2]
      have hz : (xs.zip ys)[m]? = some (xs[m], ys[m]) := by
        rw [List.getElem?_eq_getElem (by rw [List.length_zip]; omega), List.getElem_zip]
      exact (k _ _ (List.mem_of_getElem? hz)).imp fun z e => ⟨_, e, _, hz, rfl⟩
    · rw [hz, hd, List.take_add_one, hp, List.map_append]
      rfl
end
end
theorem ordB_true {ms : List Int} (h : OrdB true ms) : ms.Pairwise (· ≥ ·) := by
  unfold OrdB at h
  rw [if_pos rfl] at h
  exact h
section
variable {K : PySem.W.Frag} {es : List Sl} {te ta tb : TE} {t u : TS} {p : Pst} {α : Type}
theorem rc_allM {xs : List α} {q : α → Bool} : Rc K (rAll K) [.d (.list (xs.map fun a => .bool (q a)))] (· = .d (.bool (xs.all q))) := by
  have e : (xs.map fun a => PyData.bool (q a)) = (xs.map q).map .bool := by rw [List.map_map]; rfl
  have e2 : xs.all q = (xs.map q).all id := by simp
  rw [e, e2]
  exact rc_all (.inl rfl)
theorem rc_anyM {xs : List α} {q : α → Bool} : Rc K (rAny K) [.d (.list (xs.map fun a => .bool (q a)))] (· = .d (.bool (xs.any q))) := by
  have e : (xs.map fun a => PyData.bool (q a)) = (xs.map q).map .bool := by rw [List.map_map]; rfl
  have e2 : xs.any q = (xs.map q).any id := by simp
  rw [e, e2]
  exact rc_any (.inl rfl)
/-- all([q(x) for j in xs]) -/
theorem ev_allMap {wi : TI} {j : Nat} {vs : List Nat} (xs : List α) (enc : α → PyData) (q : α → Bool) (h : EvI K wi es (fun n f => n = (xs.map enc).length ∧ f = fun i => .d ((xs.map enc).getD i .none))) (hn : xs.length ≤ 8000000) (hj : j ∈ vs)
    (k : ∀ x, x ∈ xs → Ev K te ((wipeS es vs).set j (.im (.d (enc x)))) (· = .d (.bool (q x)))) : Ev K (tCB (rAll K) (tCons (tLc wi (gName j) tYes te vs) tNil)) es (· = .d (.bool (xs.all q))) :=
  ev_cbd (ea_consd (ev_lcMap xs enc (fun x => .bool (q x)) h hn hj k).evd ea_nil) rc_allM
/-- a test whose answer is known: the rest -/
theorem sx_ifT {c : TT} (h : EvT K c es (· = true)) (k : Sx K t es p) : Sx K (tIfS c t u) es p := sx_if h (fun _ => k) fun e => (nomatch e)
theorem sx_ifF {c : TT} (h : EvT K c es (· = false)) (k : Sx K u es p) : Sx K (tIfS c t u) es p := sx_if h (fun e => (nomatch e)) fun _ => k
/-- if c: return ..; then the rest -/
theorem sx_ifRet {c : TT} (h : EvT K c es (· = true)) (k : Sx K t es { p with nx := fun _ => False }) : Sx K (tSeq (tIfS c t tNext) u) es p := sx_seq (M := fun _ => False) (sx_ifT h k) fun _ m => m.elim
theorem sx_ifGo {c : TT} (h : EvT K c es (· = false)) (k : Sx K u es p) : Sx K (tSeq (tIfS c t tNext) u) es p := sx_seqd (sx_ifF h (sx_next rfl)) k
theorem et_or1 {c d : TT} (h : EvT K c es (· = true)) : EvT K (tOr c d) es (· = true) := et_or h (fun _ => rfl) fun e => (nomatch e)
theorem et_or2 {c d : TT} {b : Bool} (h : EvT K c es (· = false)) (k : EvT K d es (· = b)) : EvT K (tOr c d) es (· = b) := et_or h (fun e => (nomatch e)) fun _ => k
theorem et_and0 {c d : TT} (h : EvT K c es (· = false)) : EvT K (tAnd c d) es (· = false) := et_and h (fun _ => rfl) fun e => (nomatch e)
theorem et_and1 {c d : TT} {b : Bool} (h : EvT K c es (· = true)) (k : EvT K d es (· = b)) : EvT K (tAnd c d) es (· = b) := et_and h (fun e => (nomatch e)) fun _ => k
theorem et_nb {c : TT} {a b : Bool} (h : EvT K c es (· = a)) (e : b = !a) : EvT K (tNot c) es (· = b) := by rw [e]; exact et_notd h
theorem Ev.to {x y : Dv} (h : Ev K te es (· = x)) (e : x = y) : Ev K te es (· = y) := by rw [← e]; exact h
theorem EvT.to {c : TT} {x y : Bool} (h : EvT K c es (· = x)) (e : x = y) : EvT K c es (· = y) := by rw [← e]; exact h
theorem EvL.to {x y : List PyData} (h : EvL K te es (· = x)) (e : x = y) : EvL K te es (· = y) := by rw [← e]; exact h
end
theorem map_int_inj {a b : List Int} (h : a.map PyData.int = b.map .int) : a = b := (List.map_inj_right fun x y e => PyData.int.inj e).mp h
theorem tI_inj {a b : List Int} (h : tI a = tI b) : a = b := map_int_inj (PyData.tuple.inj h)
theorem lI_inj {a b : List Int} (h : lI a = lI b) : a = b := map_int_inj (PyData.list.inj h)
theorem tI1 {a b : List Int} (h : [Dv.d (tI a)] = [.d (tI b)]) : a = b := tI_inj (Dv.d.inj (List.cons.inj h).1)
theorem lI1 {a b : List Int} (h : [Dv.d (lI a)] = [.d (lI b)]) : a = b := lI_inj (Dv.d.inj (List.cons.inj h).1)
theorem tI2 {a b c d : List Int} (h : [Dv.d (tI a), .d (tI c)] = [.d (tI b), .d (tI d)]) : a = b ∧ c = d := ⟨tI_inj (Dv.d.inj (List.cons.inj h).1), tI1 (List.cons.inj h).2⟩
theorem lI2 {a b c d : List Int} (h : [Dv.d (lI a), .d (lI c)] = [.d (lI b), .d (lI d)]) : a = b ∧ c = d := ⟨lI_inj (Dv.d.inj (List.cons.inj h).1), lI1 (List.cons.inj h).2⟩
section
variable {K : PySem.W.Frag}
theorem rv_eqI {i j : Int} : Rv K (rEqP K) (.d (.int i)) (.d (.int j)) (· = .d (.bool (decide (i = j)))) := by
  have := rv_eq (K := K) (x := .d (.int i)) (y := .d (.int j)) (.inl rfl) (.inl rfl) (flat_int _) (flat_int _)
  rwa [eqv_int] at this
theorem rv_neI {i j : Int} : Rv K (rNeP K) (.d (.int i)) (.d (.int j)) (· = .d (.bool (!decide (i = j)))) := by
  have := rv_ne (K := K) (x := .d (.int i)) (y := .d (.int j)) (.inl rfl) (.inl rfl) (flat_int _) (flat_int _)
  rwa [eqv_int] at this
theorem rv_eqT {a b : List Int} : Rv K (rEqP K) (.d (tI a)) (.d (tI b)) (· = .d (.bool (decide (a = b)))) := by
  have := rv_eq (K := K) (x := .d (tI a)) (y := .d (tI b)) (.inl rfl) (.inl rfl) (flat_tI _) (flat_tI _)
  rwa [eqv_tI] at this
theorem rv_neT {a b : List Int} : Rv K (rNeP K) (.d (tI a)) (.d (tI b)) (· = .d (.bool (!decide (a = b)))) := by
  have := rv_ne (K := K) (x := .d (tI a)) (y := .d (tI b)) (.inl rfl) (.inl rfl) (flat_tI _) (flat_tI _)
  rwa [eqv_tI] at this
end
section
variable {K : PySem.W.Frag} {es : List Sl} {tb : TS} {p : Pst} {α : Type}
/-- for j in xs -/
theorem sx_forMap {wi : TI} {j : Nat} (xs : List α) (enc : α → PyData) (h : EvI K wi es (fun n f => n = (xs.map enc).length ∧ f = fun i => .d ((xs.map enc).getD i .none))) (I : Nat → List Sl → Prop) (h0 : I 0 es)
    (k : ∀ (i : Nat) (hi : i < xs.length) es', I i es' → Sx K tb (es'.set j (.im (.d (enc xs[i])))) { p with nx := I (i + 1), ct := I (i + 1), bk := p.nx }) (hd : ∀ es', I xs.length es' → p.nx es') : Sx K (tFor wi (gName j) tb) es p :=
  sx_for (js := [j]) h I h0 fun n f ⟨en, ef⟩ => by
    subst en; subst ef
    rw [List.length_map]
    refine ⟨fun i es' hi hI => ⟨_, tg_name trivial, ?_⟩, hd⟩
    have := k i hi es' hI
    rw [← getD_map xs enc i hi] at this
    exact this
/-- for j in range(..) -/
theorem sx_forRange {wi : TI} {j : Nat} {n : Nat} {lo : Int} (h : EvI K wi es (fun m f => m = n ∧ f = fun i => .d (.int (lo + (i : Nat))))) (I : Nat → List Sl → Prop) (h0 : I 0 es)
    (k : ∀ (i : Nat) (hi : i < n) es', I i es' → Sx K tb (es'.set j (.im (.d (.int (lo + (i : Nat)))))) { p with nx := I (i + 1), ct := I (i + 1), bk := p.nx }) (hd : ∀ es', I n es' → p.nx es') : Sx K (tFor wi (gName j) tb) es p :=
  sx_for (js := [j]) h I h0 fun m f ⟨en, ef⟩ => by
    subst en; subst ef
    exact ⟨fun i es' hi hI => ⟨_, tg_name trivial, k i hi es' hI⟩, hd⟩
end
end HM
end
section
/-! HM core 8: pots, targets that write open lists -/
namespace HM
open PySem PySem.Spec PyProof.Rows L2
section
variable {K : PySem.W.Frag} {es es' : List Sl} {te ta tb : TE} {t u : TS} {p : Pst} {P : Dv → Prop}
/-! ### targets that write open lists -/
def TgW (K : PySem.W.Frag) (g : TG) (es : List Sl) (d : PyData) (es' : List Sl) : Prop := ∀ (B0 H0 B : Hp) (σ : L2.St) (H : Hp) (v : V), Ok K B0 H0 B es σ H → Dp K B v d → ∀ Q : L2.St → Hp → Prop,
  (∀ σ' B' H', Same B B' → Ok K B0 H0 B' es' σ' H' → Q σ' H') → g v σ H Q
def TgsW (K : PySem.W.Frag) (g : TGs) (es : List Sl) (ds : List PyData) (es' : List Sl) : Prop := ∀ (B0 H0 B : Hp) (σ : L2.St) (H : Hp) (vs : List V), Ok K B0 H0 B es σ H → DpAll K B vs ds → ∀ Q : L2.St → Hp → Prop,
  (∀ σ' B' H', Same B B' → Ok K B0 H0 B' es' σ' H' → Q σ' H') → g vs σ H Q
theorem tgw_of {js : List Nat} {g : TG} {d : PyData} (h : Tg K js g es (.d d) es') : TgW K g es d es' := fun B0 H0 B σ H v o r Q q => h B0 H0 B σ H v o r Q fun σ' o' _ _ => q σ' B H (Same.refl _) o'
theorem tgw_name {i : Nat} {d : PyData} : TgW K (gName i) es d (es.set i (.im (.d d))) := tgw_of (tg_name trivial)
theorem tgw_sub {i j : Nat} {xs : List PyData} {d : PyData} (e : es[i]? = some (.mu xs)) (hi : Ev K ta es (· = .d (.int (j : Int)))) (hj : j < xs.length) : TgW K (gSub (tVar i) ta rSetL) es d (es.set i (.mu (xs.set j d))) := fun B0 H0 B σ H v o r Q q => by
  obtain ⟨p, vs, e1, hb, h0, hp, ha⟩ := o.mu e
  refine ⟨_, e1, hi B0 H0 B σ H o _ fun y w B2 H2 py s2 d2 => ?_⟩
  subst py
  cases d2
  have o2 := o.mono s2
  obtain ⟨q', vs', e1', _, _, hp', ha'⟩ := o2.mu e
  rw [e1] at e1'
  cases e1'
  refine ⟨p, vs', (j : Int), j, rfl, rfl, hp', ?_, ?_⟩
  · have hl : j < vs'.length := by rw [dpAll_len ha']; exact hj
    unfold ixN
    rw [if_pos (Int.natCast_nonneg j), if_pos (Int.ofNat_lt.mpr hl)]
    rfl
  · exact q _ B2 _ s2.bb (o2.write e e1 (dpAll_set (dpMono s2.bb r) j ha'))
theorem tgsw_nil : TgsW K gNil es [] es := fun B0 H0 B σ H vs o d Q q => by
  cases d
  exact ⟨rfl, q σ B H (Same.refl _) o⟩
theorem tgsw_cons {g : TG} {gs : TGs} {d : PyData} {ds : List PyData} {es1 : List Sl} (h : TgW K g es d es1) (hs : TgsW K gs es1 ds es') : TgsW K (gCons g gs) es (d :: ds) es' := fun B0 H0 B σ H vs o da Q q => by
  cases da with
  | cons a b => exact ⟨_, _, rfl, h B0 H0 B σ H _ o a _ fun σ1 B1 H1 s1 o1 => hs B0 H0 B1 σ1 H1 _ o1 (dpAllMono s1 b) _ fun σ2 B2 H2 s2 o2 => q σ2 B2 H2 (s1.trans s2) o2⟩
theorem tgw_tup {g : TGs} {n : Nat} {ds : List PyData} (h : TgsW K g es ds es') (hn : ds.length = n) : TgW K (gTup K n g) es (.tuple ds) es' := fun B0 H0 B σ H v o d Q q => by
  cases d with
  | tup hs ha => exact ⟨_, _, rfl, sameT o.bh hs, by rw [dpAll_len ha, hn], h B0 H0 B σ H _ o ha Q q⟩
theorem sx_asgW {g : TG} {d : PyData} (h : Ev K te es (· = .d d)) (w : TgW K g es d es') (k : p.nx es') : Sx K (tAsg te g) es p := fun B0 H0 B σ H D o gg =>
  h B0 H0 B σ H o _ fun x v B1 H1 px s1 d1 => by
    subst px
    exact w B0 H0 B1 σ H1 v (o.mono s1) d1 _ fun σ' B' H' s' o' => gg.nx es' B' σ' H' k (s1.bb.trans s') o'
/-! ### rows: tuples of defs -/
theorem dvs_raw {K : PySem.W.Frag} {B H : Hp} : ∀ {rs vs : List V}, DVs K B H (rs.map .raw) vs → vs = rs
  | [], _, .nil => rfl
  | r :: rs, _, .cons a b => by rw [dvs_raw b]; exact congrArg (· :: rs) a
theorem ev_row {ta : TA} {rs : List V} (h : EvA K ta es (· = rs.map .raw)) (hl : rs.length ≤ 1000) : Ev K (tTup ta) es (· = .row rs) := fun B0 H0 B σ H o Q q =>
  h B0 H0 B σ H o _ fun l vs B1 H1 px s1 d1 => by
    subst px
    have e := dvs_raw d1
    subst e
    refine ⟨line_le (by omega), fun p hp => ?_⟩
    have hb : B1 p = none := s1.bh.free hp
    exact q (.row vs) (.ref p) (upd B1 p (.tup vs)) _ rfl (s1.trans (Stp.new s1.bh hp)) ⟨p, rfl, upd_same⟩
theorem dvs_rows {K : PySem.W.Frag} {B H : Hp} : ∀ {rows : List (List V)} {vs : List V}, DVs K B H (rows.map .row) vs → ∀ i, i < rows.length → ∃ a, vs[i]? = some (.ref a) ∧ B a = some (.tup (rows.getD i []))
  | [], _, .nil, i, h => by simp at h
  | r :: rs, _, .cons ⟨a, e1, e2⟩ b, 0, h => ⟨a, by rw [e1]; rfl, e2⟩
  | r :: rs, _, .cons a b, i + 1, h => by
    obtain ⟨c, e1, e2⟩ := dvs_rows b i (by simpa using h)
    exact ⟨c, by simpa using e1, by simpa using e2⟩
theorem ei_rows {ta : TA} {rows : List (List V)} (h : EvA K ta es (· = rows.map .row)) (hl : rows.length ≤ 1000) : EvI K (iSeq K (tTup ta)) es (fun n f => n = rows.length ∧ f = fun i => .row (rows.getD i [])) := fun B0 H0 B σ H o R r => .inr
  (h B0 H0 B σ H o _ fun l vs B1 H1 px s1 d1 => by
    subst px
    have hlen : vs.length = rows.length := by have := dvs_len d1; rw [List.length_map] at this; exact this.symm
    refine ⟨line_le (by omega), fun p hp => ?_⟩
    have hb : B1 p = none := s1.bh.free hp
    have sb : Same B1 (upd B1 p (.tup vs)) := same_upd hb
    refine ⟨p, rfl, ⟨vs, SqT.of upd_same⟩, r _ _ _ (upd B1 p (.tup vs)) _ ⟨rfl, rfl⟩ (s1.trans (Stp.new s1.bh hp)) ?_⟩
    refine ⟨fun i H e hi => ?_, fun H e => ⟨vs, SqT.of (e _ _ upd_same), by omega⟩, fun B2 i H x H' e e1 hi h => ?_⟩
    · obtain ⟨a, e1, e2⟩ := dvs_rows d1 i hi
      exact ⟨vs, _, SqT.of (e _ _ upd_same), e1⟩
    · obtain ⟨rfl, h⟩ := h
      obtain ⟨a, e2, e3⟩ := dvs_rows d1 i hi
      have := h vs (SqT.of (e1 _ _ (e _ _ upd_same)))
      rw [e2] at this
      cases this
      exact ⟨B2, Stp.refl e1, a, rfl, e _ _ (sb _ _ e3)⟩)
theorem tg_row2 {i j : Nat} {v u : V} : Tg K [i, j] (gTup K 2 (gCons (gName i) (gCons (gName j) gNil))) es (.row [v, u]) ((es.set i (.im (.raw v))).set j (.im (.raw u))) := fun B0 H0 B σ H x o ⟨a, e1, e2⟩ Q q => by
  subst e1
  refine ⟨a, _, rfl, SqT.of (o.bh _ _ e2), rfl, v, [u], rfl, u, [], rfl, rfl, ?_⟩
  refine q _ ((o.set i (x := .raw v) (v := v) rfl).set j (x := .raw u) (v := u) rfl) (by rw [List.length_set, List.length_set]) fun k hk => ?_
  rw [List.getElem?_set_ne (fun z => hk (by rw [z]; simp)), List.getElem?_set_ne (fun z => hk (by rw [z]; simp))]
/-- a local name that holds a def, called -/
theorem ev_cv1 {i : Nat} {f1 f2 : Addr} {Pre : List Dv → Prop} {Post : List Dv → Dv → Prop} {sp2 : Sp} {t : TA} {Pt : List Dv → Prop} (e : es[i]? = some (.im (.raw (.ref f1)))) (ht : EvA K t es Pt) (hp : ∀ xs, Pt xs → Pre xs ∧ ∀ z, Post xs z → P z) : Ev K (C8.tCallV i f1 f2 (spG K Pre Post) sp2 t) es P := fun B0 H0 B σ H o Q q => .inl (by
  obtain ⟨v, e1, e2⟩ := o.at e
  refine ⟨by rw [e1, e2], ht B0 H0 B σ H o _ fun xs vs B1 H1 px s1 d1 => ?_⟩
  exact ⟨B1, xs, s1.bh, d1, (hp xs px).1, fun z u B2 H2 hz s2 d2 => q z u B2 H2 ((hp xs px).2 z hz) (s1.trans s2) d2⟩)
theorem ev_cv2 {i : Nat} {f1 f2 : Addr} {Pre : List Dv → Prop} {Post : List Dv → Dv → Prop} {sp1 : Sp} {t : TA} {Pt : List Dv → Prop} (e : es[i]? = some (.im (.raw (.ref f2)))) (ht : EvA K t es Pt) (hp : ∀ xs, Pt xs → Pre xs ∧ ∀ z, Post xs z → P z) : Ev K (C8.tCallV i f1 f2 sp1 (spG K Pre Post) t) es P := fun B0 H0 B σ H o Q q => .inr (by
  obtain ⟨v, e1, e2⟩ := o.at e
  refine ⟨by rw [e1, e2], ht B0 H0 B σ H o _ fun xs vs B1 H1 px s1 d1 => ?_⟩
  exact ⟨B1, xs, s1.bh, d1, (hp xs px).1, fun z u B2 H2 hz s2 d2 => q z u B2 H2 ((hp xs px).2 z hz) (s1.trans s2) d2⟩)
end
/-! ### one draw -/
def tPotAt (K : PySem.W.Frag) (j : Int) : TE := tOp (rIx K) (tVar 0) (tC (.int j))
def tDraw (K : PySem.W.Frag) (c1 c2 m1 m2 dv : Int) : TS :=
  tSeq (tIfS (tTest (tOp rGtI (tPotAt K 0) (tC (.int 0)))) (tSeq (tAsg (tCB rDivmod (tCons (tPotAt K 0) (tCons (tVar 1) tNil))) (gTup K 2 (gCons (gSub (tVar 0) (tC (.int 0)) rSetL) (gCons (gName 2) gNil)))) (tRet (tVar 2))) tNext)
    (tSeq (tAsg (tOp rModI (tCB rInt1 (tCons (tOp (rAddG K) (tOp (rMulG K) (tPotAt K 1) (tC (.int c1))) (tC (.int c2))) tNil)) (tC (.int m1))) (gSub (tVar 0) (tC (.int 1)) rSetL))
      (tRet (tOp rModI (tCB rInt1 (tCons (tOp rDivI (tOp rModI (tCB rInt1 (tCons (tOp (rMulG K) (tPotAt K 1) (tPotAt K 1)) tNil)) (tC (.int m2))) (tC (.int dv))) tNil)) (tVar 1))))
section
variable {K : PySem.W.Frag}
theorem at_pot {p : Addr} {xs : List V} {H : Hp} {j : Int} {v : V} {Q : VK} (hp : H p = some (.lst xs)) (hj : atI xs j = some v) (q : Q v H) : rIx K (.ref p) (.int j) H Q := .inl ⟨p, xs, j, v, rfl, rfl, SqL.of hp, hj, q⟩
theorem draw_run {c1 c2 m1 m2 dv : Int} (k1 : 0 ≤ c1) (k2 : 0 ≤ c2) (k1' : c1 < 4294967296) (m1' : 0 < m1) (m1l : m1 ≤ 4294967296) (m2' : 0 < m2) (hd : 0 < dv) (hd2 : dv < 1073741824) {p : Addr} {a b n : Int} {H : Hp}
    (hp : H p = some (.lst [.int a, .int b])) (ok : PotOk a b) (hn : 0 < n) (hn2 : n < 1073741824) {D : Ends} (q : ∀ d a' b' H2, 0 ≤ d → d < n → PotOk a' b' → H2 p = some (.lst [.int a', .int b']) → (∀ x o, x ≠ p → H x = some o → H2 x = some o) → D.rt (.int d) H2) :
    tDraw K c1 c2 m1 m2 dv D [some (.ref p), some (.int n), none] H := by
  refine ⟨.ref p, rfl, at_pot hp rfl ⟨a, 0, rfl, rfl, _, rfl, ?_⟩⟩
  by_cases h : 0 < a
  · rw [decide_eq_true h]
    change (if true = true then _ else _)
    rw [if_pos rfl]
    refine ⟨.ref p, rfl, at_pot hp rfl ⟨.int n, rfl, ⟨a, n, rfl, ⟨hn, hn2⟩, fun t ht => ?_⟩⟩⟩
    have hp' : upd H t (.tup [.int (a / n), .int (a % n)]) p = some (.lst [.int a, .int b]) := by rw [upd_ne (ne_of_none hp ht)]; exact hp
    refine ⟨t, _, rfl, SqT.of upd_same, rfl, .int (a / n), [.int (a % n)], rfl, .ref p, rfl, p, _, 0, 0, rfl, rfl, hp', rfl, .int (a % n), [], rfl, rfl, .int (a % n), rfl, ?_⟩
    refine q (a % n) (a / n) b _ (Int.emod_nonneg _ (by omega)) (Int.emod_lt_of_pos _ hn) ⟨Int.ediv_nonneg (by omega) (by omega), ok.2⟩ (by rw [upd_same]; rfl) fun x o hx e => ?_
    rw [upd_ne hx, upd_ne (ne_of_none e ht)]
    exact e
  · rw [decide_eq_false h]
    change (if false = true then _ else _)
    rw [if_neg Bool.false_ne_true]
    have hb : 0 ≤ b ∧ b < 4294967296 := ok.2
    have lo := Int.emod_nonneg (b * c1 + c2) (show m1 ≠ 0 by omega)
    have hi := Int.emod_lt_of_pos (b * c1 + c2) m1'
    refine ⟨.ref p, rfl, at_pot hp rfl (.inl ⟨b, c1, rfl, rfl, .inl ⟨by omega, by omega⟩, .inl ⟨b * c1, c2, rfl, rfl, .inl ⟨_, rfl, _, m1, rfl, rfl, m1', .ref p, rfl, p, _, 1, 1, rfl, rfl, hp, rfl, ?_⟩⟩⟩)⟩
    have hp' : upd H p (.lst ([V.int a, .int b].set 1 (.int ((b * c1 + c2) % m1)))) p = some (.lst [.int a, .int ((b * c1 + c2) % m1)]) := by rw [upd_same]; rfl
    refine ⟨.ref p, rfl, at_pot hp' rfl ⟨.ref p, rfl, at_pot hp' rfl (.inl ⟨_, _, rfl, rfl, .inl ⟨by omega, by omega⟩, .inl ⟨_, rfl, _, m2, rfl, rfl, m2', _, dv, rfl, rfl, ⟨hd, hd2⟩, .inl ⟨_, rfl, .int n, rfl, _, n, rfl, rfl, hn, ?_⟩⟩⟩)⟩⟩
    refine q _ a _ _ (Int.emod_nonneg _ (by omega)) (Int.emod_lt_of_pos _ hn) ⟨ok.1, lo, by omega⟩ hp' fun x o hx e => ?_
    rw [upd_ne hx]
    exact e
def spDr : Sp := fun vs H Q _ => ∃ p a b n, vs = [.ref p, .int n] ∧ H p = some (.lst [.int a, .int b]) ∧ PotOk a b ∧ 0 < n ∧ n ≤ 1000000 ∧
  ∀ d a' b' H2, 0 ≤ d → d < n → PotOk a' b' → H2 p = some (.lst [.int a', .int b']) → (∀ x o, x ≠ p → H x = some o → H2 x = some o) → Q (.int d) H2
variable {Pg : Program} {w : World} {mg : Str → Option Value} {base : Heap}
theorem potIn {s : Heap} {H : Hp} {p : Addr} {a b : Int} (h : ObjOk Pg w H s p (.lst [.int a, .int b])) (ok : PotOk a b) {H' : Hp} : ObjOk Pg w H' s p (.ext (PotF p)) := by
  obtain ⟨_, its, n, r, e⟩ := h
  cases r with
  | cons r1 r2 =>
    cases r2 with
    | cons r2 r3 =>
      cases r3
      obtain ⟨t1, rfl⟩ := r1
      obtain ⟨t2, rfl⟩ := r2
      exact ⟨⟨a, b, t1, t2, n, ok, e⟩, ⟨_, e⟩, fun h1 h2 ⟨a, b, t, u, n, ok, e1⟩ k => ⟨a, b, t, u, n, ok, k _ e1⟩⟩
/-- a def over the pot's list is one over a pot -/
theorem FnOk.pot {f : Addr} {fd : FuncData} {ps : List Str} {k : Nat} {sp sp' : Sp} (F : FnOk Pg w K mg base CX0 k f fd ps sp)
    (h : ∀ vs H Q E, sp' vs H Q E → ∃ p, H p = some (.ext (PotF p)) ∧ ∀ a b, PotOk a b → sp vs (upd H p (.lst [.int a, .int b])) (fun u H2 => ∃ a' b', PotOk a' b' ∧ H2 p = some (.lst [.int a', .int b']) ∧ Q u (upd H2 p (.ext (PotF p)))) E) :
    FnOk Pg w K mg base CX0 k f fd ps sp' where
  len := fun vs H Q E q => by
    obtain ⟨p, _, q⟩ := h vs H Q E q
    exact F.len _ _ _ _ (q 0 0 ⟨by omega, by omega, by omega⟩)
  run := fun A outer s H args us vs Q E hr he hb hv hs => by
    obtain ⟨p, hp, q⟩ := h vs H Q E hs
    obtain ⟨⟨a, b, t1, t2, n, ok, e1⟩, _, _⟩ := he.hok p _ hp
    have ne : ∀ c, H c = none → c ≠ p := fun c z y => by rw [y, hp] at z; cases z
    have un1 : ∀ c, H c = none → upd H p (.lst [.int a, .int b]) c = none := fun c z => by rw [upd_ne (ne c z)]; exact z
    have hok1 : HOk Pg w (upd H p (.lst [.int a, .int b])) s.heap := he.hok.write (by rw [hp]; trivial) (.inl rfl) (fun _ _ _ z => z) ⟨_, e1⟩ ⟨line_le (by show 2 ≤ 16777216; omega), _, n, .cons ⟨t1, rfl⟩ (.cons ⟨t2, rfl⟩ .nil), e1⟩
    have he1 : Env0 Pg w K mg base A outer s (upd H p (.lst [.int a, .int b])) := ⟨he.frames, he.mod, fun c o z => ⟨(he.bs c o z).1, un1 c (he.bs c o z).2⟩, he.bsz, he.funs, fun c z => un1 c (he.frf c z), hok1, he.bare⟩
    refine codeAny_mono (F.run A outer s _ args us vs _ E hr he1 hb hv (q a b ok)) fun r s' hq => ?_
    match r, hq with
    | .ok (.ret u), ⟨v, H', os, bare, un, hok, rv, a', b', ok', hp', q'⟩ =>
      have ne' : ∀ c, H' c = none → c ≠ p := fun c z y => by rw [y, hp'] at z; cases z
      refine ⟨v, _, os, bare, ⟨fun c o e n => un.keep c o e (un1 c n), fun c o e n => un.slot c o e (un1 c n), fun c o e n x => ?_, fun c o e => un.there c o e, fun c xs e => ?_, fun c o u e => ?_, fun c ps e => ?_⟩, hok.write (by rw [hp']; trivial) (.inl rfl) (fun _ _ _ z => z) ?_ (potIn (hok p _ hp') ok'), rv, q'⟩
      · have := un.free c o e (un1 c n) x
        rw [upd_ne (ne' c this)]
        exact this
      · have nc : c ≠ p := fun z => by rw [z, hp] at e; cases e
        rw [upd_ne nc]
        exact un.tups c xs (by rw [upd_ne nc]; exact e)
      · have nc : c ≠ p := fun z => by rw [z, hp] at e; cases e
        rw [upd_ne nc]
        exact un.frzs c o u (by rw [upd_ne nc]; exact e)
      · have nc : c ≠ p := fun z => by rw [z, hp] at e; cases e
        rw [upd_ne nc]
        exact un.tbls c ps (by rw [upd_ne nc]; exact e)
      · obtain ⟨_, its, n, _, e⟩ := hok p _ hp'
        exact ⟨_, e⟩
/-- a def that gives a new list of two ints gives a pot -/
theorem FnOk.potNew {f : Addr} {fd : FuncData} {ps : List Str} {k : Nat} {sp sp' : Sp} (F : FnOk Pg w K mg base CX0 k f fd ps sp)
    (h : ∀ vs H Q E, sp' vs H Q E → sp vs H (fun u H2 => ∃ p a b, u = .ref p ∧ PotOk a b ∧ H2 p = some (.lst [.int a, .int b]) ∧ Q u (upd H2 p (.ext (PotF p)))) E) :
    FnOk Pg w K mg base CX0 k f fd ps sp' where
  len := fun vs H Q E q => F.len _ _ _ _ (h vs H Q E q)
  run := fun A outer s H args us vs Q E hr he hb hv hs => by
    refine codeAny_mono (F.run A outer s _ args us vs _ E hr he hb hv (h vs H Q E hs)) fun r s' hq => ?_
    match r, hq with
    | .ok (.ret u), ⟨v, H', os, bare, un, hok, rv, p, a', b', ev, ok', hp', q'⟩ =>
      have ne' : ∀ c, H' c = none → c ≠ p := fun c z y => by rw [y, hp'] at z; cases z
      refine ⟨v, _, os, bare, ⟨un.keep, un.slot, fun c o e n x => ?_, un.there, fun c xs e => ?_, fun c o u e => ?_, fun c ps e => ?_⟩, hok.write (by rw [hp']; trivial) (.inl rfl) (fun _ _ _ z => z) ?_ (potIn (hok p _ hp') ok'), rv, q'⟩
      · have := un.free c o e n x
        rw [upd_ne (ne' c this)]
        exact this
      · have := un.tups c xs e
        rw [upd_ne (fun z => by rw [z, hp'] at this; cases this)]
        exact this
      · have := un.frzs c o u e
        rw [upd_ne (fun z => by rw [z, hp'] at this; cases this)]
        exact this
      · obtain ⟨m, this⟩ := un.tbls c ps e
        rw [upd_ne (fun z => by rw [z, hp'] at this; cases this)]
        exact ⟨m, this⟩
      · obtain ⟨_, its, n, _, e⟩ := hok p _ hp'
        exact ⟨_, e⟩
/-- _law_draw: a number from 0 on, below the second argument -/
def DrawPre (xs : List Dv) : Prop := ∃ n : Int, xs = [.pot, .d (.int n)] ∧ 0 < n ∧ n ≤ 1000000
def DrawPost (xs : List Dv) (z : Dv) : Prop := ∀ n : Int, xs = [.pot, .d (.int n)] → ∃ d : Int, z = .d (.int d) ∧ 0 ≤ d ∧ d < n
theorem fnDraw {x qual : Str} {st : Stmt} {f : Addr} {fd : FuncData} {N ps : List Str} {k : Nat} {c1 c2 m1 m2 dv : Int} (F : Fun K x qual st f fd) (S : FnScope N ps (defScope st)) (len : ps.length = 2) (hN : N.length = 3)
    (k1 : 0 ≤ c1) (k2 : 0 ≤ c2) (k1' : c1 < 4294967296) (m1' : 0 < m1) (m1l : m1 ≤ 4294967296) (m2' : 0 < m2) (hd : 0 < dv) (hd2 : dv < 1073741824)
    (hb : ∀ (cdv : Value) (A : Around) (outer : List Env) (s : Shared) (H : Hp) (E : XK), Room k (A.deeper (envOfC qual (defScope st) s.heap.objs.size f cdv)) →
      PSs (cxOf CX0 Pg w K mg base N qual (defScope st) f cdv A outer s H E).nox (defBody st) (tDraw K c1 c2 m1 m2 dv)) :
    FnOk Pg w K mg base CX0 (k + 1) f fd ps (spG K DrawPre DrawPost) := by
  refine HM.FnOk.pot (sp := spDr) (F.ok S (fun vs H Q E ⟨p, a, b, n, e, _⟩ => by rw [e, len]; rfl) fun cdv A outer s H vs Q E hr hs => ⟨_, hb cdv A outer s H E hr, ?_⟩) ?_
  · obtain ⟨p, a, b, n, rfl, hp, ok, hn, hn2, q⟩ := hs
    have e : L2.start N [.ref p, .int n] = [some (.ref p), some (.int n), none] := by
      unfold L2.start
      rw [hN]
      rfl
    rw [e]
    exact draw_run k1 k2 k1' m1' m1l m2' hd hd2 hp ok hn (by omega) q
  · rintro vs H Q E ⟨B, xs, sb, dv, ⟨n, rfl, hn, hn2⟩, q⟩
    obtain ⟨v, u, rfl, ⟨p, rfl, bp⟩, d2⟩ := dv2 dv
    cases d2
    have hp := sb _ _ bp
    refine ⟨p, hp, fun a b ok => ⟨p, a, b, n, rfl, upd_same, ok, hn, hn2, fun d a' b' H2 h0 h1 ok' hp' kp => ⟨a', b', ok', hp', ?_⟩⟩⟩
    have hh : Same H (upd H2 p (.ext (PotF p))) := fun x o e => by
      by_cases z : x = p
      · subst z
        rw [upd_same, ← e, hp]
      · rw [upd_ne z]
        exact kp x o z (by rw [upd_ne z]; exact e)
    exact q (.d (.int d)) _ B _ (fun m e => by cases e; exact ⟨d, rfl, h0, h1⟩) ⟨Same.refl _, hh, sb.trans hh, fun _ z _ => z⟩ (.int d)
theorem fnPot {f : Addr} {fd : FuncData} {ps : List Str} {k : Nat} {Pre : List Dv → Prop} (F : FnOk Pg w K mg base CX0 k f fd ps (spL K Pre fun _ ys => ∃ a b, ys = [.int a, .int b] ∧ PotOk a b)) :
    FnOk Pg w K mg base CX0 k f fd ps (spG K Pre fun _ z => z = .pot) := by
  refine HM.FnOk.potNew F ?_
  rintro vs H Q E ⟨B, xs, sb, dv, pre, q⟩
  refine ⟨B, xs, sb, dv, pre, ?_⟩
  rintro ys p ws B1 H1 ⟨a, b, rfl, ok⟩ st h0 hb hp ha
  cases ha with
  | cons a1 a2 =>
    cases a2 with
    | cons a2 a3 =>
      cases a3
      cases a1
      cases a2
      refine ⟨p, a, b, rfl, ok, hp, q .pot _ (upd B1 p (.ext (PotF p))) _ rfl ⟨st.bb.trans (same_upd hb), fun x o e => ?_, fun x o e => ?_, fun x h1 h2 => ?_⟩ ⟨p, rfl, upd_same⟩⟩
      · rw [upd_ne (ne_of_none e h0)]
        exact st.hh _ _ e
      · by_cases z : x = p
        · subst z
          rw [upd_same] at e ⊢
          exact e
        · rw [upd_ne z] at e ⊢
          exact st.bh _ _ e
      · rw [upd_ne (fun z => h2 (by rw [z]; exact h0))]
        exact st.fr x h1 h2
end
end HM
end
section
/-! HM core 9: lists that are drawn -/
namespace HM
open PySem PySem.Spec PyProof.Rows L2
section
variable {K : PySem.W.Frag} {es es' : List Sl} {te ta tb : TE} {t u : TS} {p : Pst} {P : Dv → Prop}
/-- a comprehension over a range whose values are known by a predicate alone -/
theorem ev_lcDrawn {wi : TI} {j : Nat} {vs : List Nat} {n : Nat} {lo : Int} (Pd : PyData → Prop) (h : EvI K wi es (fun m f => m = n ∧ f = fun i => .d (.int (lo + (i : Nat))))) (hn : n ≤ 8000000) (hj : j ∈ vs)
    (k : ∀ i, i < n → Ev K te ((wipeS es vs).set j (.im (.d (.int (lo + (i : Nat)))))) (fun x => ∃ d, x = .d d ∧ Pd d)) : EvL K (tLc wi (gName j) tYes te vs) es (fun ys => ys.length = n ∧ ∀ d ∈ ys, Pd d) :=
  ev_lc (js := [j]) h (fun i ys => ys.length = i ∧ ∀ d ∈ ys, Pd d) (fun _ b => b = true) (fun _ d => Pd d) ⟨rfl, fun _ h => nomatch h⟩ (fun i hi => by rw [List.mem_singleton.mp hi]; exact hj) fun m f ⟨e1, e2⟩ => by
    subst e1
    subst e2
    refine ⟨hn, fun i hi => ⟨_, tg_name trivial, et_yes, fun _ => k i hi⟩, fun i ys d hi ⟨h1, h2⟩ _ hd => ⟨by rw [List.length_append, h1]; rfl, fun e he => ?_⟩, fun i ys hi hI hb => (nomatch hb), fun ys hI => hI⟩
    rcases List.mem_append.mp he with he | he
    · exact h2 e he
    · rw [List.mem_singleton.mp he]
      exact hd
theorem all_ints {q : Int → Prop} : ∀ {ys : List PyData}, (∀ d ∈ ys, ∃ x : Int, d = .int x ∧ q x) → ∃ a : List Int, ys = a.map .int ∧ ∀ x ∈ a, q x
  | [], _ => ⟨[], rfl, fun _ h => nomatch h⟩
  | y :: ys, h => by
    obtain ⟨x, e, hx⟩ := h y List.mem_cons_self
    obtain ⟨a, ea, ha⟩ := all_ints (ys := ys) fun d hd => h d (List.mem_cons_of_mem _ hd)
    exact ⟨x :: a, by rw [e, ea]; rfl, fun z hz => (List.mem_cons.mp hz).elim (fun e => by rw [e]; exact hx) (ha z)⟩
theorem sum_set : ∀ (l : List Int) (i : Nat) (v : Int) (h : i < l.length), (l.set i v).sum = l.sum - l[i] + v
  | x :: l, 0, v, _ => by simp [List.sum_cons]; omega
  | x :: l, i + 1, v, h => by
    rw [List.set_cons_succ, List.sum_cons, List.sum_cons, sum_set l i v (by simpa using h), List.getElem_cons_succ]
    omega
end
end HM
end
section
/-! HM core 10: defs that are called where no repr is under way; repr -/
namespace HM
open PySem PySem.Spec PyProof.Rows L2 RZ
/-- the promise of a def, kept where no repr is under way -/
structure FnG (P : Program) (w : World) (K : PySem.W.Frag) (mg : Str → Option Value) (base : Heap) (k : Nat) (f : Addr) (fd : FuncData) (ps : List Str) (sp : Sp) : Prop where
  ln : ∀ vs H Q E, sp vs H Q E → vs.length = ps.length
  go : ∀ (A : Around) (outer : List Env) (s : Shared) (H : Hp) (args : Args) (us : List Value) (vs : List V) (Q : VK) (E : XK), Room k A → A.guards = some [] → Env0 P w K mg base A outer s H →
    BindsTo s fd args (ps.zip us) → Vals vs us → sp vs H Q E → codeAny (model P w) A (.call (.ref f) args) (CR CX0 outer P w H s Q E) s
section
variable {P : Program} {w : World} {K : PySem.W.Frag} {mg : Str → Option Value} {base : Heap} {k : Nat} {f : Addr} {fd : FuncData} {ps : List Str} {sp : Sp}
theorem FnG.of (F : FnOk P w K mg base CX0 k f fd ps sp) : FnG P w K mg base k f fd ps sp := ⟨F.len, fun A outer s H args us vs Q E hr _ => F.run A outer s H args us vs Q E hr⟩
theorem FnG.made {x qual : Str} {st : Stmt} {N : List Str} (F : Fun K x qual st f fd) (S : FnScope N ps (defScope st)) (ln : ∀ vs H Q E, sp vs H Q E → vs.length = ps.length)
    (body : ∀ (cdv : Value) (A : Around) (outer : List Env) (s : Shared) (H : Hp) (vs : List V) (Q : VK) (E : XK), Room k (A.deeper (envOfC qual (defScope st) s.heap.objs.size f cdv)) → A.guards = some [] → sp vs H Q E →
      ∃ t, PSs (cxOf CX0 P w K mg base N qual (defScope st) f cdv A outer s H E).nox (defBody st) t ∧ t { nx := fun _ H' => Q .non H', rt := Q } (L2.start N vs) H) : FnG P w K mg base (k + 1) f fd ps sp := by
  obtain ⟨oc, od, kV, doc, pm, an, cdv, ct, osl, rfl, lk, hcd⟩ := F.ex
  constructor
  · exact ln
  intro A outer s H args us vs Q E room gd env0 binds rel want
  have same := fun b o (e : base.get? b = some o) => (env0.bs b o e).1
  have inK : K.In s.heap := env0.mod.kin.keeps same
  have noLim : s.heap.NoLimit := env0.mod.nolimit.keeps same
  have kinds : ∀ y ∈ ps.zip us, (defScope st).names.lookup y.1 = some .local ∨ ((defScope st).names.lookup y.1 = some .cell ∧ ((cellsFrom (s.heap.objs.size + 1) (defScope st).names []).lookup y.1).isSome = true) := by
    rintro ⟨n, v⟩ hy
    have hn := (List.of_mem_zip hy).1
    cases S.par n hn with
    | inl q => exact Or.inl q
    | inr q => exact Or.inr ⟨q, PySem.W.cellsFrom_some _ _ _ (Or.inl q)⟩
  refine codeAny_call_function room.depth (inK _ _ lk) rfl S.co S.gen rfl (PySem.W.codeRec_of inK hcd) (binds _ _ _ _ (wpAny_newFunctionEnv_cells S.kind kinds ?_))
  intro env he s1 inCall
  cases he
  refine ⟨noLim.keeps inCall.toInCall.keep, codeAny_func ?_⟩
  obtain ⟨t, ht, hq⟩ := body cdv A outer s H vs Q E (room.deeper _) gd want
  have lenV := ln _ _ _ _ want
  have I0 := inv_start (E := E) (CX := CX0) (qual := qual) (f := f) (cd := cdv) S room.hd env0 lenV rel inCall
  apply wpAny_mono (ht.nox.run [] s1 (L2.start N vs) H _ I0 hq)
  · intro fl s' got
    match fl, got with
    | .ret u, ⟨v, σ', H', J, rv, q⟩ => exact ⟨v, H', J.os, J.bare, J.base, J.hok, rv, q⟩
    | .next, ⟨σ', H', J, q⟩ => exact ⟨.non, H', J.os, J.bare, J.base, J.hok, rfl, q⟩
    | .brk, ⟨_, _, _, q⟩ => exact q.elim
    | .cont, ⟨_, _, _, q⟩ => exact q.elim
  · exact fun e s' got => got
/-- a def that may be called by its name where no repr is under way -/
structure ClG (P : Program) (w : World) (K : PySem.W.Frag) (mg : Str → Option Value) (base : Heap) (k : Nat) (x : Str) (sp : Sp) : Prop where
  ex : ∃ (f : Addr) (fd : FuncData) (ps : List Str), FnG P w K mg base k f fd ps sp ∧ mg x = some (.ref f) ∧ PySem.W.keepIn K (.ref f) = true ∧ Binds K fd ps []
end
section
variable {X : Cx} {k j : Nat} {x : Str} {sp : Sp} {p pos : Pos} {e : Expr} {es : List Expr} {t : TA} {te : TE}
theorem pe_clg (c : ClG X.prog X.w X.K X.mg X.base k x sp) (gd : X.A.guards = some []) (hr : Room j X.A) (hk : k ≤ j) (hg : Gl X x) (ha : PA X (e :: es) t)
    (hdb : (x == ("__debug__" : Str)) = false := by decide) (he : starEach (e :: es) X.env = (false, eval e X.env) :: starEach es X.env := by rfl) (hpl : (backTo pos (starEach es X.env)).any (·.1) = false := by rfl) :
    PE X (.Call (.Name x p) (e :: es) [] pos) (tCall sp [] E0 t) := by
  obtain ⟨f, fd, ps, F, hm, kp, b⟩ := c.ex
  constructor
  intro pins s σ H Q I h
  apply wpAny_Call_Name_kw
  refine ld_glob I hg hm (PySem.W.callWith_K (h₀ := X.base) I.ok.mod.kin kp (thn (ha.run pos pins s σ H _ I h) ?_) he hpl) hdb
  rintro us s1 ⟨vs, H1, I1, r, q⟩
  refine ⟨I1.kIn, wpAny_call (codeAny_mono (F.go X.A X.stack s1 H1 ⟨us, []⟩ us vs Q E0 (hr.mono hk) gd I1.env0 ?_ r (by simpa using q)) ?_)⟩
  · have := b s1 us I1.kIn (by rw [List.append_nil, ← r.length]; exact F.ln _ _ _ _ (by simpa using q))
    rwa [List.append_nil] at this
  · intro r s' hq
    match r, hq with
    | .ok (.ret u), hq => exact I1.after hq
/-! ### repr -/
/-- what may be shown -/
structure Shw (d : PyData) : Prop where
  sh : d.showable = true
  nd : d.hasDict = false ∨ NoL d
  dp : d.depth ≤ 60
  sz : d.shown.length ≤ sizeLine
def rRepr (K : PySem.W.Frag) : List V → Hp → VK → Prop := fun vs H Q => ∃ v d, vs = [v] ∧ Dp K H v d ∧ Shw d ∧ Q (.str d.shown) H
theorem call_reprG (gd : X.A.guards = some []) (hu : X.A.units + 64 < cLine) : CallR X (.builtin "repr") (rRepr X.K) := by
  intro pins s σ H vs us Q I r h
  obtain ⟨v, d, rfl, hd, sw, q⟩ := h
  obtain ⟨u, rfl, ru⟩ := vals1 r
  obtain ⟨as, rd, hsm⟩ : ∃ as, Reads s.heap u d as ∧ (d.hasDict = true → sysModules ∉ as) := by
    rcases sw.nd with z | z
    · obtain ⟨as, rd⟩ := Dp.reads I d v u hd ru
      exact ⟨as, rd, PyData.noDict_hsm z⟩
    · obtain ⟨as, rd, n⟩ := Dp.readsN I d v u z hd ru
      exact ⟨as, rd, fun _ => n⟩
  have fin : ∀ h' tk t, (∀ b o, s.heap.get? b = some o → h'.get? b = some o) → EP X pins σ Q (.str d.shown t) { s with heap := h', toks := tk } := fun h' tk t hk => ⟨.str d.shown, H, I.un (Un.kept hk) (I.hok.kept hk), ⟨t, rfl⟩, q⟩
  have go : ∀ a, u = .ref a → wpAny (model X.prog X.w) X.A (call (.builtin "repr") [u]) (EP X pins σ Q) X.xe s := fun a ea => by
    subst ea
    exact repr_of_reads' rd sw.sh hsm gd (by have := sw.dp; omega) (fun _ _ e => e) (fun h' t tk hk => fin h' tk t hk) sw.sz
  cases hd with
  | non => cases ru; exact PySem.P.repr_of_none (fin _ _ _ fun _ _ e => e)
  | bl b => cases ru; exact PySem.P.repr_of_bool (fin _ _ _ fun _ _ e => e)
  | int i => obtain ⟨t, rfl⟩ := ru; exact PySem.P.repr_of_int (of_decide_eq_true (by simpa [PyData.showable] using sw.sh)) (fin _ _ _ fun _ _ e => e)
  | str z => obtain ⟨t, rfl⟩ := ru; exact PySem.P.repr_of_str (fin _ _ _ fun _ _ e => e) sw.sz
  | lst h1 h2 => exact go _ ru
  | tup h1 h2 => exact go _ ru
  | dct h1 => exact go _ ru
end
/-! ### the end: the law's own call, where no repr is under way -/
section
variable {P : Program} {w : World} {K : PySem.W.Frag} {mg mb : Str → Option Value} {k : Nat} {fa a : Addr} {fd : FuncData} {x : Str} {sp : Sp} {s₁ : Shared} {vs : List Value} {ns : List Int}
theorem law_goes (KX : K.In s₁.heap) (hns : s₁.heap.Ns mainGlobals mg) (hb : s₁.heap.Ns builtinsNs mb) (hbb : ∀ x : Str, x ≠ "__name__" → mb x = bootBuiltins x) (hlim : s₁.heap.NoLimit) (hg : s₁.gens = #[])
    (ha : s₁.heap.get? a = some { cls := .type "list", data := .seq vs.toArray }) (hi : IntsAre vs ns) (hl : ns.length ≤ sizeLine) (hr : Room k callerA)
    (F : ∀ base : Heap, K.In base → base.Ns mainGlobals mg → FnG P w K mg base k fa fd [x] sp) (hbind : ∀ (s : Shared) (u : Value), BindsTo s fd ⟨[u], []⟩ [(x, u)])
    (hsp : ∀ H : Hp, Only H → SqL K H a (ns.map V.int) → sp [.ref a] H (fun v _ => v = .bl true) fun _ _ _ => False) :
    codeAny (model P w) callerA (.call (.ref fa) ⟨[.ref a], []⟩) (fun r s' => r = .ok (.ret (.bool true)) ∧ OldK s₁.heap s'.heap ∧ s'.os = s₁.os ∧ AllBare s'.gens) s₁ := by
  have main : ∀ H : Hp, (∀ b, H b = none ∨ (b = a ∧ K.lookup a = none ∧ ∃ ob xs, H b = some (.frz ob (.lst xs)))) → SqL K H a (ns.map V.int) → HOk P w H s₁.heap →
      codeAny (model P w) callerA (.call (.ref fa) ⟨[.ref a], []⟩) (fun r s' => r = .ok (.ret (.bool true)) ∧ OldK s₁.heap s'.heap ∧ s'.os = s₁.os ∧ AllBare s'.gens) s₁ := by
    intro H one seq held
    have kept : ∀ {b : Addr} {o : Obj}, s₁.heap.get? b = some o → H b = none → (hidT s₁.heap H).get? b = some o := fun e n => hidT_get e n
    have spaces : ∀ {b : Addr} {m : Str → Option Value}, s₁.heap.Ns b m → (hidT s₁.heap H).Ns b m := by
      rintro b m ⟨o, es, ep, e, d, r⟩
      refine ⟨o, es, ep, kept e ?_, d, r⟩
      rcases one b with n | ⟨e', _, _⟩
      · exact n
      · subst e'
        rw [ha] at e
        cases e
        cases (show Data.seq vs.toArray _ = Data.dict es ep from d)
    have frag : K.In (hidT s₁.heap H) := by
      intro b o e
      refine kept (KX b o e) ?_
      rcases one b with n | ⟨e', n, _⟩
      · exact n
      · rw [e', n] at e
        cases e
    obtain ⟨mc, l1, l2⟩ := hlim
    have mod : Mod K mg (hidT s₁.heap H) := ⟨frag, spaces hns, ⟨mb, spaces hb, hbb⟩, ⟨mc, spaces l1, l2⟩⟩
    have nobody : ∀ b : Addr, b ∉ ([] : List Addr) := fun b h => nomatch h
    have env0 : Env0 P w K mg (hidT s₁.heap H) callerA [] s₁ H := ⟨rfl, mod, fun _ _ e => of_hidT e, Nat.le_of_eq (hidT_size _ _), trivial, fun b h => absurd h (nobody b), held, .of_eq hg⟩
    have only : Only H := fun b => (one b).elim Or.inl fun ⟨_, _, z⟩ => Or.inr z
    refine codeAny_mono ((F _ frag (spaces hns)).go callerA [] s₁ H ⟨[.ref a], []⟩ [.ref a] [.ref a] _ _ hr rfl env0 (hbind s₁ (.ref a)) (.cons rfl .nil) (hsp H only seq)) ?_
    intro r s' h
    match r, h with
    | .ok (.ret u), ⟨v, H', os, bare, un, held', rv, q⟩ =>
      subst q
      cases rv
      refine ⟨rfl, OldK.of_keep ?_, os, bare⟩
      intro b o e
      rcases one b with n | ⟨_, _, ob, xs, z⟩
      · exact un.keep b o e n (nobody b) (nobody b)
      · have e1 := (held b _ z).1
        have e2 := (held' b _ (un.frzs b ob _ z)).1
        rw [e1] at e
        rw [← e]
        exact e2
  have rel := vals_ints hi
  cases hk : K.lookup a with
  | none =>
    refine main (upd (fun _ => none) a (.frz { cls := .type "list", data := .seq vs.toArray } (.lst (ns.map V.int)))) (fun b => ?_) (.inl (.inr ⟨_, upd_same⟩)) fun b u z => ?_
    · by_cases e : b = a
      · subst e
        exact Or.inr ⟨rfl, hk, _, _, upd_same⟩
      · exact Or.inl (by rw [upd_ne e])
    · by_cases e : b = a
      · subst e
        rw [upd_same] at z
        cases z
        exact ⟨ha, by rw [List.length_map]; exact hl, vs, _, rel, ha⟩
      · rw [upd_ne e] at z
        cases z
  | some o =>
    have e := KX a o hk
    rw [ha] at e
    cases e
    exact main (fun _ => none) (fun _ => Or.inl rfl) (.inr ⟨_, vs.toArray, _, hk, rfl, rfl, rfl, by rw [List.size_toArray, hi.length]; exact hl, by simpa using rel⟩) fun b u z => nomatch z
end
theorem walk_G {l : PySem.W.OpenLaw} {n k : Nat} {q : Program} {loose : List Str} {XP : (Str → Option Value) → Heap → Prop} {YP : World → Heap → Prop} {d : DefRec} {K : Params → PySem.W.Frag} {sp : World → Sp} {x : Str}
    (hn : l.most = some n) (hn2 : n ≤ sizeLine) (hdf : d.params.defaults = []) (hr : Room k callerA) (hY : ∀ (w : World) (h : Heap), YP w h → (K w.params).In h)
    (F : ∀ (w : World) (mg : Str → Option Value) (fa : Addr) (h : Heap), (K w.params).In h → h.Ns mainGlobals mg → mg d.name = some (.ref fa) → ∃ fd : FuncData, (∀ (s : Shared) (u : Value), BindsTo s fd ⟨[u], []⟩ [(x, u)]) ∧
      ∀ base : Heap, (K w.params).In base → base.Ns mainGlobals mg → FnG l.prog w (K w.params) mg base k fa fd [x] (sp w))
    (hsp : ∀ (w : World) (H : Hp) (a : Addr) (ns : List Int), ns.length ≤ n → Only H → SqL (K w.params) H a (ns.map V.int) → sp w [.ref a] H (fun v _ => v = .bl true) fun _ _ _ => False) :
    PySem.W.WalkO q loose XP YP l.row.toRowW d [] (fun f vs => PySem.call f vs) := by
  apply Att.attach_call hn hdf
  intro w s₀ s₁ mg mb fa o pm cd doc a vs ns G Y ho hd hcd hmg hobj hints hlen hg
  have inK := hY w _ Y
  obtain ⟨fd, hb, hF⟩ := F w mg fa _ inK G.T.g hmg
  exact law_goes inK G.T.g G.T.b G.T.builtins G.T.nolimit hg hobj hints (Nat.le_trans hlen hn2) hr hF hb fun H hO hS => hsp w H a ns hlen hO hS
end HM
end
section
/-! HM core 11: calls by keywords, turned lists, what is shown -/
namespace HM
open PySem PySem.Spec PyProof.Rows L2 RZ
/-- the values at the places is -/
def pick {α : Type} (is : List Nat) (l : List α) : List α := is.filterMap fun (i : Nat) => l[i]?
theorem pairGet {α β : Type} {F : α → β → Prop} : ∀ {l : List α} {m : List β}, Paired F l m → ∀ i : Nat, (l[i]? = none ∧ m[i]? = none) ∨ ∃ a b, l[i]? = some a ∧ m[i]? = some b ∧ F a b
  | _, _, .nil, i => .inl ⟨rfl, rfl⟩
  | _, _, .cons r _, 0 => .inr ⟨_, _, rfl, rfl, r⟩
  | _, _, .cons _ t, i + 1 => by simpa using pairGet t i
theorem paired_pick {α β : Type} {F : α → β → Prop} {l : List α} {m : List β} (h : Paired F l m) : ∀ is : List Nat, Paired F (pick is l) (pick is m)
  | [] => .nil
  | i :: is => by
    unfold pick
    rw [List.filterMap_cons, List.filterMap_cons]
    rcases pairGet h i with ⟨e1, e2⟩ | ⟨a, b, e1, e2, r⟩
    · rw [e1, e2]
      exact paired_pick h is
    · rw [e1, e2]
      exact .cons r (paired_pick h is)
theorem paired_append {α β : Type} {F : α → β → Prop} : ∀ {l l' : List α} {m m' : List β}, Paired F l m → Paired F l' m' → Paired F (l ++ l') (m ++ m')
  | _, _, _, _, .nil, h => h
  | _, _, _, _, .cons r t, h => .cons r (paired_append t h)
/-- how a call with keywords binds -/
def KB (K : PySem.W.Frag) (fd : FuncData) (ps : List Str) (n : Nat) (ks : List Str) (is : List Nat) : Prop := ∀ us ws : List Value, us.length = n → ws.length = ks.length → bindArgs fd ⟨us, ks.zip ws⟩ = pure (ps.zip (pick is (us ++ ws)))
structure ClK (P : Program) (w : World) (K : PySem.W.Frag) (mg : Str → Option Value) (base : Heap) (k : Nat) (x : Str) (n : Nat) (ks : List Str) (is : List Nat) (sp : Sp) : Prop where
  ex : ∃ (f : Addr) (fd : FuncData) (ps : List Str), FnG P w K mg base k f fd ps sp ∧ mg x = some (.ref f) ∧ PySem.W.keepIn K (.ref f) = true ∧ KB K fd ps n ks is
theorem kb_mk {K : PySem.W.Frag} {x qual : Str} {st : Stmt} {f : Addr} {fd : FuncData} {ps : List Str} {n : Nat} {ks : List Str} {is : List Nat} (F : Fun K x qual st f fd)
    (h : ∀ (kV doc pm : Value) (an : Option Addr) (cdv ct : Value) (us ws : List Value), us.length = n → ws.length = ks.length → bindArgs (PySem.W.fnOf x qual (defArgs st) (defBody st) (defScope st) .none kV doc pm an cdv ct) ⟨us, ks.zip ws⟩ = pure (ps.zip (pick is (us ++ ws)))) : KB K fd ps n ks is := by
  obtain ⟨oc, od, kV, doc, pm, an, cdv, ct, osl, rfl, lk, hcd⟩ := F.ex
  exact fun us ws => h kV doc pm an cdv ct us ws
def tCallP (n m : Nat) (is : List Nat) (sp : Sp) (t tk : TA) : TE := fun σ H Q => t σ H fun vs H1 => tk σ H1 fun zs H2 => vs.length = n ∧ zs.length = m ∧ sp (pick is (vs ++ zs)) H2 Q E0
section
variable {X : Cx} {k j n : Nat} {x : Str} {sp : Sp} {p pos : Pos} {e : Expr} {es : List Expr} {t tk : TA} {te : TE} {ks : List Str} {is : List Nat} {kws : List Keyword}
theorem run_clk {pins : List (Addr × Obj)} {σ : L2.St} {H : Hp} {s : Shared} {Q : VK} {f : Addr} {fd : FuncData} {ps : List Str} {us ws : List Value} {vs zs : List V} (F : FnG X.prog X.w X.K X.mg X.base k f fd ps sp) (gd : X.A.guards = some []) (hr : Room k X.A) (b : KB X.K fd ps n ks is)
    (I : Inv X pins σ H s) (r : Vals vs us) (rz : Vals zs ws) (l1 : vs.length = n) (l2 : zs.length = ks.length) (q : sp (pick is (vs ++ zs)) H Q E0) : wpAny (model X.prog X.w) X.A (call (.ref f) us (ks.zip ws)) (EP X pins σ Q) X.xe s := by
  refine wpAny_call (codeAny_mono (F.go X.A X.stack s H ⟨us, ks.zip ws⟩ (pick is (us ++ ws)) (pick is (vs ++ zs)) Q E0 hr gd I.env0 (.of_eq (b us ws (r.length.symm.trans l1) (rz.length.symm.trans l2))) (paired_pick (paired_append r rz) is) q) ?_)
  intro r' s' hq
  match r', hq with
  | .ok (.ret u), hq => exact I.after hq
theorem pe_clk0 (c : ClK X.prog X.w X.K X.mg X.base k x 0 ks is sp) (gd : X.A.guards = some []) (hr : Room j X.A) (hk : k ≤ j) (hg : Gl X x) (hkw : PK X kws tk)
    (hall : (backToKw pos (keywordEach kws X.env)).all (·.1.isSome) = true := by rfl) (hks : (backToKw pos (keywordEach kws X.env)).filterMap (·.1) = ks := by rfl) (hdb : (x == ("__debug__" : Str)) = false := by decide)
    (hpl : ((backTo pos (starEach [] X.env)).any (·.1) || (backToKw pos (keywordEach kws X.env)).any (·.1.isNone)) = false := by rfl) : PE X (.Call (.Name x p) [] kws pos) (tCallP 0 ks.length is sp tNil tk) := by
  obtain ⟨f, fd, ps, F, hm, kp, b⟩ := c.ex
  constructor
  intro pins s σ H Q I h
  apply wpAny_Call_Name_kw
  refine ld_glob I hg hm (PySem.W.callWith_KW0 (h₀ := X.base) I.ok.mod.kin kp hall (thn (hkw.run pos pins s σ H _ I h) ?_) hpl) hdb
  rintro ws s1 ⟨zs, H1, I1, rz, l1, l2, q⟩
  rw [hks]
  exact ⟨I1.kIn, run_clk (us := []) F gd (hr.mono hk) b I1 .nil rz l1 l2 q⟩
theorem pe_clk (c : ClK X.prog X.w X.K X.mg X.base k x n ks is sp) (gd : X.A.guards = some []) (hr : Room j X.A) (hk : k ≤ j) (hg : Gl X x) (ha : PA X (e :: es) t) (hkw : PK X kws tk)
    (hall : (backToKw pos (keywordEach kws X.env)).all (·.1.isSome) = true := by rfl) (hks : (backToKw pos (keywordEach kws X.env)).filterMap (·.1) = ks := by rfl) (hdb : (x == ("__debug__" : Str)) = false := by decide)
    (he : starEach (e :: es) X.env = (false, eval e X.env) :: starEach es X.env := by rfl)
    (hpl : ((backTo pos (starEach (e :: es) X.env)).any (·.1) || (backToKw pos (keywordEach kws X.env)).any (·.1.isNone)) = false := by rfl) : PE X (.Call (.Name x p) (e :: es) kws pos) (tCallP n ks.length is sp t tk) := by
  obtain ⟨f, fd, ps, F, hm, kp, b⟩ := c.ex
  constructor
  intro pins s σ H Q I h
  apply wpAny_Call_Name_kw
  refine ld_glob I hg hm (PySem.W.callWith_KW (h₀ := X.base) I.ok.mod.kin kp hall (thn (ha.run pos pins s σ H _ I h) ?_) hpl he) hdb
  rintro us s1 ⟨vs, H1, I1, r, q1⟩
  refine thn (hkw.run pos pins s1 σ H1 _ I1 q1) ?_
  rintro ws s2 ⟨zs, H2, I2, rz, l1, l2, q⟩
  rw [hks]
  exact ⟨I2.kIn, run_clk F gd (hr.mono hk) b I2 r rz l1 l2 q⟩
end
section
variable {K : PySem.W.Frag} {es es' : List Sl} {te ta tb : TE} {t tk : TA} {P : Dv → Prop}
theorem ev_kcall {Pre : List Dv → Prop} {Post : List Dv → Dv → Prop} {n m : Nat} {is : List Nat} {Pt Pk : List Dv → Prop} (ht : EvA K t es Pt) (hk : EvA K tk es Pk) (hp : ∀ xs zs, Pt xs → Pk zs → xs.length = n ∧ zs.length = m ∧ Pre (pick is (xs ++ zs)) ∧ ∀ z, Post (pick is (xs ++ zs)) z → P z) :
    Ev K (tCallP n m is (spG K Pre Post) t tk) es P := fun B0 H0 B σ H o Q q =>
  ht B0 H0 B σ H o _ fun xs vs B1 H1 px s1 d1 => hk B0 H0 B1 σ H1 (o.mono s1) _ fun zs ws B2 H2 pz s2 d2 => by
    obtain ⟨l1, l2, pre, post⟩ := hp xs zs px pz
    refine ⟨by rw [← dvs_len d1, l1], by rw [← dvs_len d2, l2], B2, pick is (xs ++ zs), s2.bh, paired_pick (paired_append (d1.mono s2.bb s2.hh) d2) is, pre, fun z u B3 H3 hz s3 d3 => ?_⟩
    exact q z u B3 H3 (post z hz) (s1.trans (s2.trans s3)) d3
theorem ev_kcalld {Pre : List Dv → Prop} {Post : List Dv → Dv → Prop} {n m : Nat} {is : List Nat} {xs zs : List Dv} (ht : EvA K t es (· = xs)) (hk : EvA K tk es (· = zs)) (l1 : xs.length = n) (l2 : zs.length = m) (hp : Pre (pick is (xs ++ zs))) (hq : ∀ z, Post (pick is (xs ++ zs)) z → P z) :
    Ev K (tCallP n m is (spG K Pre Post) t tk) es P := ev_kcall ht hk fun _ _ e1 e2 => by rw [e1, e2]; exact ⟨l1, l2, hp, hq⟩
theorem ev_kcallL {Pre : List Dv → Prop} {Post : List Dv → List PyData → Prop} {P : List PyData → Prop} {n m : Nat} {is : List Nat} {xs zs : List Dv} (ht : EvA K t es (· = xs)) (hk : EvA K tk es (· = zs)) (l1 : xs.length = n) (l2 : zs.length = m) (hp : Pre (pick is (xs ++ zs))) (hq : ∀ z, Post (pick is (xs ++ zs)) z → P z) :
    EvL K (tCallP n m is (spL K Pre Post) t tk) es P := fun B0 H0 B σ H o Q q =>
  ht B0 H0 B σ H o _ fun xs' vs B1 H1 px s1 d1 => hk B0 H0 B1 σ H1 (o.mono s1) _ fun zs' ws B2 H2 pz s2 d2 => by
    subst px; subst pz
    refine ⟨by rw [← dvs_len d1, l1], by rw [← dvs_len d2, l2], B2, pick is (xs' ++ zs'), s2.bh, paired_pick (paired_append (d1.mono s2.bb s2.hh) d2) is, hp, fun z p us B3 H3 hz s3 h0 hb h3 ha => ?_⟩
    exact q z p us B3 H3 (hq z hz) (s1.trans (s2.trans s3)) ((s1.trans s2).hh.free h0) hb h3 ha
/-! ### turned lists -/
theorem ev_revL {P : List PyData → Prop} (h : Ev K te es (fun x => ∃ xs, x = .d (.list xs) ∧ P xs)) : EvL K (tRevL K te) es (fun ys => ∃ xs, P xs ∧ ys = xs.reverse) := fun B0 H0 B σ H o Q q =>
  h B0 H0 B σ H o _ fun x v B1 H1 ⟨xs, e, px⟩ s1 d1 => by
    subst e
    cases d1 with
    | @lst a vs _ hs ha =>
      refine ⟨_, _, rfl, Same.seq s1.bh hs, fun p hp => ?_⟩
      exact q _ p _ B1 _ ⟨xs, px, rfl⟩ (s1.trans (Stp.open s1.bh hp)) (s1.hh.free hp) (s1.bh.free hp) upd_same (dpAll_rev ha)
theorem ev_revLd {xs : List PyData} (h : Ev K te es (· = .d (.list xs))) : EvL K (tRevL K te) es (· = xs.reverse) := (ev_revL (P := (· = xs)) (h.imp fun x e => ⟨xs, e, rfl⟩)).imp fun ys ⟨zs, e, e2⟩ => by rw [e2, e]
/-! ### what is shown -/
structure Sm (d : PyData) (k n : Nat) : Prop where
  sh : d.showable = true
  nd : d.hasDict = false
  dp : d.depth ≤ k
  lv : d.leavesShort 13 = true
  bk : d.bulk ≤ n
structure SmAll (ds : List PyData) (k n : Nat) : Prop where
  sh : PyData.showableAll ds = true
  nd : PyData.hasDictAll ds = false
  dp : PyData.depthAll ds ≤ k
  lv : PyData.leavesShortAll 13 ds = true
  bk : PyData.bulkAll ds ≤ n
theorem Sm.shw {d : PyData} {k n : Nat} (h : Sm d k n) (hk : k ≤ 60 := by omega) (hn : n ≤ 1048576 := by omega) : Shw d := ⟨h.sh, .inl h.nd, by have := h.dp; omega, PyData.shown_fits_bulk (by decide) (by decide) h.lv (by have := h.bk; omega)⟩
theorem Sm.mono {d : PyData} {k n k' n' : Nat} (h : Sm d k n) (hk : k ≤ k' := by omega) (hn : n ≤ n' := by omega) : Sm d k' n' := ⟨h.sh, h.nd, by have := h.dp; omega, h.lv, by have := h.bk; omega⟩
theorem sm_int {i : Int} (h1 : -1000000 < i := by omega) (h2 : i < 1000000 := by omega) : Sm (.int i) 0 0 := by
  have hb : i.natAbs < 1000000 := by omega
  have e : i.natAbs.log2 < 1920 := by
    by_cases h0 : i.natAbs = 0
    · rw [h0]; decide
    · have : i.natAbs.log2 < 20 := (Nat.log2_lt h0).mpr (by omega)
      omega
  exact ⟨by simp only [PyData.showable]; exact decide_eq_true e, by simp [PyData.hasDict], by simp [PyData.depth], by simp only [PyData.leavesShort]; exact decide_eq_true (PyData.shown_int_le (by omega)), by simp [PyData.bulk]⟩
theorem sm_bool {b : Bool} : Sm (.bool b) 0 0 := ⟨by simp [PyData.showable], by simp [PyData.hasDict], by simp [PyData.depth], by simp [PyData.leavesShort], by simp [PyData.bulk]⟩
theorem sm_none : Sm .none 0 0 := ⟨by simp [PyData.showable], by simp [PyData.hasDict], by simp [PyData.depth], by simp [PyData.leavesShort], by simp [PyData.bulk]⟩
theorem sm_str {z : Str} (h : z.cps.toList.all (fun c => decide (c < 16 ^ 8)) = true) (hn : z.cps.size ≤ 1000) : Sm (.str z) 0 1000 := ⟨by simp [PyData.showable], by simp [PyData.hasDict], by simp [PyData.depth], by simpa only [PyData.leavesShort] using h, by simpa [PyData.bulk] using hn⟩
theorem sm_nil : SmAll [] 0 0 := ⟨by simp [PyData.showableAll], by simp [PyData.hasDictAll], by simp [PyData.depthAll], by simp [PyData.leavesShortAll], by simp [PyData.bulkAll]⟩
theorem sm_cons {d : PyData} {ds : List PyData} {k n k' n' : Nat} (h : Sm d k n) (hs : SmAll ds k' n') : SmAll (d :: ds) (max k k') (n + 1 + n') :=
  ⟨by simp [PyData.showableAll, h.sh, hs.sh], by simp [PyData.hasDictAll, h.nd, hs.nd], by simp only [PyData.depthAll]; have := h.dp; have := hs.dp; omega, by simp [PyData.leavesShortAll, h.lv, hs.lv], by simp only [PyData.bulkAll]; have := h.bk; have := hs.bk; omega⟩
theorem sm_list {ds : List PyData} {k n : Nat} (h : SmAll ds k n) : Sm (.list ds) (k + 1) n := ⟨by simp [PyData.showable, h.sh], by simp [PyData.hasDict, h.nd], by simp only [PyData.depth]; have := h.dp; omega, by simp [PyData.leavesShort, h.lv], by simp only [PyData.bulk]; exact h.bk⟩
theorem sm_tup {ds : List PyData} {k n : Nat} (h : SmAll ds k n) : Sm (.tuple ds) (k + 1) n := ⟨by simp [PyData.showable, h.sh], by simp [PyData.hasDict, h.nd], by simp only [PyData.depth]; have := h.dp; omega, by simp [PyData.leavesShort, h.lv], by simp only [PyData.bulk]; exact h.bk⟩
theorem smAll_map {α : Type} {xs : List α} {enc : α → PyData} {k n : Nat} (h : ∀ x ∈ xs, Sm (enc x) k n) : SmAll (xs.map enc) k (xs.length * (n + 1)) := by
  induction xs with
  | nil => exact ⟨by simp [PyData.showableAll], by simp [PyData.hasDictAll], by simp [PyData.depthAll], by simp [PyData.leavesShortAll], by simp [PyData.bulkAll]⟩
  | cons x xs ih =>
    have a := h x List.mem_cons_self
    have b := ih fun y hy => h y (List.mem_cons_of_mem _ hy)
    have c := sm_cons a b
    refine ⟨c.sh, c.nd, by have := c.dp; rw [List.map_cons]; omega, c.lv, ?_⟩
    have := c.bk
    rw [List.map_cons, List.length_cons, Nat.succ_mul]
    omega
theorem sm_tI {a : List Int} (h : ∀ x ∈ a, -1000000 < x ∧ x < 1000000) : Sm (tI a) 1 a.length := by
  have := sm_tup (smAll_map (enc := PyData.int) (k := 0) (n := 0) fun x hx => sm_int (h x hx).1 (h x hx).2)
  exact this.mono (by omega) (by omega)
theorem sm_lI {a : List Int} (h : ∀ x ∈ a, -1000000 < x ∧ x < 1000000) : Sm (lI a) 1 a.length := by
  have := sm_list (smAll_map (enc := PyData.int) (k := 0) (n := 0) fun x hx => sm_int (h x hx).1 (h x hx).2)
  exact this.mono (by omega) (by omega)
theorem rc_repr {x : Dv} {d : PyData} (h : Rd1 x d) (s : Shw d) : Rc K (rRepr K) [x] (· = .d (.str d.shown)) := fun B H vs e a0 Q q => by
  obtain ⟨v, rfl, a⟩ := dv1 a0
  exact ⟨v, d, rfl, h.dp e a, s, q _ _ B H rfl (Stp.refl e) (.str _)⟩
/-- repr(x) != repr(y) of the same data -/
theorem et_reprNe {d : PyData} (s : Shw d) (h1 : Ev K ta es (· = .d d)) (h2 : Ev K tb es (· = .d d)) : EvT K (tTest (tOp (rNeP K) (tCB (rRepr K) (tCons ta tNil)) (tCB (rRepr K) (tCons tb tNil)))) es (· = false) :=
  (et_testd (ev_opd (ev_cbd (ea_consd h1 ea_nil) (rc_repr (.inl rfl) s)) (ev_cbd (ea_consd h2 ea_nil) (rc_repr (.inl rfl) s)) (rv_ne (.inl rfl) (.inl rfl) (flat_str _) (flat_str _)))).to (by simp [PyData.eqv])
/-! ### a list, several times -/
theorem ev_repL {xs : List PyData} {k : Int} (h : EvL K te es (· = xs)) (hb : Ev K tb es (· = .d (.int k))) (hl : xs.length ≤ 1000) (h1 : k ≤ 1000) (h2 : -1000 ≤ k) : EvL K (tOp (rMulG K) te tb) es (· = (List.replicate k.toNat xs).flatten) := fun B0 H0 B σ H o Q q =>
  h B0 H0 B σ H o _ fun ys p vs B1 H1 e s1 h0 hb1 hp ha => hb B0 H0 B1 σ H1 (o.mono s1) _ fun y w B2 H2 ey s2 d2 => by
    subst e; subst ey
    cases d2
    have hp2 := s2.hh _ _ hp
    have hlen := dpAll_len ha
    refine .inr (.inr ⟨p, k, vs, rfl, rfl, hp2, by omega, by omega, ?_, fun r hr => ?_⟩)
    · have : vs.length * k.toNat ≤ 1000 * 1000 := Nat.mul_le_mul (by omega) (by omega)
      exact line_le (by omega)
    · have hB : B2 r = none := s2.bh.free hr
      exact q _ r _ B2 _ rfl ((s1.trans s2).trans (Stp.open s2.bh hr)) ((s1.trans s2).hh.free hr) hB upd_same (dpAll_rep (dpAllMono s2.bb ha) _)
end
section
variable {Pg : Program} {w : World} {K : PySem.W.Frag} {mg : Str → Option Value} {base : Heap}
theorem fgG {x qual : Str} {st : Stmt} {f : Addr} {fd : FuncData} {N ps : List Str} {k : Nat} {Pre : List Dv → Prop} {Post : List Dv → Dv → Prop} (F : Fun K x qual st f fd) (S : FnScope N ps (defScope st)) (len : ∀ xs, Pre xs → xs.length = ps.length)
    (hb : ∀ (cdv : Value) (A : Around) (outer : List Env) (s : Shared) (H : Hp) (E : XK), Room k (A.deeper (envOfC qual (defScope st) s.heap.objs.size f cdv)) → A.guards = some [] →
      ∃ t, PSs (cxOf CX0 Pg w K mg base N qual (defScope st) f cdv A outer s H E).nox (defBody st) t ∧ ∀ xs, Pre xs → Sx K t (startS N xs) { nx := fun _ => Post xs (.d .none), rt := Post xs, rl := fun ys => Post xs (.d (.list ys)) }) :
    FnG Pg w K mg base (k + 1) f fd ps (spG K Pre Post) :=
  FnG.made F S (len_G len) fun cdv A outer s H vs Q E hr hg hs => by
    obtain ⟨t, h1, h2⟩ := hb cdv A outer s H E hr hg
    exact ⟨t, h1, body_G h2 vs H Q E hs⟩
theorem fgL {x qual : Str} {st : Stmt} {f : Addr} {fd : FuncData} {N ps : List Str} {k : Nat} {Pre : List Dv → Prop} {Post : List Dv → List PyData → Prop} (F : Fun K x qual st f fd) (S : FnScope N ps (defScope st)) (len : ∀ xs, Pre xs → xs.length = ps.length)
    (hb : ∀ (cdv : Value) (A : Around) (outer : List Env) (s : Shared) (H : Hp) (E : XK), Room k (A.deeper (envOfC qual (defScope st) s.heap.objs.size f cdv)) → A.guards = some [] →
      ∃ t, PSs (cxOf CX0 Pg w K mg base N qual (defScope st) f cdv A outer s H E).nox (defBody st) t ∧ ∀ xs, Pre xs → Sx K t (startS N xs) { nx := fun _ => False, rl := Post xs }) :
    FnG Pg w K mg base (k + 1) f fd ps (spL K Pre Post) :=
  FnG.made F S (len_L len) fun cdv A outer s H vs Q E hr hg hs => by
    obtain ⟨t, h1, h2⟩ := hb cdv A outer s H E hr hg
    exact ⟨t, h1, body_L h2 vs H Q E hs⟩
end
end HM
end
section
/-! HM core 12: all that is true, walks over rows -/
namespace HM
open PySem PySem.Spec PyProof.Rows L2 RZ
section
variable {K : PySem.W.Frag} {es es' : List Sl} {te ta tb : TE} {t tk : TA} {P : Dv → Prop} {p : Pst} {α : Type}
theorem all_true {ys : List PyData} (h : ∀ d ∈ ys, d = .bool true) : ys = (List.replicate ys.length true).map .bool := by
  induction ys with
  | nil => rfl
  | cons y ys ih => rw [List.length_cons, List.replicate_succ, List.map_cons, ← ih fun d hd => h d (List.mem_cons_of_mem _ hd), h y List.mem_cons_self]
/-- all([.. for ..]) where each is True -/
theorem ev_allTrue {wi : TI} {g : TG} {js vs : List Nat} {Pi : Nat → (Nat → Dv) → Prop} (h : EvI K wi es Pi) (hj : ∀ j ∈ js, j ∈ vs)
    (k : ∀ n f, Pi n f → n ≤ 8000000 ∧ ∀ i, i < n → ∃ es2, Tg K js g (wipeS es vs) (f i) es2 ∧ Ev K te es2 (· = .d (.bool true))) : Ev K (tCB (rAll K) (tCons (tLc wi g tYes te vs) tNil)) es (· = .d (.bool true)) :=
  ev_cb (ea_cons (ev_lc (P := fun ys => ∀ d ∈ ys, d = .bool true) h (fun _ ys => ∀ d ∈ ys, d = .bool true) (fun _ b => b = true) (fun _ d => d = .bool true) (fun _ h => nomatch h) hj fun n f pi => ⟨(k n f pi).1, fun i hi => by
      obtain ⟨es2, tg, ev⟩ := (k n f pi).2 i hi
      exact ⟨es2, tg, et_yes, fun _ => ev.imp fun x e => ⟨_, e, rfl⟩⟩, fun i ys d hi hI _ hd e he => (List.mem_append.mp he).elim (hI e) fun he => by rw [List.mem_singleton.mp he]; exact hd, fun i ys hi hI hb => (nomatch hb), fun ys h => h⟩).ev ea_nil)
    fun xs ⟨x, ys, e, ⟨zs, ex, hz⟩, ey⟩ => by
      subst e; subst ex; subst ey
      rw [all_true hz]
      intro B H vs e a Q q
      refine rc_all (.inl rfl) B H vs e a Q fun x u B2 H2 ex => q x u B2 H2 ?_
      rw [ex]
      have : ∀ n : Nat, (List.replicate n true).all id = true := fun n => by
        rw [List.all_eq_true]
        intro b hb
        rw [(List.mem_replicate.mp hb).2]
        rfl
      rw [this]
/-- for over a walked list with any target: f gives the values -/
theorem sx_forG {wi : TI} {g : TG} {tb : TS} {js : List Nat} {n : Nat} {f : Nat → Dv} (h : EvI K wi es (fun m h => m = n ∧ h = f)) (I : Nat → List Sl → Prop) (h0 : I 0 es)
    (k : ∀ i es', i < n → I i es' → ∃ es2, Tg K js g es' (f i) es2 ∧ Sx K tb es2 { p with nx := I (i + 1), ct := I (i + 1), bk := p.nx }) (hd : ∀ es', I n es' → p.nx es') : Sx K (tFor wi g tb) es p :=
  sx_for h I h0 fun m f' ⟨e1, e2⟩ => by
    subst e1; subst e2
    exact ⟨k, hd⟩
/-- .. each of a list, by the list's own elements -/
theorem sx_forPair {wi : TI} {tb : TS} {i j : Nat} (xs : List α) (u v : α → PyData) (h : EvI K wi es (fun n f => n = (xs.map fun x => PyData.tuple [u x, v x]).length ∧ f = fun i => .d ((xs.map fun x => PyData.tuple [u x, v x]).getD i .none))) (I : Nat → List Sl → Prop) (h0 : I 0 es)
    (k : ∀ (a : Nat) (ha : a < xs.length) es', I a es' → Sx K tb ((es'.set i (.im (.d (u xs[a])))).set j (.im (.d (v xs[a])))) { p with nx := I (a + 1), ct := I (a + 1), bk := p.nx }) (hd : ∀ es', I xs.length es' → p.nx es') :
    Sx K (tFor wi (gTup K 2 (gCons (gName i) (gCons (gName j) gNil))) tb) es p :=
  sx_for (js := [i, j]) h I h0 fun n f ⟨en, ef⟩ => by
    subst en; subst ef
    rw [List.length_map]
    refine ⟨fun a es' ha hI => ?_, hd⟩
    have e := getD_map xs (fun x => PyData.tuple [u x, v x]) a ha
    refine ⟨_, by show Tg K [i, j] _ _ (Dv.d ((xs.map fun x => PyData.tuple [u x, v x]).getD a .none)) _; rw [e]; exact tg_pair, k a ha es' hI⟩
/-- [.. for u, v in xs if ..] -/
theorem ev_lcPair {wi : TI} {tt : TT} {i j : Nat} {vs : List Nat} (xs : List α) (u v : α → PyData) (b : α → Bool) (w : α → PyData) (h : EvI K wi es (fun n f => n = (xs.map fun x => PyData.tuple [u x, v x]).length ∧ f = fun i => .d ((xs.map fun x => PyData.tuple [u x, v x]).getD i .none)))
    (hn : xs.length ≤ 8000000) (hi : i ∈ vs) (hj : j ∈ vs)
    (k : ∀ x ∈ xs, EvT K tt (((wipeS es vs).set i (.im (.d (u x)))).set j (.im (.d (v x)))) (· = b x) ∧ (b x = true → Ev K te (((wipeS es vs).set i (.im (.d (u x)))).set j (.im (.d (v x)))) (· = .d (w x)))) :
    EvL K (tLc wi (gTup K 2 (gCons (gName i) (gCons (gName j) gNil))) tt te vs) es (· = (xs.filter b).map w) := by
  refine ev_lc (js := [i, j]) (Pd := fun i d => ∃ h : i < xs.length, d = w xs[i]) (Pb := fun i c => ∃ h : i < xs.length, c = b xs[i]) h (fun a ys => ys = ((xs.take a).filter b).map w) (by simp) (fun a ha => ?_) fun n f ⟨en, ef⟩ => ?_
  · rcases List.mem_cons.mp ha with rfl | ha
    · exact hi
    · rw [List.mem_singleton.mp ha]; exact hj
  · subst en; subst ef
    rw [List.length_map]
    refine ⟨hn, fun a ha => ?_, fun a ys d ha hI hb hd => ?_, fun a ys ha hI hb => ?_, fun ys hI => ?_⟩
    · have e := getD_map xs (fun x => PyData.tuple [u x, v x]) a ha
      have k' := k xs[a] (List.getElem_mem ha)
      exact ⟨_, by show Tg K [i, j] _ _ (Dv.d ((xs.map fun x => PyData.tuple [u x, v x]).getD a .none)) _; rw [e]; exact tg_pair, k'.1.imp fun c e => ⟨ha, e⟩, fun ⟨_, hb⟩ => (k'.2 hb.symm).imp fun x e => ⟨_, e, ha, rfl⟩⟩
    · obtain ⟨_, hb⟩ := hb
      obtain ⟨_, hd⟩ := hd
      rw [List.take_add_one, List.getElem?_eq_getElem ha, Option.toList_some, List.filter_append, List.map_append, hI, hd, List.filter_cons_of_pos hb.symm]
      rfl
    · obtain ⟨_, hb⟩ := hb
      rw [List.take_add_one, List.getElem?_eq_getElem ha, Option.toList_some, List.filter_append, List.map_append, hI, List.filter_cons_of_neg (by rw [← hb]; exact Bool.false_ne_true)]
      simp
    · rw [hI, List.take_of_length_le (Nat.le_refl _)]
theorem ev_neg {n : Int} (h : Ev K te es (· = .d (.int n))) : Ev K (tUn (rU fun i => .int (-i)) te) es (· = .d (.int (-n))) := fun B0 H0 B σ H o Q q => h B0 H0 B σ H o _ fun x v B1 H1 e s1 d1 => by
  subst e
  cases d1
  exact ⟨n, rfl, q _ _ B1 H1 rfl s1 (.int _)⟩
/-- a list that is known by a predicate, walked -/
theorem ei_seqE {P : List PyData → Prop} {R : Nat → (Nat → Dv) → Prop} (h : Ev K te es (fun x => ∃ xs, x = .d (.list xs) ∧ P xs)) (k : ∀ xs, P xs → R xs.length (fun i => .d (xs.getD i .none))) : EvI K (iSeq K te) es R := fun B0 H0 B σ H o Rr r => .inl
  (h B0 H0 B σ H o _ fun x v B1 H1 ⟨xs, e, px⟩ s1 d1 => by
    subst e
    cases d1 with
    | lst hs ha => exact ⟨_, rfl, ⟨_, Same.seq s1.bh hs⟩, r _ _ _ B1 H1 (k xs px) s1 (wk_list hs ha)⟩)
/-! ### slices -/
def cutD (xs : List PyData) (lo hi : Option Int) : List PyData := (xs.drop (HT.sIx xs.length 0 lo)).take (HT.sIx xs.length xs.length hi - HT.sIx xs.length 0 lo)
theorem dpAll_cut {H : Hp} {vs : List V} {xs : List PyData} (h : DpAll K H vs xs) (lo hi : Option Int) : DpAll K H (cutV vs lo hi) (cutD xs lo hi) := by
  unfold cutV cutD
  rw [dpAll_len h]
  exact dpAll_take _ (dpAll_drop _ h)
theorem ev_slT {xs : List PyData} {lo hi : Option Int} {tl th : TO} (h : Ev K te es (· = .d (.tuple xs))) (hl : EvO K tl es (· = lo)) (hh : EvO K th es (· = hi)) : Ev K (tSl (rSlG K) te tl th) es (· = .d (.tuple (cutD xs lo hi))) := fun B0 H0 B σ H o Q q =>
  h B0 H0 B σ H o _ fun x v B1 H1 e s1 d1 => hl B0 H0 B1 σ H1 (o.mono s1) _ fun l B2 H2 el s2 => hh B0 H0 B2 σ H2 ((o.mono s1).mono s2) _ fun u B3 H3 eu s3 => by
    subst e; subst el; subst eu
    have d3 : DV K B3 H3 (.d (.tuple xs)) v := DV.mono (s2.bb.trans s3.bb) (s2.hh.trans s3.hh) d1
    cases d3 with
    | @tup a vs _ hs ha =>
      have hs3 := sameT s3.bh hs
      have s13 := s1.trans (s2.trans s3)
      refine .inr ⟨a, vs, rfl, hs3, fun hw => ?_, fun hw p hp => ?_⟩
      · refine q _ _ B3 H3 rfl s13 (Dp.tup hs ?_)
        have : cutV vs l u = vs := by
          unfold cutV
          rw [hw.1, hw.2]
          simp
        have hc := dpAll_cut ha l u
        rw [this] at hc
        exact hc
      · have hb := s3.bh.free hp
        exact q _ _ (upd B3 p (.tup (cutV vs l u))) _ rfl (s13.trans (Stp.new s3.bh hp)) (Dp.tup (SqT.of upd_same) (dpAllMono (same_upd hb) (dpAll_cut ha l u)))
theorem ev_slL {xs : List PyData} {lo hi : Option Int} {tl th : TO} (h : Ev K te es (· = .d (.list xs))) (hl : EvO K tl es (· = lo)) (hh : EvO K th es (· = hi)) : EvL K (tSl (rSlG K) te tl th) es (· = cutD xs lo hi) := fun B0 H0 B σ H o Q q =>
  h B0 H0 B σ H o _ fun x v B1 H1 e s1 d1 => hl B0 H0 B1 σ H1 (o.mono s1) _ fun l B2 H2 el s2 => hh B0 H0 B2 σ H2 ((o.mono s1).mono s2) _ fun u B3 H3 eu s3 => by
    subst e; subst el; subst eu
    have d3 : DV K B3 H3 (.d (.list xs)) v := DV.mono (s2.bb.trans s3.bb) (s2.hh.trans s3.hh) d1
    cases d3 with
    | @lst a vs _ hs ha =>
      have s13 := s1.trans (s2.trans s3)
      exact .inl ⟨a, vs, rfl, Same.seq s3.bh hs, fun p hp => q _ p _ B3 _ rfl (s13.trans (Stp.open s3.bh hp)) (s13.hh.free hp) (s3.bh.free hp) upd_same (dpAll_cut ha l u)⟩
theorem cut_to {xs : List PyData} {k : Nat} : cutD xs none (some (k : Int)) = xs.take k := by
  unfold cutD
  rw [HT.sIx_none, HT.sIx_nat, Nat.sub_zero, List.drop_zero, ← List.take_eq_take_min]
theorem cut_from {xs : List PyData} {k : Nat} : cutD xs (some (k : Int)) none = xs.drop k := by
  unfold cutD
  rw [HT.sIx_none, HT.sIx_nat]
  by_cases h : k ≤ xs.length
  · rw [Nat.min_eq_left h, List.take_of_length_le (by rw [List.length_drop]; exact Nat.le_refl _)]
  · rw [Nat.min_eq_right (by omega), List.drop_of_length_le (Nat.le_refl _), List.drop_of_length_le (by omega)]
    simp
end
end HM
end
section
/-! HM core 13: enumerate of a tuple -/
namespace HM
open PySem PySem.Spec PyProof.Rows L2 RZ
set_option maxHeartbeats 1000000 in
theorem enum_meets {v : Value} {o : Obj} {H : Heap → Prop} (B : Begins v o H) :
    Meets (Builtin.«enumerate.__new__» ⟨[.type "enumerate", v], []⟩) (fun _ R s => H s.heap ∧
      R (.ok (.ret (.ref (s.heap.push o).objs.size))) { s with heap := (s.heap.push o).push { cls := .type "enumerate", data := .fields #[.none, .bool false, .ref s.heap.objs.size, rawInt 0, .none, .none] } }) :=
  .of_wp fun prog w A R s ⟨h1, h⟩ => by
    obtain ⟨hp, g, d, tk, os⟩ := s
    have hsub := sub_enumerate
    have started : ∀ {A' : Around} {E : Value → Shared → Prop} {Q : Value → Shared → Prop}, Q (.ref hp.objs.size) ⟨hp.push o, g, d, tk, os⟩ → wpAny (model prog w) A' (pyIter v) Q E ⟨hp, g, d, tk, os⟩ :=
      fun q => B.iter prog w _ _ ⟨hp, g, d, tk, os⟩ _ h1 q
    wp_walk using started
    first
      | exact ⟨_, rfl, h⟩
      | (refine wpAny_stack_any fun st => wpAny_pure ?_
         split
         · rename_i c _ _ _ _ _
           cases (c == Value.type "enumerate")
           · wp_walk using started
             exact ⟨_, rfl, h⟩
           · wp_walk using started
             exact ⟨_, rfl, h⟩
         · wp_walk using started
           exact ⟨_, rfl, h⟩)
section
variable {prog : Program} {w : World} {A : Around} {E : Value → Shared → Prop} {s : Shared}
theorem enum_starts {v : Value} {o : Obj} {H : Heap → Prop} {Q : Value → Shared → Prop} (B : Begins v o H) (h1 : H s.heap)
    (h : ∀ h', IsEnum h' (s.heap.objs.size + 1) s.heap.objs.size 0 .none → h'.get? s.heap.objs.size = some o → h'.objs.size = s.heap.objs.size + 2 →
      (∀ b o, s.heap.get? b = some o → h'.get? b = some o) → Q (.ref (s.heap.objs.size + 1)) { s with heap := h' }) :
    wpAny (model prog w) A (call (.type "enumerate") [v]) Q E s := by
  refine callType_new F.called_enumerate (by decide) (F.typeCall_enumerate_1 _) (F.newCall_enumerate_1 _) (fun obj => F.args_object_init_2 obj _) F.entry_enumerate_new (enum_meets B) ⟨h1, ?_⟩
  have one : (s.heap.push o).objs.size = s.heap.objs.size + 1 := Heap.size_push ..
  show _ ∧ _
  rw [one]
  have made := Heap.get?_push_size (s.heap.push o) (o := { cls := .type "enumerate", data := .fields #[.none, .bool false, .ref s.heap.objs.size, rawInt 0, .none, .none] }) rfl
  rw [one] at made
  exact ⟨⟨_, made, rfl⟩, h _ made (Heap.get?_push_of_some _ (Heap.get?_push_size _ B.free)) (by rw [Heap.size_push, one]) fun b o x => Heap.get?_push_of_some _ (Heap.get?_push_of_some _ x)⟩
end
/-- the tuple at a, each item in a new pair with its place -/
def IteT (K : PySem.W.Frag) (a : Addr) : It where
  go := fun i H => ∃ (xs : List V) (x : V), SqT K H a xs ∧ xs[i]? = some x
  yld := fun i H v H' => ∃ T x, v = .ref T ∧ H T = none ∧ H' = upd H T (.tup [.int (i : Nat), x]) ∧ ∀ xs, SqT K H a xs → xs[i]? = some x
  stop := fun i H => ∃ xs : List V, SqT K H a xs ∧ xs.length ≤ i
theorem turn_enumT {P : Program} {w : World} {K : PySem.W.Frag} {elts : List Expr} {kk : Nat} {tpos : Pos} (a e it : Addr) :
    Turn P w K (.Tuple elts kk tpos) (IteT K a) [e, it] e (fun i h => (∃ old, IsEnum h e it ((i : Nat) : Int) old) ∧ h.IsTupleIter it a i ∧ e ≠ it ∧ a ≠ it ∧ e ≠ a) where
  mem := by simp
  obj := by
    rintro i h ⟨⟨old, he⟩, ⟨o, ho, hc, hd⟩, _⟩ b hb
    rcases List.mem_cons.mp hb with rfl | hb
    · exact ⟨_, he, fun v q => nomatch q⟩
    · rw [List.mem_singleton.mp hb]
      exact ⟨o, ho, fun v q => by rw [hd] at q; cases q⟩
  keep := by
    rintro i h h' ⟨⟨old, he⟩, hi, hne⟩ k
    exact ⟨⟨old, k e (by simp) _ he⟩, hi.at fun o q => k it (by simp) o q, hne⟩
  item := by
    intro X hP hw hK hc i pins s σ H E I hf st hg
    subst hP hw hK
    obtain ⟨⟨old, he⟩, hit, hne, hai, hea⟩ := st
    obtain ⟨xs, x, hq, hx⟩ := hg
    obtain ⟨its, rv, pt, hz⟩ := I.tuple hq
    obtain ⟨u, hu, ru⟩ := rv.get hx
    have hel : e < s.heap.objs.size := Heap.lt_size he
    have hil : it < s.heap.objs.size := by obtain ⟨_, q, _⟩ := hit; exact Heap.lt_size q
    have hsz : i < its.toArray.size := by
      rw [List.size_toArray, ← rv.length]
      exact (List.getElem?_eq_some_iff.mp hx).1
    have hh : X.A.handled = none := I.ok.hd hc
    refine wpAny_pyNext_enum_itemC (Draws.tuple (A := X.A.in1) hh it a hai its.toArray) he ⟨hit, pt⟩ hsz hne (by simp [hne, hea]) fun y h' tk hy ho hst hT hsz' hk => ?_
    have ey : y = u := by
      have h1 : its.toArray[i]? = some y := hy
      have h2 : its.toArray[i]? = some u := by simpa using hu
      rw [h1] at h2
      exact Option.some.inj h2
    subst ey
    refine ⟨_, rfl, wpAny_letOwnedTupleGo_enum (s := { s with heap := h', toks := tk + 1 }) ho fun h'' he' sb => ?_⟩
    have hT2 : h''.get? s.heap.objs.size = some { cls := .type "tuple", data := .seq #[.int i tk, y] } := (sb.2 _ (Nat.ne_of_gt hel)).trans hT
    have new : ObjOk X.prog X.w (upd H s.heap.objs.size (.tup [.int (i : Nat), x])) h'' s.heap.objs.size (.tup [.int (i : Nat), x]) :=
      ⟨by show 2 ≤ sizeLine; decide, [.int i tk, y], .cons ⟨_, rfl⟩ (.cons ru .nil), ⟨_, hT2, rfl, _, rfl⟩⟩
    have same : ∀ b ob, b ∉ [e, it] → s.heap.get? b = some ob → h''.get? b = some ob := fun b ob hb q => by
      have n1 : b ≠ e := fun z => hb (by simp [z])
      have n2 : b ≠ it := fun z => hb (by simp [z])
      exact (sb.2 b n1).trans (hk b ob n1 n2 q)
    have I1 : Inv X pins σ (upd H s.heap.objs.size (.tup [.int (i : Nat), x])) { s with heap := h'', toks := tk + 1 } := I.turnedNew (ch := [e, it]) same hf (Nat.le_refl _) new
    refine ⟨.ref s.heap.objs.size, _, I1, rfl, ⟨_, x, rfl, I.hok.fresh (Nat.le_refl _), rfl, fun ys hy => by rw [I.tuple_inj hy hq]; exact hx⟩, ⟨⟨y, ?_⟩, hst.1.at fun o q => (sb.2 it (Ne.symm hne)).trans q, hne, hai, hea⟩, fun b hb => ?_⟩
    · rw [show ((i + 1 : Nat) : Int) = (i : Int) + 1 by omega]
      exact he'
    · have hb' : b < s.heap.objs.size := by
        rcases List.mem_cons.mp hb with rfl | hb
        · exact hel
        · rw [List.mem_singleton.mp hb]
          exact hil
      rw [upd_ne (Nat.ne_of_lt hb')]
      exact (hf b hb).1
  done := by
    intro X hP hw hK hc i pins s σ H E I hf st hg
    subst hP hw hK
    obtain ⟨⟨old, he⟩, hit, hne, hai, hea⟩ := st
    obtain ⟨xs, hq, hx⟩ := hg
    obtain ⟨its, rv, pt, hz⟩ := I.tuple hq
    have hh : X.A.handled = none := I.ok.hd hc
    obtain ⟨f0, f1, f2, f3, f4, f5⟩ := hf it (by simp)
    have hT : s.TypeIs (.ref e) "enumerate" := ⟨_, he, rfl⟩
    unfold pyNext
    refine wpAny_bind (wpAny_attempt (wpAny_callSpecial?_slot (name := Str.ofString "__next__") hT F.slot_enumerate_next (wpAny_call_entry F.slot_enumerate_next hT F.entry_enumerate_next ?_ (F.args_enumerate_next_1 _))))
    show wpAny _ _ (field (.ref e) 2 >>= _) _ _ _
    refine wpAny_bind (wpAny_field he rfl (x := .ref it) rfl ?_)
    have hn : its.toArray[i]? = none := by
      have := rv.length
      simp
      omega
    refine wpAny_bind (PySem.wpAny_nextOf_tuple_end (A := X.A.in1) hh hit pt hn fun h' x he' hx' => ?_)
    obtain ⟨o, ho, hc'⟩ := hx'
    refine wpAny_bind (wpAny_isInstance (T := "StopIteration") (b := true) ⟨o, ho, hc'⟩ isSubtype_stop ?_)
    exact wpAny_pure ⟨rfl, I.turned (t' := s.toks) (fun b o hb q => he' b o hb q) f0 f1 f3 f4 f5⟩
  self := fun A i s Q E st h => let ⟨⟨_, he⟩, _⟩ := st; wpAny_pyIter_enum he h
def iEnumS (K : PySem.W.Frag) (ta : TA) : TI := fun σ H R => ta σ H fun vs H1 => ∃ a xs, vs = [.ref a] ∧ ((SqL K H1 a xs ∧ R (Ite K a) H1) ∨ (SqT K H1 a xs ∧ R (IteT K a) H1))
theorem pi_enumS {X : Cx} {e : Expr} {ta : TA} {p pos tpos : Pos} {elts : List Expr} {kk : Nat} (hg : Gl X "enumerate") (hm : X.mg "enumerate" = none) (ha : PA X [e] ta) (hs : starEach [e] X.env = [(false, eval e X.env)] := by rfl) :
    PI X (.Tuple elts kk tpos) (.Call (.Name "enumerate" p) [e] [] pos) (iEnumS X.K ta) := by
  constructor
  intro pins s σ H R I h
  refine Call_ (ld_blt I hg hm boot_enumerate (PyProof.Rows.callWith_type1 (thn (ha.run pos pins s σ H _ I h) ?_) hs rfl))
  rintro us s1 ⟨vs, H1, I1, r1, a, xs, rfl, q⟩
  cases r1 with
  | cons r rr =>
    cases rr
    cases r
    have pair : ∀ b ∈ [s1.heap.objs.size + 1, s1.heap.objs.size], FpOk X pins H1 b := fun b hb => by
      have hle : s1.heap.objs.size ≤ b := by
        rcases List.mem_cons.mp hb with rfl | hb
        · exact Nat.le_add_right _ _
        · rw [List.mem_singleton.mp hb]
          exact Nat.le_refl _
      exact I1.fpOk hle (I1.hok.fresh hle)
    rcases q with ⟨hq, q⟩ | ⟨hq, q⟩
    · obtain ⟨its, rv, p', hz⟩ := I1.list hq
      refine call_enumerate_list p'.isList fun h' he hit hsz hk => wpAny_pyIter_enum he ?_
      have I2 : Inv X pins σ H1 { s1 with heap := h' } := I1.kept (t' := s1.toks) hk
      exact ⟨s1.heap.objs.size + 1, _, _, _, H1, rfl, I2, turn_enum a (s1.heap.objs.size + 1) s1.heap.objs.size, ⟨⟨.none, he⟩, hit, Nat.succ_ne_self _⟩, pair, q⟩
    · obtain ⟨its, rv, p', hz⟩ := I1.tuple hq
      refine enum_starts (begins_tuple a its.toArray) p' fun h' he hit hsz hk => wpAny_pyIter_enum he ?_
      have I2 : Inv X pins σ H1 { s1 with heap := h' } := I1.kept (t' := s1.toks) hk
      have hal : a < s1.heap.objs.size := p'.lt
      exact ⟨s1.heap.objs.size + 1, _, _, _, H1, rfl, I2, turn_enumT a (s1.heap.objs.size + 1) s1.heap.objs.size, ⟨⟨.none, he⟩, ⟨_, hit, rfl, rfl⟩, Nat.succ_ne_self _, Nat.ne_of_lt hal, Nat.ne_of_gt (Nat.lt_of_lt_of_le hal (Nat.le_succ _))⟩, pair, q⟩
section
variable {K : PySem.W.Frag} {es es' : List Sl} {te ta tb : TE} {t tk : TA} {P : Dv → Prop} {p : Pst} {α : Type}
theorem wk_enumL {B : Hp} {a : Addr} {vs : List V} {xs : List PyData} (hs : SqL K B a vs) (ha : DpAll K B vs xs) : Wk K B (Ite K a) xs.length (fun i => .d (.tuple [.int i, xs.getD i .none])) where
  go := fun i H e hi => by
    obtain ⟨v, e1, _⟩ := dpAll_get ha (getD_some hi)
    exact ⟨vs, v, Same.seq e hs, e1⟩
  stop := fun H e => ⟨vs, Same.seq e hs, by rw [dpAll_len ha]; exact Nat.le_refl _⟩
  yld := fun B1 i H x H' e e1 hi h => by
    obtain ⟨T, y, rfl, nT, rfl, h⟩ := h
    obtain ⟨v, e2, hd⟩ := dpAll_get ha (getD_some hi)
    have := h vs (Same.seq (e.trans e1) hs)
    rw [e2] at this
    cases this
    have sb : Same B1 (upd B1 T (.tup [.int (i : Nat), y])) := same_upd (e1.free nT)
    exact ⟨_, Stp.new e1 nT, Dp.tup (SqT.of upd_same) (.cons (.int _) (.cons (dpMono (e.trans sb) hd) .nil))⟩
theorem wk_enumT {B : Hp} {a : Addr} {vs : List V} {xs : List PyData} (hs : SqT K B a vs) (ha : DpAll K B vs xs) : Wk K B (IteT K a) xs.length (fun i => .d (.tuple [.int i, xs.getD i .none])) where
  go := fun i H e hi => by
    obtain ⟨v, e1, _⟩ := dpAll_get ha (getD_some hi)
    exact ⟨vs, v, sameT e hs, e1⟩
  stop := fun H e => ⟨vs, sameT e hs, by rw [dpAll_len ha]; exact Nat.le_refl _⟩
  yld := fun B1 i H x H' e e1 hi h => by
    obtain ⟨T, y, rfl, nT, rfl, h⟩ := h
    obtain ⟨v, e2, hd⟩ := dpAll_get ha (getD_some hi)
    have := h vs (sameT (e.trans e1) hs)
    rw [e2] at this
    cases this
    have sb : Same B1 (upd B1 T (.tup [.int (i : Nat), y])) := same_upd (e1.free nT)
    exact ⟨_, Stp.new e1 nT, Dp.tup (SqT.of upd_same) (.cons (.int _) (.cons (dpMono (e.trans sb) hd) .nil))⟩
theorem ei_enum {ta' : TA} {xs : List PyData} {x : Dv} (h : EvA K ta' es (· = [x])) (hx : x = .d (.list xs) ∨ x = .d (.tuple xs)) : EvI K (iEnumS K ta') es (fun n f => n = xs.length ∧ f = fun i => .d (.tuple [.int i, xs.getD i .none])) := fun B0 H0 B σ H o R r =>
  h B0 H0 B σ H o _ fun l vs B1 H1 e s1 d1 => by
    subst e
    obtain ⟨v, rfl, d2⟩ := dv1 d1
    rcases hx with rfl | rfl
    · cases d2 with
      | lst hs ha => exact ⟨_, _, rfl, .inl ⟨Same.seq s1.bh hs, r _ _ _ B1 H1 ⟨rfl, rfl⟩ s1 (wk_enumL hs ha)⟩⟩
    · cases d2 with
      | tup hs ha => exact ⟨_, _, rfl, .inr ⟨sameT s1.bh hs, r _ _ _ B1 H1 ⟨rfl, rfl⟩ s1 (wk_enumT hs ha)⟩⟩
/-- [.. for i, x in enumerate(xs) if ..], over encoded things -/
theorem ev_lcEnum {wi : TI} {tt : TT} {i j : Nat} {vs : List Nat} (xs : List α) (enc : α → PyData) (b : Nat → α → Bool) (w : Nat → α → PyData) (h : EvI K wi es (fun n f => n = (xs.map enc).length ∧ f = fun i => .d (.tuple [.int i, (xs.map enc).getD i .none])))
    (hn : xs.length ≤ 8000000) (hi : i ∈ vs) (hj : j ∈ vs)
    (k : ∀ (a : Nat) (ha : a < xs.length), EvT K tt (((wipeS es vs).set i (.im (.d (.int a)))).set j (.im (.d (enc xs[a])))) (· = b a xs[a]) ∧ (b a xs[a] = true → Ev K te (((wipeS es vs).set i (.im (.d (.int a)))).set j (.im (.d (enc xs[a])))) (· = .d (w a xs[a])))) :
    EvL K (tLc wi (gTup K 2 (gCons (gName i) (gCons (gName j) gNil))) tt te vs) es (· = (xs.zipIdx.filter fun q => b q.2 q.1).map fun q => w q.2 q.1) := by
  have zl : xs.zipIdx.length = xs.length := List.length_zipIdx
  have zg : ∀ a (ha : a < xs.length), xs.zipIdx[a]? = some (xs[a], a) := fun a ha => by simp [List.getElem?_zipIdx, List.getElem?_eq_getElem ha]
  refine ev_lc (js := [i, j]) (Pd := fun a d => ∃ h : a < xs.length, d = w a xs[a]) (Pb := fun a c => ∃ h : a < xs.length, c = b a xs[a]) h (fun a ys => ys = ((xs.zipIdx.take a).filter fun q => b q.2 q.1).map fun q => w q.2 q.1) (by simp) (fun a ha => ?_) fun n f ⟨en, ef⟩ => ?_
  · rcases List.mem_cons.mp ha with rfl | ha
    · exact hi
    · rw [List.mem_singleton.mp ha]; exact hj
  · subst en; subst ef
    rw [List.length_map]
    refine ⟨hn, fun a ha => ?_, fun a ys d ha hI hb hd => ?_, fun a ys ha hI hb => ?_, fun ys hI => ?_⟩
    · have e := getD_map xs enc a ha
      have k' := k a ha
      refine ⟨((wipeS es vs).set i (.im (.d (.int a)))).set j (.im (.d (enc xs[a]))), ?_, k'.1.imp fun c e => ⟨ha, e⟩, fun ⟨_, hb⟩ => (k'.2 hb.symm).imp fun x e => ⟨_, e, ha, rfl⟩⟩
      show Tg K [i, j] _ _ (Dv.d (.tuple [.int a, (xs.map enc).getD a .none])) _
      rw [e]
      exact tg_pair
    · obtain ⟨_, hb⟩ := hb
      obtain ⟨_, hd⟩ := hd
      rw [List.take_add_one, zg a ha, Option.toList_some, List.filter_append, List.map_append, hI, hd, List.filter_cons_of_pos (p := fun q : α × Nat => b q.2 q.1) (a := (xs[a], a)) hb.symm]
      rfl
    · obtain ⟨_, hb⟩ := hb
      rw [List.take_add_one, zg a ha, Option.toList_some, List.filter_append, List.map_append, hI, List.filter_cons_of_neg (p := fun q : α × Nat => b q.2 q.1) (a := (xs[a], a)) (by show ¬ b a xs[a] = true; rw [← hb]; exact Bool.false_ne_true)]
      simp
    · rw [hI, List.take_of_length_le (by rw [zl]; exact Nat.le_refl _)]
end
end HM
end
section
/-! HM core 14: sorted over rows, index in a tuple, pops, several targets with new lists -/
namespace HM
open PySem PySem.Spec PyProof.Rows L2 RZ
/-! ### sorted(list) of data -/
def rSortedD (K : PySem.W.Frag) : List V → Hp → VK → Prop := fun vs H Q => ∃ B v ds, vs = [v] ∧ Same B H ∧ Dp K B v (.list ds) ∧ PySem.W.AllAlike ds ∧ PySem.W.Sortable ds ∧ (∀ d ∈ ds, d.depth ≤ 40) ∧
  ∀ (ws : List V) (p : Addr), DpAll K B ws (ds.mergeSort (PySem.W.dataLe false id)) → H p = none → Q (.ref p) (upd H p (.lst ws))
theorem each_of {K : PySem.W.Frag} {H : Hp} : ∀ {vs : List V} {ds : List PyData} {its : List Value}, DpAll K H vs ds → Vals vs its → PySem.W.EachIs (fun u d => ∃ v, RelV v u ∧ Dp K H v d) its ds
  | _, _, _, .nil, .nil => .nil
  | _, _, _, .cons a b, .cons r t => .cons ⟨_, r, a⟩ (each_of b t)
theorem of_each {K : PySem.W.Frag} {H : Hp} : ∀ {ds : List PyData} {its : List Value}, PySem.W.EachIs (fun u d => ∃ v, RelV v u ∧ Dp K H v d) its ds → ∃ vs, DpAll K H vs ds ∧ Vals vs its
  | _, _, .nil => ⟨[], .nil, .nil⟩
  | _, _, .cons ⟨v, r, a⟩ t => by
    obtain ⟨vs, h1, h2⟩ := of_each t
    exact ⟨v :: vs, .cons a h1, .cons r h2⟩
theorem cr_sortedD {X : Cx} (hu : X.A.units + 64 < cLine) : CallR X (.builtin "sorted") (rSortedD X.K) := by
  intro pins s σ H vs us Q I r h
  obtain ⟨B, v, ds, rfl, sb, hd, hal, hso, hdp, q⟩ := h
  obtain ⟨u, rfl, ru⟩ := vals1 r
  cases hd with
  | @lst a xs _ hs ha =>
    cases ru
    obtain ⟨its, rv, pl, hz⟩ := I.list (Same.seq sb hs)
    have e := each_of ha rv
    have er : PySem.W.EachIs (fun u d => ∃ as, Reads s.heap u (id d) as) its ds := e.mono fun u d ⟨v, r1, r2⟩ => Dp.reads I d v u (dpMono sb r2) r1
    refine PySem.W.sorted_data (enc := id) pl.isList e er (by rw [List.map_id]; exact hal) (by rw [List.map_id]; exact hso) (by rw [← dpAll_len ha]; exact hz) (fun d h => by have := hdp d h; show X.A.units + 2 + d.depth < cLine; omega) fun out hl ho => ?_
    obtain ⟨ws, h1, h2⟩ := of_each ho
    obtain ⟨ep, he'⟩ := PyProof.Rows.sortedAll_at s.heap its (List.toArray out)
    have hlen : ws.length ≤ sizeLine := by rw [h2.length, hl, ← dpAll_len ha]; exact hz
    exact ⟨.ref _, upd H (s.heap.objs.size + 1) (.lst ws), I.laid (t' := s.toks) (fun _ _ => PyProof.Rows.sortedAll_old) (Nat.le_succ _) ⟨hlen, out, ep, h2, he'⟩, rfl, q ws _ h1 (I.hok.fresh (Nat.le_succ _))⟩
def rSortedG (K : PySem.W.Frag) := cOr (rSortedX K) (rSortedD K)
theorem cr_sortedG {X : Cx} (hu : X.A.units + 64 < cLine) : CallR X (.builtin "sorted") (rSortedG X.K) := cr_sortedX.or (cr_sortedD hu)
section
variable {K : PySem.W.Frag} {es es' : List Sl} {te ta tb : TE} {t tk : TA} {P : Dv → Prop} {p : Pst} {α : Type}
theorem rcl_sortedI {x : Dv} {ns : List Int} (h : IsD x ns) : RcL K (rSortedG K) [x] (fun l => ∃ ms : List Int, l = ms.map .int ∧ ms.Perm ns ∧ ms.Pairwise (· ≤ ·)) := fun B H vs e a Q q => .inl (rcl_sorted h B H vs e a Q q)
/-- rows of ints, all not empty -/
theorem rcl_sortedD {xs : List α} {enc : α → PyData} (h1 : ∀ a b, PySem.W.alike (enc a) (enc b) = true) (h2 : PySem.W.Sortable (xs.map enc)) (h3 : ∀ a, (enc a).depth ≤ 40) : RcL K (rSortedG K) [.d (.list (xs.map enc))] (· = (xs.mergeSort (PySem.W.dataLe false enc)).map enc) := fun B H vs e a Q q => .inr (by
  obtain ⟨v, rfl, d⟩ := dv1 a
  refine ⟨B, v, xs.map enc, rfl, e, d, PySem.W.AllAlike.of h1, h2, fun d hd => ?_, fun ws p ha hp => ?_⟩
  · obtain ⟨x, _, rfl⟩ := List.mem_map.mp hd
    exact h3 x
  · have em : (xs.map enc).mergeSort (PySem.W.dataLe false id) = (xs.mergeSort (PySem.W.dataLe false enc)).map enc := by
      rw [List.map_mergeSort (r := PySem.W.dataLe false enc) (s := PySem.W.dataLe false id) fun a _ b _ => rfl]
    rw [em] at ha
    have hb := e.free hp
    exact q _ p ws B _ rfl (Stp.open e hp) hp hb upd_same ha)
/-! ### isinstance(x, (list, tuple)) -/
theorem rc_isSeq {x : Dv} {d : PyData} {ds : List PyData} (h : Rd1 x d) (hd : d = .list ds ∨ d = .tuple ds) : Rc K (rIsiT K) [x, .row [.ty "list", .ty "tuple"]] (· = .d (.bool true)) := fun B H vs e a Q q => by
  obtain ⟨v, w, rfl, d1, tp, rfl, d2⟩ := dv2 a
  have dp := h.dp e d1
  have ho := e _ _ d2
  have fin : Q (.bl true) H := q _ _ B H rfl (Stp.refl e) (.bl true)
  have k1 : ∀ {t : String}, kitB t "list" = some true → PySem.W.kitAny K (.type t) [.type "list", .type "tuple"] = some true := fun h => kitAny_cons (kit_ty h) (fun z => nomatch z) fun _ => rfl
  have k2 : PySem.W.kitAny K (.type "tuple") [.type "list", .type "tuple"] = some true := kitAny_cons (b := false) (kit_ty (by decide +kernel)) (fun _ => kitAny_cons (b := true) (kit_ty (by decide +kernel)) (fun z => nomatch z) fun _ => rfl) fun z => nomatch z
  rcases hd with rfl | rfl
  · cases dp with
    | lst hs ha =>
      refine ⟨_, tp, _, .type "list", [.type "list", .type "tuple"], true, rfl, ho, .cons (.ty _) (.cons (.ty _) .nil), ?_, k1 (by decide +kernel), fin⟩
      rcases hs with (hs | ⟨o, hs⟩) | ⟨o, its, n, hk, hc, _⟩
      · exact .base (.lst hs)
      · exact .base (.frz hs)
      · exact .kList hk hc
  · cases dp with
    | tup hs ha =>
      refine ⟨_, tp, _, .type "tuple", [.type "list", .type "tuple"], true, rfl, ho, .cons (.ty _) (.cons (.ty _) .nil), ?_, k2, fin⟩
      rcases hs with (hs | ⟨o, hs⟩) | ⟨o, its, n, hk, hc, _⟩
      · exact .base (.tup hs)
      · exact .fTuple hs
      · exact .kTuple hk hc
/-! ### pops -/
theorem tyL {H : Hp} {q : Addr} {vs : List V} (h : H q = some (.lst vs)) : tyV K "list" (.ref q) H := .inl ⟨rfl, _, SqL.of h⟩
theorem sx_popSet {i j : Nat} {xs : List PyData} {d : PyData} (e : es[i]? = some (.mu (xs ++ [d]))) (k : p.nx ((es.set i (.mu xs)).set j (.im (.d d)))) : Sx K (tAsg (tBM0 K "list" rPop (tVar i)) (gName j)) es p := fun B0 H0 B σ H D o g => by
  obtain ⟨q, vs, e1, hb, h0, hp, ha⟩ := o.mu e
  have hl := dpAll_len ha
  obtain ⟨v, hv, dv⟩ := dpAll_get ha (i := xs.length) (by rw [List.getElem?_append_right (Nat.le_refl _), Nat.sub_self]; rfl)
  have hl' : vs.length - 1 = xs.length := by rw [hl, List.length_append]; rfl
  have hd : DpAll K B vs.dropLast xs := by
    rw [List.dropLast_eq_take]
    have := dpAll_take (vs.length - 1) ha
    rw [hl'] at this ⊢
    rwa [List.take_left] at this
  refine ⟨.ref q, e1, tyL hp, q, vs, v, rfl, rfl, hp, by rw [hl']; exact hv, ?_⟩
  exact g.nx _ B _ _ k (Same.refl _) (((o.write e e1 hd).set j (x := .d d) dv))
theorem dpAll_erase {H : Hp} : ∀ {vs : List V} {ds : List PyData} (k : Nat), DpAll K H vs ds → DpAll K H (vs.eraseIdx k) (ds.eraseIdx k)
  | _, _, _, .nil => .nil
  | _, _, 0, .cons _ b => b
  | _, _, k + 1, .cons a b => .cons a (dpAll_erase k b)
/-- found.append(left.pop(k)) -/
theorem sx_popApp {i j : Nat} {xs ys : List PyData} (ei : es[i]? = some (.mu xs)) (ej : es[j]? = some (.mu ys)) (hij : i ≠ j) (h : Ev K te es (fun x => ∃ k : Nat, x = .d (.int k) ∧ k < xs.length)) (hy : ys.length < 1000000) (hx : xs.length < 1000000)
    (kk : ∀ (k : Nat) d, xs[k]? = some d → p.nx ((es.set i (.mu (xs.eraseIdx k))).set j (.mu (ys ++ [d])))) : Sx K (tDrop (tBM K "list" rAppend (tVar j) (tCons (tBM K "list" rPopAt (tVar i) (tCons te tNil)) tNil))) es p := fun B0 H0 B σ H D o g => by
  obtain ⟨a, vs, ea, ha0, hA0, hpa, haD⟩ := o.mu ej
  obtain ⟨b, ws, eb, hb0, hB0, hpb, hbD⟩ := o.mu ei
  refine ⟨.ref a, ea, tyL hpa, .ref b, eb, tyL hpb, h B0 H0 B σ H o _ fun y v B1 H1 ⟨k, ey, hkl⟩ s1 d1 => ?_⟩
  subst ey
  cases d1
  have o1 := o.mono s1
  have hpb1 := s1.hh _ _ hpb
  have hl := dpAll_len hbD
  have hk := List.getElem?_eq_getElem hkl
  obtain ⟨u, hu, du⟩ := dpAll_get hbD hk
  have si : seqIndex? (k : Int) ws.length = some k := seqIndex_of (Int.natCast_nonneg k) (by omega)
  refine ⟨b, ws, (k : Int), k, u, rfl, rfl, hpb1, by omega, by omega, si, hu, ?_⟩
  have hne : a ≠ b := (o.ne j i ys xs a b (Ne.symm hij) ej ei ea eb)
  have hpa1 : upd H1 b (.lst (ws.eraseIdx k)) a = some (.lst vs) := by rw [upd_ne hne]; exact s1.hh _ _ hpa
  have o2 := o1.write ei eb (dpAll_erase k (dpAllMono s1.bb hbD))
  refine ⟨a, vs, u, rfl, rfl, hpa1, line_lt (by rw [dpAll_len haD]; omega), ?_⟩
  have ej2 : (es.set i (.mu (xs.eraseIdx k)))[j]? = some (.mu ys) := by rw [List.getElem?_set_ne hij]; exact ej
  exact g.nx _ B1 σ _ (kk k _ hk) s1.bb (o2.write ej2 ea (dpAll_app (dpAllMono s1.bb haD) (.cons (dpMono s1.bb du) .nil)))
/-! ### several targets, new lists among the values -/
inductive Im where
  | v (x : Dv) | l (xs : List PyData)
def Im.sl : Im → Sl
  | .v x => .im x
  | .l xs => .mu xs
/-- H: the heap ahead of the values -/
def ImV (K : PySem.W.Frag) (H B1 H1 : Hp) : Im → V → Prop
  | .v x, v => Stay x ∧ DV K B1 H1 x v
  | .l xs, v => ∃ p ws, v = .ref p ∧ H p = none ∧ B1 p = none ∧ H1 p = some (.lst ws) ∧ DpAll K B1 ws xs
inductive ImVs (K : PySem.W.Frag) (H B1 H1 : Hp) : List Im → List V → Prop
  | nil : ImVs K H B1 H1 [] []
  | cons {m : Im} {v : V} {ms : List Im} {vs : List V} (a : ImV K H B1 H1 m v) (n : ∀ xs, m = .l xs → ∀ (k : Nat) ys, ms[k]? = some (.l ys) → vs[k]? ≠ some v) (b : ImVs K H B1 H1 ms vs) : ImVs K H B1 H1 (m :: ms) (v :: vs)
def EvM (K : PySem.W.Frag) (ta : TA) (es : List Sl) (ms : List Im) : Prop := ∀ (B0 H0 B : Hp) (σ : L2.St) (H : Hp), Ok K B0 H0 B es σ H → ∀ Q : List V → Hp → Prop,
  (∀ vs B2 H2, Stp B H B2 H2 → ImVs K H B2 H2 ms vs → Q vs H2) → ta σ H Q
theorem em_nil : EvM K tNil es [] := fun B0 H0 B σ H o Q q => q [] B H (Stp.refl o.bh) .nil
theorem ImVs.fresh {H H1 B2 H2 : Hp} (e : Same H H1) : ∀ {ms : List Im} {vs : List V}, ImVs K H1 B2 H2 ms vs → ImVs K H B2 H2 ms vs
  | _, _, .nil => .nil
  | .v _ :: _, _, .cons a n b => .cons a n (ImVs.fresh e b)
  | .l _ :: _, _, .cons ⟨p, ws, e1, h0, r⟩ n b => .cons ⟨p, ws, e1, e.free h0, r⟩ n (ImVs.fresh e b)
theorem ImVs.at {H B2 H2 : Hp} : ∀ {ms : List Im} {vs : List V}, ImVs K H B2 H2 ms vs → ∀ (k : Nat) ys, ms[k]? = some (.l ys) → ∃ p, vs[k]? = some (.ref p) ∧ H p = none
  | _, _, .nil, k, ys, h => by simp at h
  | m :: _, _, .cons a n b, 0, ys, h => by
    simp at h
    subst h
    obtain ⟨p, ws, e1, h0, _⟩ := a
    exact ⟨p, by rw [e1]; rfl, h0⟩
  | m :: _, _, .cons a n b, k + 1, ys, h => by
    obtain ⟨p, e, h0⟩ := ImVs.at b k ys (by simpa using h)
    exact ⟨p, by simpa using e, h0⟩
theorem em_v {x : Dv} {ms : List Im} (s : Stay x) (h : Ev K te es (· = x)) (ht : EvM K t es ms) : EvM K (tCons te t) es (.v x :: ms) := fun B0 H0 B σ H o Q q =>
  h B0 H0 B σ H o _ fun y v B1 H1 e s1 d1 => ht B0 H0 B1 σ H1 (o.mono s1) _ fun vs B2 H2 s2 d2 => by
    subst e
    exact q _ B2 H2 (s1.trans s2) (.cons ⟨s, DV.mono s2.bb s2.hh d1⟩ (fun xs z => nomatch z) (d2.fresh s1.hh))
theorem em_l {xs : List PyData} {ms : List Im} (h : EvL K te es (· = xs)) (ht : EvM K t es ms) : EvM K (tCons te t) es (.l xs :: ms) := fun B0 H0 B σ H o Q q =>
  h B0 H0 B σ H o _ fun ys r ws B1 H1 e s1 h0 hb hp ha => ht B0 H0 B1 σ H1 (o.mono s1) _ fun vs B2 H2 s2 d2 => by
    subst e
    have nz : H1 r ≠ none := by rw [hp]; exact fun z => nomatch z
    refine q _ B2 H2 (s1.trans s2) (.cons ⟨r, ws, rfl, h0, s2.fr r hb nz, s2.hh _ _ hp, dpAllMono s2.bb ha⟩ (fun _ _ k zs hk hv => ?_) (d2.fresh s1.hh))
    obtain ⟨r', e1, h1⟩ := d2.at k zs hk
    rw [e1] at hv
    cases hv
    exact nz h1
def setMs : List Nat → List Im → List Sl → List Sl
  | i :: is, m :: ms, es => setMs is ms (es.set i m.sl)
  | _, _, es => es
def setVs : List Nat → List V → L2.St → L2.St
  | i :: is, v :: vs, σ => setVs is vs (σ.set i (some v))
  | _, _, σ => σ
theorem ok_setMs {B0 H0 B H : Hp} {Ha : Hp} (f : Same H0 Ha) : ∀ {ms : List Im} {vs : List V} (is : List Nat) {es : List Sl} {σ : L2.St}, ImVs K Ha B H ms vs → Ok K B0 H0 B es σ H →
    (∀ (k : Nat) ys, ms[k]? = some (.l ys) → ∀ (j : Nat) zs u, vs[k]? = some u → es[j]? = some (.mu zs) → σ[j]? ≠ some (some u)) → Ok K B0 H0 B (setMs is ms es) (setVs is vs σ) H
  | _, _, [], es, σ, _, o, _ => o
  | _, _, i :: is, es, σ, .nil, o, _ => o
  | .v x :: ms, v :: vs, i :: is, es, σ, .cons a n b, o, fr => by
    refine ok_setMs f is b (o.set i (a.2.stay a.1)) fun k ys hk j zs u hu hj => ?_
    rcases set_get hj with ⟨_, z, _⟩ | ⟨hne, hj⟩
    · cases z
    · rw [List.getElem?_set_ne (Ne.symm hne)]
      exact fr (k + 1) ys (by simpa using hk) j zs u (by simpa using hu) hj
  | .l xs :: ms, v :: vs, i :: is, es, σ, .cons a n b, o, fr => by
    obtain ⟨p, ws, rfl, h0, hb, hp, ha⟩ := a
    have hn : ∀ (j : Nat) ys, es[j]? = some (.mu ys) → σ[j]? ≠ some (some (.ref p)) := fun j ys hj => fr 0 xs rfl j ys (.ref p) rfl hj
    refine ok_setMs f is b (o.setMu i hn hb (f.free h0) hp ha) fun k ys hk j zs u hu hj => ?_
    rcases set_get hj with ⟨e1, _, hl⟩ | ⟨hne, hj⟩
    · subst e1
      rw [List.getElem?_set_self (by rw [← o.len]; exact hl)]
      intro z
      cases z
      exact n xs rfl k ys hk hu
    · rw [List.getElem?_set_ne (Ne.symm hne)]
      exact fr (k + 1) ys (by simpa using hk) j zs u (by simpa using hu) hj
theorem old_mu {B0 H0 B H B2 H2 : Hp} {σ : L2.St} {ms : List Im} {vs : List V} (o : Ok K B0 H0 B es σ H) (d : ImVs K H B2 H2 ms vs) (k : Nat) (ys : List PyData) (hk : ms[k]? = some (.l ys)) (j : Nat) (zs : List PyData) (u : V) (hu : vs[k]? = some u) (hj : es[j]? = some (.mu zs)) : σ[j]? ≠ some (some u) := fun z => by
  obtain ⟨p, e1, h1⟩ := d.at k ys hk
  obtain ⟨q, ws, e2, _, _, e4, _⟩ := o.mu hj
  rw [e1] at hu
  cases hu
  rw [e2] at z
  cases z
  rw [h1] at e4
  cases e4
theorem sx_parM {i j : Nat} {ta : TA} {a b : Im} (h : EvM K ta es [a, b]) (k : p.nx (setMs [i, j] [a, b] es)) : Sx K (tPar i j ta) es p := fun B0 H0 B σ H D o g =>
  h B0 H0 B σ H o _ fun vs B1 H1 s1 d1 => by
    have ok := ok_setMs (is := [i, j]) o.st.hh d1 (o.mono s1) (old_mu o d1)
    cases d1 with
    | cons a1 n1 b1 =>
      cases b1 with
      | cons a2 n2 b2 =>
        cases b2
        exact ⟨_, _, rfl, g.nx _ B1 _ H1 k s1.bb ok⟩
def gNames : List Nat → TGs
  | [] => gNil
  | i :: is => gCons (gName i) (gNames is)
theorem names_run : ∀ (is : List Nat) (vs : List V) (σ : L2.St) (H : Hp) (Q : L2.St → Hp → Prop), is.length = vs.length → Q (setVs is vs σ) H → gNames is vs σ H Q
  | [], [], σ, H, Q, _, q => ⟨rfl, q⟩
  | i :: is, v :: vs, σ, H, Q, h, q => ⟨v, vs, rfl, names_run is vs _ H Q (by simpa using h) q⟩
theorem imVs_len {H B H1 : Hp} : ∀ {ms : List Im} {vs : List V}, ImVs K H B H1 ms vs → ms.length = vs.length
  | _, _, .nil => rfl
  | _, _, .cons _ _ b => by simp [imVs_len b]
/-- a, b, .. = (.., ..): a tuple that is made and taken apart -/
theorem sx_tupM {ta : TA} {ms : List Im} (is : List Nat) {n : Nat} (h : EvM K ta es ms) (hl : is.length = ms.length) (hn : ms.length = n) (h2 : ms.length ≤ 100) (k : p.nx (setMs is ms es)) : Sx K (tAsg (tTup ta) (gTup K n (gNames is))) es p := fun B0 H0 B σ H D o g =>
  h B0 H0 B σ H o _ fun vs B1 H1 s1 d1 => by
    have lv := imVs_len d1
    refine ⟨line_le (by omega), fun q hq => ⟨q, vs, rfl, SqT.of upd_same, by omega, names_run is vs σ _ _ (by omega) ?_⟩⟩
    have st := Stp.open (o := .tup vs) s1.bh hq
    have d2 : ImVs K H B1 (upd H1 q (.tup vs)) ms vs := by
      have go : ∀ {ms : List Im} {vs' : List V}, ImVs K H B1 H1 ms vs' → ImVs K H B1 (upd H1 q (.tup vs)) ms vs' := fun {ms vs'} d => by
        induction d with
        | nil => exact .nil
        | @cons m v ms vs a n b ih =>
          refine .cons ?_ n ih
          cases m with
          | v x => exact ⟨a.1, DV.mono (Same.refl _) st.hh a.2⟩
          | l xs =>
            obtain ⟨r, ws, e1, h0, hb, hp, ha⟩ := a
            exact ⟨r, ws, e1, h0, hb, st.hh _ _ hp, ha⟩
      exact go d1
    exact g.nx _ B1 _ _ k s1.bb (ok_setMs (is := is) o.st.hh d2 ((o.mono s1).mono st) (old_mu o d2))
end
end HM
end
section
/-! HM core 15: the place of an int in a tuple, None, in, while with a number of its own -/
namespace HM
open PySem PySem.Spec PyProof.Rows L2 RZ
theorem flat_ints (ns : List Int) : (ns.map V.int).all flatV = true := by
  rw [List.all_map]
  exact List.all_eq_true.mpr fun _ _ => rfl
def rTupIx (K : PySem.W.Frag) : V → List V → Hp → VK → Prop := fun x xs H Q => ∃ (p : Addr) (ns : List Int) (z : Int) (j : Nat), x = .ref p ∧ xs = [.int z] ∧ SqT K H p (ns.map V.int) ∧ ns[j]? = some z ∧ (∀ m, m < j → ns[m]? ≠ some z) ∧ Q (.int (j : Nat)) H
theorem mt_tupIx {X : Cx} : MtR X "tuple.index" (rTupIx X.K) := by
  intro pins s σ H x xs v us Q I rx rs h
  obtain ⟨p, ns, z, j, rfl, rfl, hq, hy, hno, q⟩ := h
  cases rx
  obtain ⟨u, rfl, t, rfl⟩ := vals1 rs
  obtain ⟨its, r, pl, hz⟩ := I.tuple hq
  obtain ⟨⟨cls, dd, dt, sl⟩, ho, hc, n, hd⟩ := pl
  simp only at hc hd
  subst hc
  subst hd
  have hl : its.toArray.size = ns.length := by rw [List.size_toArray, ← r.length, List.length_map]
  have each : ∀ (m : Nat) (hm : m < its.toArray.size), ∃ y t', ns[m]? = some y ∧ its.toArray[m] = Value.int y t' := fun m hm => by
    have hm' : m < ns.length := hl ▸ hm
    obtain ⟨w, hw, t', hw'⟩ := r.get (i := m) (x := .int ns[m]) (by simp [hm'])
    refine ⟨ns[m], t', List.getElem?_eq_getElem hm', ?_⟩
    have e := (List.getElem?_eq_some_iff.mp hw).2
    rw [← hw', ← e]
    simp
  have hj : j < its.toArray.size := by
    rw [hl]
    exact (List.getElem?_eq_some_iff.mp hy).1
  refine call_meets PySem.F.slot_tuple_index ⟨_, ho, rfl⟩ PySem.F.entry_tuple_index (PySem.F.args_tuple_index_2 _ _) (TI.tuple_indexAt p its.toArray n dd sl (.int z t) (eqU (.int z)) j hj ?_ ?_)
    ⟨ho, fun w hw => mem_eqAt (x := .int z) ⟨t, rfl⟩ rfl r (flat_ints ns) w (by simpa using hw), ⟨.int (j : Nat), H, I.tok _, ⟨_, rfl⟩, q⟩⟩
  · obtain ⟨y, t', h1, h2⟩ := each j hj
    rw [hy] at h1
    cases h1
    rw [h2]
    show (z == z) = true
    exact beq_self_eq_true z
  · intro m hm hmj
    obtain ⟨y, t', h1, h2⟩ := each m hm
    rw [h2]
    show (y == z) = false
    exact beq_eq_false_iff_ne.mpr fun e => hno m hmj (e ▸ h1)
/-- tuple(list): its object is known to have no dict -/
def rTupZ (K : PySem.W.Frag) : List V → Hp → VK → Prop := fun xs H Q => ∃ p ys, xs = [.ref p] ∧ SqL K H p ys ∧ ∀ (l : Addr) (o : Obj), H l = none → o.dict = none → Q (.ref l) (upd H l (.frz o (.tup ys)))
theorem call_tupZ {X : Cx} : CallR X (.type "tuple") (rTupZ X.K) := by
  intro pins s σ H xs us Q I r h
  obtain ⟨p, ys, rfl, hq, q⟩ := h
  obtain ⟨u, rfl, rx⟩ := vals1 r
  cases rx
  obtain ⟨its, r', pl, hz⟩ := I.list hq
  have hlen := r'.length
  refine call_tuple_list pl.isList (fun h' kp => ?_) (by simp only [List.size_toArray] <;> omega)
  have I1 : Inv X pins σ H { s with heap := h' } := I.kept (t' := s.toks) kp
  have at' : (h'.push { cls := .type "tuple", data := .seq its.toArray }).get? h'.objs.size = some { cls := .type "tuple", data := .seq its.toArray } := Heap.get?_push_size _ rfl
  have I2 : Inv X pins σ (upd H h'.objs.size (.frz { cls := .type "tuple", data := .seq its.toArray } (.tup ys))) { s with heap := h'.push { cls := .type "tuple", data := .seq its.toArray } } :=
    I1.laid (t' := s.toks) (fun b o e => Heap.get?_push_of_some _ e) (Nat.le_refl _) ⟨at', hz, its, r', IsTup.new _ _⟩
  exact ⟨.ref h'.objs.size, _, I2, rfl, q _ _ (I1.hok.fresh (Nat.le_refl _)) rfl⟩
/-- a method of such a tuple -/
def tTM (r : V → List V → Hp → VK → Prop) (to : TE) (t : TA) : TE := fun σ H Q => to σ H fun x H1 => ∃ (p : Addr) (o : Obj) (xs : List V), x = .ref p ∧ H1 p = some (.frz o (.tup xs)) ∧ o.dict = none ∧ t σ H1 fun ys H2 => r x ys H2 Q
theorem pe_tm {X : Cx} {o e : Expr} {es : List Expr} {to : TE} {t : TA} {name : Str} {apos cpos : Pos} {id : String} {r : V → List V → Hp → VK → Prop} (pa : PlainAttrs "tuple") (slot : Slot "tuple" name id) (hty : typeOf (.builtin id) = pure (.type "method_descriptor")) (hm : MtR X id r) (ho : PE X o to) (ha : PA X (e :: es) t)
    (hbase : attributeBase o name X.env (eval o X.env) = eval o X.env := by rfl)
    (hfew : ((backTo cpos (starEach (e :: es) X.env)).all (fun x => !x.1) && (backToKw cpos (keywordEach [] X.env)).all (fun x => x.1.isSome)
      && decide ((e :: es).length + ([] : List Keyword).length + (if ([] : List Keyword).isEmpty then 0 else 1) < 30)) = true := by rfl)
    (hline : (apos.endLine == cpos.line) = true := by rfl) (hs : starEach (e :: es) X.env = (false, eval e X.env) :: starEach es X.env := by rfl) (hplain : (backTo cpos (starEach es X.env)).any (·.1) = false := by rfl) :
    PE X (.Call (.Attribute o name apos) (e :: es) [] cpos) (tTM r to t) := by
  constructor
  intro pins s σ H Q I h
  refine wpAny_Call_method_late hbase hfew hline rfl (thn (ho.run pins s σ H _ I h) ?_)
  rintro v s1 ⟨x, H1, I1, r1, p, ob, xs, rfl, hp, hd, q1⟩
  cases r1
  obtain ⟨he, hz, its, rv, hT⟩ := I1.hok p _ hp
  refine ⟨"tuple", id, pa, slot, hty, ?_, fun a e => ?_, ?_⟩
  · obtain ⟨o2, h2, hc, _⟩ := hT
    exact ⟨o2, h2, hc⟩
  · cases e
    exact ⟨ob, he, hd⟩
  · have hA := ha.run cpos pins s1 σ H1 _ I1 q1
    rw [hs] at hA ⊢
    refine Calls.callWith_builtin (by show (false || (backTo cpos (starEach es X.env)).any (·.1)) = false; rw [hplain] <;> rfl) (Calls.evalArgs_plain (thn hA ?_))
    rintro us s2 ⟨vs, H2, I2, r2, q2⟩
    exact hm pins s2 σ H2 (.ref p) vs (.ref p) us Q I2 rfl r2 q2
section
variable {K : PySem.W.Frag} {es es' : List Sl} {te ta tb : TE} {t tk : TA} {P : Dv → Prop} {p : Pst} {α : Type} {c : TT} {tb' : TS}
theorem DV.zd {B H : Hp} {ds : List PyData} {v : V} (h : DV K B H (.z ds) v) : DV K B H (.d (.tuple ds)) v := by
  obtain ⟨a, o, vs, rfl, e, _, ha⟩ := h
  exact Dp.tup (.inl (.inr ⟨o, e⟩)) ha
/-- a tuple without a dict is a tuple -/
theorem Ev.zd {ds : List PyData} (h : Ev K te es (· = .z ds)) : Ev K te es (· = .d (.tuple ds)) := fun B0 H0 B σ H o Q q =>
  h B0 H0 B σ H o Q fun x v B1 H1 e s1 d1 => by
    subst e
    exact q (.d (.tuple ds)) v B1 H1 rfl s1 (DV.zd d1)
theorem rc_tupZ {ds : List PyData} : Rc K (rTupZ K) [.d (.list ds)] (· = .z ds) := fun B H vs e a Q q => by
  obtain ⟨v, rfl, d⟩ := dv1 a
  cases d with
  | lst hs ha =>
    refine ⟨_, _, rfl, Same.seq e hs, fun l o hl ho => ?_⟩
    have hb := e.free hl
    exact q (.z ds) _ (upd B l (.frz o (.tup _))) _ rfl (Stp.new e hl) ⟨l, o, _, rfl, upd_same, ho, dpAllMono (same_upd hb) ha⟩
theorem ev_tupIx {ns : List Int} {z : Int} {j : Nat} (h : Ev K te es (· = .z (ns.map .int))) (ha : Ev K ta es (· = .d (.int z))) (hj : ns[j]? = some z) (hno : ∀ m, m < j → ns[m]? ≠ some z) : Ev K (tTM (rTupIx K) te (tCons ta tNil)) es (· = .d (.int (j : Nat))) := fun B0 H0 B σ H o Q q =>
  h B0 H0 B σ H o _ fun x v B1 H1 e s1 d1 => by
    subst e
    obtain ⟨a, ob, vs, rfl, eb, hd, hda⟩ := d1
    have ei := dpAll_ints hda
    subst ei
    refine ⟨a, ob, _, rfl, s1.bh _ _ eb, hd, ha B0 H0 B1 σ H1 (o.mono s1) _ fun y w B2 H2 ey s2 d2 => ?_⟩
    subst ey
    cases d2
    exact ⟨a, ns, z, j, rfl, rfl, .inl (.inr ⟨ob, s2.bh _ _ (s2.bb _ _ eb)⟩), hj, hno, q _ _ B2 H2 rfl (s1.trans s2) (.int _)⟩
def isNon : PyData → Bool
  | .none => true
  | _ => false
theorem dp_non {B : Hp} {v : V} {d : PyData} (h : Dp K B v d) : decide (v = .non) = isNon d := by
  cases h <;> simp [isNon]
theorem rv_isNon {d : PyData} : Rv K rIsG (.d d) (.d .none) (· = .d (.bool (isNon d))) := Rv.rgt fun B H v w e a b Q q => by
  cases b
  refine ⟨rfl, ?_⟩
  have := dp_non a
  rw [this]
  exact q _ _ B H rfl (Stp.refl e) (.bl _)
theorem any_int (L : List Int) (i : Int) : ((L.map PyData.int).any fun y => PyData.eqv y (.int i)) = decide (i ∈ L) := by
  induction L with
  | nil => simp
  | cons x L ih =>
    rw [List.map_cons, List.any_cons, ih, eqv_int]
    by_cases h : x = i
    · subst h; simp
    · have h' : ¬ i = x := fun e => h e.symm
      simp [h, h']
theorem rv_inT {L : List Int} {i : Int} : Rv K (rInP K) (.d (.int i)) (.d (tI L)) (· = .d (.bool (decide (i ∈ L)))) := by
  have := rv_in (K := K) (x := .d (.int i)) (y := .d (tI L)) (xs := L.map .int) (.inl rfl) (.inl rfl) (.inr rfl) (flat_int i) (flat_tI L)
  rw [any_int] at this
  exact this
/-- while, with a number that falls -/
theorem sx_whileN (I : Nat → List Sl → Prop) (Pb : Nat → List Sl → Bool → Prop) {m0 : Nat} (h0 : I m0 es) (hc : ∀ m es', I m es' → EvT K c es' (Pb m es'))
    (h1 : ∀ m es', I m es' → Pb m es' true → Sx K tb' es' { p with nx := fun e => ∃ m', m' < m ∧ I m' e, ct := fun e => ∃ m', m' < m ∧ I m' e, bk := p.nx }) (h2 : ∀ m es', I m es' → Pb m es' false → p.nx es') : Sx K (tWhile c tb') es p := fun B0 H0 B σ H D o gg => by
  refine ⟨fun m σ H => ∃ es' B', Same B B' ∧ I m es' ∧ Ok K B0 H0 B' es' σ H, ⟨m0, es, B, Same.refl _, h0, o⟩, ?_⟩
  rintro m σ H ⟨es', B', sb, ii, o'⟩
  refine hc m es' ii B0 H0 B' σ H o' _ fun b B1 H1 pb s1 => ?_
  have o1 := o'.mono s1
  cases b with
  | true =>
    rw [if_pos rfl]
    refine ⟨fun σ' H' => ∃ m' e2 B2, m' < m ∧ Same B B2 ∧ I m' e2 ∧ Ok K B0 H0 B2 e2 σ' H', fun σ' H' ⟨m', e2, B2, q0, q1, q2, q3⟩ => ⟨m', q0, e2, B2, q1, q2, q3⟩, ?_⟩
    exact h1 m es' ii pb B0 H0 B1 σ H1 _ o1 ⟨fun e2 B2 σ2 H2 ⟨m', k1, k2⟩ q o2 => ⟨m', e2, B2, k1, sb.trans (s1.bb.trans q), k2, o2⟩, gg.rt, gg.rl, gg.rx, fun e2 B2 σ2 H2 m q o2 => gg.nx e2 B2 σ2 H2 m (sb.trans (s1.bb.trans q)) o2, fun e2 B2 σ2 H2 ⟨m', k1, k2⟩ q o2 => ⟨m', e2, B2, k1, sb.trans (s1.bb.trans q), k2, o2⟩⟩
  | false =>
    rw [if_neg Bool.false_ne_true]
    exact gg.nx es' B1 σ H1 (h2 m es' ii pb) (sb.trans s1.bb) o1
end
end HM
end
section
/-! HM core 19: set(list of ints) -/
namespace HM
open PySem PySem.Spec PyProof.Rows L2 RZ
/-! ### sets of ints -/
section
variable {P : Program} {w : World} {A : Around} {E : Value → Shared → Prop} {s : Shared}
set_option maxHeartbeats 3200000 in
theorem call_set_lstI {l : Addr} {items : Array Value} (ns : List Int) {Q : Value → Shared → Prop} (hh : A.handled = none) (hl : s.heap.IsList l items) (hit : IntsAre items.toList ns) (hb : ns.length + 1 < scanBound)
    (h : ∀ (h' : Heap) (tk c : Nat), SetR w h' s.heap.objs.size (fun j => decide (j ∈ ns)) c → c ≤ ns.length → (∀ b o, s.heap.get? b = some o → h'.get? b = some o) → Q (.ref s.heap.objs.size) { s with heap := h', toks := tk }) :
    wpAny (model P w) A (call (.type "set") [.ref l]) Q E s := by
  have hisz : items.size = ns.length := by
    have q := IntsAre.length hit
    rw [Array.length_toList] at q
    exact q
  obtain ⟨c, tl, hmro⟩ := F.called_set.mro
  have hmade := F.called_set.made
  have hsub := F.called_set.sub
  refine wpAny_call (codeAny_of_tree ?_)
  show wpAny _ _ (callAny (.type "set") _) _ _ _
  refine wpAny_pure ⟨Code.quiet_builtin _ (by decide +kernel), codeAny_builtin F.entry_type_call ?_⟩
  rw [Around.under_plain (weight_type_call_type "set" [.ref l] []) rfl]
  have h1 := F.called_set.notType
  have h2 := F.called_set.canCreate
  have hct := F.typeCall_set_1 (.ref l)
  repeat (any_goals (first | assumption | wp_step))

  refine codeAny_mono (code_set_led1 (.ref l) (E := E) (Q₁ := fun obj s₁ => obj = .ref s.heap.objs.size ∧ s₁ = { s with heap := s.heap.push { cls := .type "set", dict := none, data := .set #[] 0 (.fresh 0 0 (!w.params.followText "set-order")) } }) ⟨rfl, rfl⟩) fun r s₁ hr => ?_
  cases r with
  | error e => exact hr
  | ok fl =>
    cases fl with
    | ret obj =>
      obtain ⟨rfl, rfl⟩ := hr
      have hS : (s.heap.push { cls := .type "set", dict := none, data := .set #[] 0 (.fresh 0 0 (!w.params.followText "set-order")) }).get? s.heap.objs.size = some { cls := .type "set", dict := none, data := .set #[] 0 (.fresh 0 0 (!w.params.followText "set-order")) } := Heap.get?_push_size _ rfl
      have hT : Shared.TypeIs { s with heap := s.heap.push { cls := .type "set", dict := none, data := .set #[] 0 (.fresh 0 0 (!w.params.followText "set-order")) } } (.ref s.heap.objs.size) "set" := ⟨_, hS, rfl⟩
      have hli := F.called_set.init.lookup
      have hbi := F.called_set.init.bind (.ref s.heap.objs.size)
      repeat (any_goals (first | assumption | wp_step))

      refine codeAny_mono (codeAny_call_builtin (R := wants (fun r s₂ => r = .none ∧ ∃ h' tk c, s₂ = { s with heap := h', toks := tk } ∧ SetR w h' s.heap.objs.size (fun j => decide (j ∈ ns)) c ∧ c ≤ ns.length ∧
          (∀ b o, s.heap.get? b = some o → h'.get? b = some o)) E) F.called_set.init.plain F.entry_set_init (check_set_init_1 hT ?_)) fun r₂ s₂ hr₂ => ?_
      · obtain ⟨ol, hol, hcl, nl, hdl⟩ := hl
        obtain ⟨ocls, odict, odata, oslots⟩ := ol
        simp only at hcl hdl
        subst hcl; subst hdl
        have hol' : (s.heap.push { cls := .type "set", dict := none, data := .set #[] 0 (.fresh 0 0 (!w.params.followText "set-order")) }).get? l = some { cls := .type "list", dict := odict, data := .seq items nl, slots := oslots } := Heap.get?_push_of_some _ hol
        have hsls := F.sub_list_set
        have hslf := F.sub_list_frozenset
        have hne : (Value.type "list" == Value.type "dict") = false := by decide
        have hl1 : (s.heap.push { cls := .type "set", dict := none, data := .set #[] 0 (.fresh 0 0 (!w.params.followText "set-order")) }).IsList l items := ⟨_, hol', rfl, nl, rfl⟩
        unfold Builtin.«set.__init__» noKeywords Builtin.Frozenset.updateFrom
        generalize hPI : pyIter = PI
        wp_walk
        subst hPI

        refine wpAny_pyIter_list hl1 ?_
        refine wpAny_bind (wpAny_runValue ?_)
        have hlS : l < s.heap.objs.size := Heap.lt_size hol
        have hh3 : A.in1.in1.in1.handled = none := by simp [hh]
        have hz1 : (s.heap.push { cls := .type "set", dict := none, data := .set #[] 0 (.fresh 0 0 (!w.params.followText "set-order")) }).objs.size = s.heap.objs.size + 1 := Heap.size_push ..
        have hneI : l ≠ (s.heap.push { cls := .type "set", dict := none, data := .set #[] 0 (.fresh 0 0 (!w.params.followText "set-order")) }).objs.size := by
          rw [Heap.size_push]; exact Nat.ne_of_lt (Nat.lt_succ_of_lt hlS)
        have hSf : s.heap.objs.size ∉ [(s.heap.push { cls := .type "set", dict := none, data := .set #[] 0 (.fresh 0 0 (!w.params.followText "set-order")) }).objs.size, l] := by
          rw [Heap.size_push]; simp only [List.mem_cons, List.mem_singleton, List.not_mem_nil, or_false, not_or]
          exact ⟨Nat.ne_of_lt (Nat.lt_succ_self _), Nat.ne_of_gt hlS⟩
        have hval : ∀ (i : Nat) (v : Value), items[i]? = some v → ∃ k t, ns[i]? = some k ∧ v = .int k t := fun i v hv => by
          have hi : i < ns.length := by rw [← hisz]; exact (Array.getElem?_eq_some_iff.mp hv).1
          obtain ⟨t, e⟩ := PyProof.Rows.IntsAre.int_at hit i v (by rw [Array.getElem?_toList]; exact hv)
          refine ⟨ns[i], t, List.getElem?_eq_getElem hi, ?_⟩
          rw [e, List.getD_eq_getElem?_getD, List.getElem?_eq_getElem hi] <;> rfl
        refine set_update_ints ((Walks.list hh3 _ l hneI items).toS) s.heap.objs.size
          hSf ns hisz hb hval (items.size - 0) 0 _ (by omega) (Nat.zero_le _)
          ⟨⟨_, Heap.get?_push_size _ rfl, rfl, rfl⟩, (hl1.push _)⟩ ?hS0 ?hR
        case hS0 =>
          have hget : ((s.heap.push { cls := .type "set", dict := none, data := .set #[] 0 (.fresh 0 0 (!w.params.followText "set-order")) }).push { cls := .type "list_iterator", data := .fields #[.ref l, .int 0 0] }).get? s.heap.objs.size
              = some { cls := .type "set", dict := none, data := .set #[] 0 (.fresh 0 0 (!w.params.followText "set-order")) } := Heap.get?_push_of_some _ hS
          exact ⟨0, Nat.le_refl 0, setR_new_at hget⟩
        case hR =>
          intro s' c' hm hc' hS'
          obtain ⟨h', g2, d', tk', os'⟩ := s'
          have eg : g2 = s.gens := hm.gens
          have ed : d' = s.drawn := hm.drawn
          have eo : os' = s.os := hm.os
          subst eg; subst ed; subst eo
          show wpAny _ _ _ _ _ _
          refine wpAny_pure ?_
          show wpAny _ _ (ret Value.none) _ _ _
          rw [hisz] at hc'
          refine wpAny_pure ⟨rfl, h', tk', c', rfl, hS', hc', fun b o e => ?_⟩
          have hb0 : b < s.heap.objs.size := Heap.lt_size e
          have hb1 : b ≠ s.heap.objs.size := Nat.ne_of_lt hb0
          have hb2 : b ≠ (s.heap.push { cls := .type "set", dict := none, data := .set #[] 0 (.fresh 0 0 (!w.params.followText "set-order")) }).objs.size := by
            rw [Heap.size_push]; exact Nat.ne_of_lt (Nat.lt_succ_of_lt hb0)
          exact hm.heap b o (by simp only [List.mem_cons, List.mem_singleton, List.not_mem_nil, or_false, not_or]; exact ⟨hb1, hb2⟩) (Heap.get?_push_of_some _ (Heap.get?_push_of_some _ e))

      · cases r₂ with
        | error e => exact hr₂
        | ok fl₂ =>
          cases fl₂ with
          | ret r =>
            obtain ⟨rfl, h', tk, c', rfl, hS', hc', hk'⟩ := hr₂
            repeat (any_goals (first | assumption | wp_step))
            exact h _ _ _ hS' hc' hk'
          | _ => exact hr₂.elim
    | _ => exact hr.elim
end
end HM
end
section
/-! W: programs as predicate transformers over typed data -/
namespace HM
open PySem PySem.Spec PyProof.Rows L2 RZ

structure W (α : Type) where
  wp : (α → Prop) → Prop
  mono : ∀ P Q : α → Prop, (∀ a, P a → Q a) → wp P → wp Q
namespace W
variable {α β γ σ ρ : Type}
theorem ext' {m n : W α} (h : ∀ P, m.wp P ↔ n.wp P) : m = n := by
  cases m with | mk a _ => cases n with | mk b _ =>
    have : a = b := funext fun P => propext (h P)
    subst this
    rfl
def pure (a : α) : W α := ⟨fun P => P a, fun _ _ h p => h a p⟩
def bind (m : W α) (k : α → W β) : W β := ⟨fun P => m.wp fun a => (k a).wp P, fun P Q h p => m.mono _ _ (fun a q => (k a).mono P Q h q) p⟩
def fail : W α := ⟨fun _ => False, fun _ _ _ p => p⟩
/-- a value, if c holds -/
def chk (c : Prop) (a : α) : W α := ⟨fun P => c ∧ P a, fun _ _ h p => ⟨p.1, h a p.2⟩⟩
def get (o : Option α) : W α := ⟨fun P => ∃ a, o = some a ∧ P a, fun _ _ h ⟨a, e, p⟩ => ⟨a, e, h a p⟩⟩
def ite (b : Bool) (m n : W α) : W α := match b with | true => m | false => n
/-- any value of a set -/
def any (S : α → Prop) : W α := ⟨fun P => ∀ a, S a → P a, fun _ _ h p a s => h a (p a s)⟩
@[simp] theorem wp_pure {a : α} {P} : (pure a).wp P = P a := rfl
@[simp] theorem wp_bind {m : W α} {k : α → W β} {P} : (bind m k).wp P = m.wp fun a => (k a).wp P := rfl
@[simp] theorem wp_chk {c : Prop} {a : α} {P} : (chk c a).wp P = (c ∧ P a) := rfl
@[simp] theorem wp_get {o : Option α} {P} : (get o).wp P = ∃ a, o = some a ∧ P a := rfl
@[simp] theorem wp_any {S : α → Prop} {P} : (any S).wp P = ∀ a, S a → P a := rfl
@[simp] theorem wp_fail {P : α → Prop} : (fail : W α).wp P = False := rfl
@[simp] theorem pure_bind {a : α} {k : α → W β} : bind (pure a) k = k a := rfl
@[simp] theorem bind_pure {m : W α} : bind m pure = m := rfl
@[simp] theorem bind_assoc {m : W α} {k : α → W β} {l : β → W γ} : bind (bind m k) l = bind m fun a => bind (k a) l := rfl
@[simp] theorem ite_t {m n : W α} : ite true m n = m := rfl
@[simp] theorem ite_f {m n : W α} : ite false m n = n := rfl
theorem ite_d {b : Bool} {m n : W α} : ite b m n = if b then m else n := by cases b <;> rfl
@[simp] theorem ite_pure {b : Bool} {x y : α} : ite b (pure x) (pure y) = pure (if b then x else y) := by cases b <;> rfl
theorem chk_of {c : Prop} {a : α} (h : c) : chk c a = pure a := ext' fun P => by simp [h]
theorem get_of {o : Option α} {a : α} (h : o = some a) : get o = pure a := ext' fun P => by simp [h]
@[simp] theorem get_some {a : α} : get (some a) = pure a := get_of rfl
/-- a value that meets p -/
theorem imp {m : W α} {P Q : α → Prop} (h : m.wp P) (k : ∀ a, P a → Q a) : m.wp Q := m.mono P Q k h

/-! lists -/
def at' (xs : List α) (i : Int) : W α := get (atI xs i)
def setAt (xs : List α) (i : Int) (v : α) : W (List α) := chk (0 ≤ i ∧ i < xs.length) (xs.set i.toNat v)
def comp : List α → (α → W Bool) → (α → W β) → W (List β)
  | [], _, _ => pure []
  | x :: xs, c, f => bind (c x) fun b => ite b (bind (f x) fun y => bind (comp xs c f) fun ys => pure (y :: ys)) (comp xs c f)
def map1 (xs : List α) (f : α → W β) : W (List β) := comp xs (fun _ => pure true) f
def forS : List α → σ → (α → σ → W σ) → W σ
  | [], s, _ => pure s
  | x :: xs, s, f => bind (f x s) fun s' => forS xs s' f
inductive Fl (σ ρ : Type) where
  | nx (s : σ) | rt (r : ρ)
def forF : List α → σ → (α → σ → W (Fl σ ρ)) → W (Fl σ ρ)
  | [], s, _ => pure (.nx s)
  | x :: xs, s, f => bind (f x s) fun
    | .nx s' => forF xs s' f
    | .rt r => pure (.rt r)
def whileN : Nat → σ → (σ → W Bool) → (σ → W σ) → W σ
  | 0, _, _, _ => fail
  | n + 1, s, c, f => bind (c s) fun b => ite b (bind (f s) fun s' => whileN n s' c f) (pure s)
theorem whileN_up {c : σ → W Bool} {f : σ → W σ} {P : σ → Prop} : ∀ (n : Nat) (s : σ), (whileN n s c f).wp P → (whileN (n + 1) s c f).wp P
  | 0, s, h => h.elim
  | n + 1, s, h => by
    unfold whileN
    unfold whileN at h
    refine (c s).mono _ _ (fun b hb => ?_) h
    cases b with
    | true => exact (f s).mono _ _ (fun s' hs => whileN_up n s' hs) hb
    | false => exact hb
def whileS (s : σ) (c : σ → W Bool) (f : σ → W σ) : W σ := ⟨fun P => ∃ n, (whileN n s c f).wp P, fun P Q h ⟨n, p⟩ => ⟨n, (whileN n s c f).mono P Q h p⟩⟩
def whileFN : Nat → σ → (σ → W Bool) → (σ → W (Fl σ ρ)) → W (Fl σ ρ)
  | 0, _, _, _ => fail
  | n + 1, s, c, f => bind (c s) fun b => ite b (bind (f s) fun | .nx s' => whileFN n s' c f | .rt r => pure (.rt r)) (pure (.nx s))
def whileF (s : σ) (c : σ → W Bool) (f : σ → W (Fl σ ρ)) : W (Fl σ ρ) := ⟨fun P => ∃ n, (whileFN n s c f).wp P, fun P Q h ⟨n, p⟩ => ⟨n, (whileFN n s c f).mono P Q h p⟩⟩
def rangeI (lo hi : Int) : List Int := (List.range (hi - lo).toNat).map fun (k : Nat) => lo + k
def range1 (n : Int) : W (List Int) := chk (-1000000 < n ∧ n < 1000000) (rangeI 0 n)
def range2 (lo hi : Int) : W (List Int) := chk (-1000000 < lo ∧ lo < 1000000 ∧ -1000000 < hi ∧ hi < 1000000) (rangeI lo hi)
def maxL : List Int → W Int
  | [] => fail
  | x :: xs => pure (xs.foldl max x)
def minL : List Int → W Int
  | [] => fail
  | x :: xs => pure (xs.foldl min x)
def sortL (xs : List Int) : List Int := xs.mergeSort (fun a b => decide (a ≤ b))
def mem [DecidableEq α] (a : α) (xs : List α) : Bool := decide (a ∈ xs)
@[simp] theorem mem_eq [DecidableEq α] {a : α} {xs : List α} : (mem a xs = true) = (a ∈ xs) := by simp [mem]
@[simp] theorem mem_ne [DecidableEq α] {a : α} {xs : List α} : (mem a xs = false) = (¬ a ∈ xs) := by simp [mem]
def draw (n : Int) : W Int := ⟨fun P => (0 < n ∧ n ≤ 1000000) ∧ ∀ d, 0 ≤ d → d < n → P d, fun _ _ h ⟨p, q⟩ => ⟨p, fun d a b => h d (q d a b)⟩⟩
end W
/-! ### judgements -/
def ImR (K : PySem.W.Frag) (H B2 H2 : Hp) : Im → V → Prop
  | .v x, v => DV K B2 H2 x v
  | .l xs, v => ∃ p ws, v = .ref p ∧ H p = none ∧ B2 p = none ∧ H2 p = some (.lst ws) ∧ DpAll K B2 ws xs
theorem ImR.old {K : PySem.W.Frag} {H0 H B2 H2 : Hp} (e : Same H0 H) : ∀ {m : Im} {v : V}, ImR K H B2 H2 m v → ImR K H0 B2 H2 m v
  | .v _, _, h => h
  | .l _, _, ⟨p, ws, e1, h0, r⟩ => ⟨p, ws, e1, e.free h0, r⟩
section
variable (K : PySem.W.Frag) {α β γ δ : Type}
def EvX (te : TE) (es : List Sl) (e : α → Im) (m : W α) : Prop := ∀ (B0 H0 B : Hp) (σ : L2.St) (H : Hp), Ok K B0 H0 B es σ H → ∀ P : α → Prop, m.wp P → ∀ Q : VK,
  (∀ a v B2 H2, P a → Stp B H B2 H2 → ImR K H B2 H2 (e a) v → Q v H2) → te σ H Q
def EvXT (tt : TT) (es : List Sl) (m : W Bool) : Prop := ∀ (B0 H0 B : Hp) (σ : L2.St) (H : Hp), Ok K B0 H0 B es σ H → ∀ P : Bool → Prop, m.wp P → ∀ Q : Bool → Hp → Prop,
  (∀ b B2 H2, P b → Stp B H B2 H2 → Q b H2) → tt σ H Q
def EvXO (to : TO) (es : List Sl) (m : W (Option Int)) : Prop := ∀ (B0 H0 B : Hp) (σ : L2.St) (H : Hp), Ok K B0 H0 B es σ H → ∀ P : Option Int → Prop, m.wp P → ∀ Q : Option Int → Hp → Prop,
  (∀ o B2 H2, P o → Stp B H B2 H2 → Q o H2) → to σ H Q
/-- the items of a display, all of one kind; n of them -/
def EvXN (ta : TA) (es : List Sl) (e : α → PyData) (n : Nat) (m : W (List α)) : Prop := ∀ (B0 H0 B : Hp) (σ : L2.St) (H : Hp), Ok K B0 H0 B es σ H → ∀ P : List α → Prop, m.wp P → ∀ Q : List V → Hp → Prop,
  (∀ as vs B2 H2, P as → as.length = n → Stp B H B2 H2 → DpAll K B2 vs (as.map e) → Q vs H2) → ta σ H Q
def EvXI (wi : TI) (es : List Sl) (e : α → PyData) (m : W (List α)) : Prop := ∀ (B0 H0 B : Hp) (σ : L2.St) (H : Hp), Ok K B0 H0 B es σ H → ∀ P : List α → Prop, m.wp P → ∀ R : It → Hp → Prop,
  (∀ J xs B2 H2, P xs → Stp B H B2 H2 → Wk K B2 J xs.length (fun i => .d ((xs.map e).getD i .none)) → R J H2) → wi σ H R
def RvX (r : R2) (x y : Dv) (e : γ → Im) (m : W γ) : Prop := ∀ (B H : Hp) (v w : V), Same B H → DV K B H x v → DV K B H y w → ∀ P : γ → Prop, m.wp P → ∀ Q : VK,
  (∀ a u B2 H2, P a → Stp B H B2 H2 → ImR K H B2 H2 (e a) u → Q u H2) → r v w H Q
def RcX (r : List V → Hp → VK → Prop) (xs : List Dv) (e : γ → Im) (m : W γ) : Prop := ∀ (B H : Hp) (vs : List V), Same B H → DVs K B H xs vs → ∀ P : γ → Prop, m.wp P → ∀ Q : VK,
  (∀ a u B2 H2, P a → Stp B H B2 H2 → ImR K H B2 H2 (e a) u → Q u H2) → r vs H Q
def SxW (t : TS) (es : List Sl) (p : Pst) (R : α → Prop) (m : W α) : Prop := m.wp R → Sx K t es p
end
/-! encodings -/
section
variable {α β γ δ : Type}
abbrev eV (e : α → PyData) : α → Im := fun a => .v (.d (e a))
abbrev eN (e : α → PyData) : List α → Im := fun xs => .l (xs.map e)
abbrev eB : Bool → PyData := PyData.bool
abbrev eI : Int → PyData := PyData.int
abbrev eS : Str → PyData := PyData.str
abbrev eU : Unit → PyData := fun _ => .none
abbrev eW (w : Str) : Unit → PyData := fun _ => .str w
abbrev eA : PyData → PyData := fun d => d
abbrev eL (e : α → PyData) : List α → PyData := fun xs => .list (xs.map e)
abbrev eT (e : α → PyData) : List α → PyData := fun xs => .tuple (xs.map e)
abbrev eP0 : Unit → PyData := fun _ => .tuple []
abbrev eP1 (e : α → PyData) : α → PyData := fun a => .tuple [e a]
abbrev eP2 (e : α → PyData) (f : β → PyData) : α × β → PyData := fun p => .tuple [e p.1, f p.2]
abbrev eP3 (e : α → PyData) (f : β → PyData) (g : γ → PyData) : α × β × γ → PyData := fun p => .tuple [e p.1, f p.2.1, g p.2.2]
abbrev eP4 (e : α → PyData) (f : β → PyData) (g : γ → PyData) (h : δ → PyData) : α × β × γ × δ → PyData := fun p => .tuple [e p.1, f p.2.1, g p.2.2.1, h p.2.2.2]
def eO (e : α → PyData) : Option α → PyData
  | none => .none
  | some a => e a
def eNO (e : α → PyData) : Option (List α) → Im
  | none => .v (.d .none)
  | some xs => .l (xs.map e)
abbrev ePot : Unit → Im := fun _ => .v .pot
end
section
variable {K : PySem.W.Frag} {es es' : List Sl} {te ta tb tc : TE} {tt tu : TT} {t u : TS} {p : Pst} {α β γ δ σ ρ : Type} {m : W α} {e : α → Im}
/-- what is known by Ev -/
theorem EvX.of {x : Dv} {a : α} (h : Ev K te es (· = x)) (he : e a = .v x) : EvX K te es e (.pure a) := fun B0 H0 B σ H o P hP Q q =>
  h B0 H0 B σ H o Q fun y v B2 H2 ey st d => q a v B2 H2 hP st (by rw [he]; subst ey; exact d)
theorem EvX.ev {f : α → Dv} (h : EvX K te es (fun a => .v (f a)) m) {P : α → Prop} (hP : m.wp P) : Ev K te es (fun x => ∃ a, x = f a ∧ P a) := fun B0 H0 B σ H o Q q =>
  h B0 H0 B σ H o P hP Q fun a v B2 H2 pa st d => q _ v B2 H2 ⟨a, rfl, pa⟩ st d
theorem EvX.evL {f : α → List PyData} (h : EvX K te es (fun a => .l (f a)) m) {P : α → Prop} (hP : m.wp P) : EvL K te es (fun x => ∃ a, x = f a ∧ P a) := fun B0 H0 B σ H o Q q =>
  h B0 H0 B σ H o P hP Q fun a v B2 H2 pa st ⟨r, ws, ev, h0, hb, hp, ha⟩ => by
    subst ev
    exact q _ r ws B2 H2 ⟨a, rfl, pa⟩ st h0 hb hp ha
theorem EvX.ofL {xs : List PyData} {a : α} (h : EvL K te es (· = xs)) (he : e a = .l xs) : EvX K te es e (.pure a) := fun B0 H0 B σ H o P hP Q q =>
  h B0 H0 B σ H o Q fun y r ws B2 H2 ey st h0 hb hp ha => q a _ B2 H2 hP st (by rw [he]; subst ey; exact ⟨r, ws, rfl, h0, hb, hp, ha⟩)
/-- a new list as data -/
theorem x_close {f : β → PyData} {m : W (List β)} (h : EvX K te es (eN f) m) : EvX K te es (eV (eL f)) m := fun B0 H0 B σ H o P hP Q q =>
  h B0 H0 B σ H o P hP Q fun xs v B2 H2 px st ⟨r, ws, ev, h0, hb, hp, ha⟩ => by
    subst ev
    exact q xs (.ref r) (upd B2 r (.lst ws)) H2 px (st.shut h0 hb hp) (Dp.lst (SqL.of upd_same) (dpAllMono (same_upd hb) ha))
theorem x_closeO {f : β → PyData} {m : W (Option (List β))} (h : EvX K te es (eNO f) m) : EvX K te es (eV (eO (eL f))) m := fun B0 H0 B σ H o P hP Q q =>
  h B0 H0 B σ H o P hP Q fun xs v B2 H2 px st d => by
    cases xs with
    | none => exact q none v B2 H2 px st d
    | some xs =>
      obtain ⟨r, ws, ev, h0, hb, hp, ha⟩ := d
      subst ev
      exact q (some xs) (.ref r) (upd B2 r (.lst ws)) H2 px (st.shut h0 hb hp) (Dp.lst (SqL.of upd_same) (dpAllMono (same_upd hb) ha))
/-- another form of the same value -/
theorem x_coe {f : β → Im} (c : α → β) (hc : ∀ a, e a = f (c a)) (h : EvX K te es e m) : EvX K te es f (.bind m fun a => .pure (c a)) := fun B0 H0 B σ H o P hP Q q =>
  h B0 H0 B σ H o _ hP Q fun a v B2 H2 pa st d => q (c a) v B2 H2 pa st (by rw [← hc]; exact d)
/-! names, constants -/
theorem x_var {x : α} {e : α → PyData} (i : Nat) (h : es[i]? = some (.im (.d (e x)))) : EvX K (tVar i) es (eV e) (.pure x) := .of (ev_var h) rfl
theorem x_pot (i : Nat) (h : es[i]? = some (.im .pot)) : EvX K (tVar i) es ePot (.pure ()) := .of (ev_var h) rfl
theorem x_int {n : Int} : EvX K (tC (.int n)) es (eV eI) (.pure n) := .of ev_int rfl
theorem x_bl {b : Bool} : EvX K (tC (.bl b)) es (eV eB) (.pure b) := .of ev_bl rfl
theorem x_str {w : Str} : EvX K (tC (.str w)) es (eV (eW w)) (.pure ()) := .of ev_str rfl
theorem x_strS {w : Str} : EvX K (tC (.str w)) es (eV eS) (.pure w) := .of ev_str rfl
theorem x_non : EvX K (tC .non) es (eV eU) (.pure ()) := .of ev_non rfl
theorem x_nonO {e : α → PyData} : EvX K (tC .non) es (eV (eO e)) (.pure none) := .of ev_non rfl
/-! operations -/
theorem x_op {r : R2} {ea : α → PyData} {eb : β → PyData} {e : γ → Im} {ma : W α} {mb : W β} {g : α → β → W γ} (ha : EvX K ta es (eV ea) ma) (hb : EvX K tb es (eV eb) mb) (hr : ∀ a b, RvX K r (.d (ea a)) (.d (eb b)) e (g a b)) :
    EvX K (tOp r ta tb) es e (.bind ma fun a => .bind mb fun b => g a b) := fun B0 H0 B σ H o P hP Q q =>
  ha B0 H0 B σ H o _ hP _ fun a v B1 H1 pa s1 d1 => hb B0 H0 B1 σ H1 (o.mono s1) _ pa _ fun b w B2 H2 pb s2 d2 =>
    hr a b B2 H2 v w s2.bh (DV.mono s2.bb s2.hh d1) d2 P pb Q fun c u B3 H3 pc s3 d3 => q c u B3 H3 pc (s1.trans (s2.trans s3)) (d3.old (s1.hh.trans s2.hh))
theorem RvX.of {r : R2} {x y z : Dv} {e : γ → Im} {c : γ} (h : Rv K r x y (· = z)) (he : e c = .v z) : RvX K r x y e (.pure c) := fun B H v w sb a b P hP Q q =>
  h B H v w sb a b Q fun z' u B2 H2 ez st d => q c u B2 H2 hP st (by rw [he]; subst ez; exact d)
theorem RvX.chk {r : R2} {x y z : Dv} {e : γ → Im} {c : γ} {C : Prop} (h : C → Rv K r x y (· = z)) (he : e c = .v z) : RvX K r x y e (.chk C c) := fun B H v w sb a b P hP Q q =>
  h hP.1 B H v w sb a b Q fun z' u B2 H2 ez st d => q c u B2 H2 hP.2 st (by rw [he]; subst ez; exact d)
theorem RvX.ofL {r : R2} {x y : Dv} {e : γ → Im} {c : γ} {xs : List PyData} (h : RvL K r x y (· = xs)) (he : e c = .l xs) : RvX K r x y e (.pure c) := fun B H v w sb a b P hP Q q =>
  h B H v w sb a b Q fun ys r ws B2 H2 ey st h0 hb hp ha => q c _ B2 H2 hP st (by rw [he]; subst ey; exact ⟨r, ws, rfl, h0, hb, hp, ha⟩)
theorem RvX.chkL {r : R2} {x y : Dv} {e : γ → Im} {c : γ} {xs : List PyData} {C : Prop} (h : C → RvL K r x y (· = xs)) (he : e c = .l xs) : RvX K r x y e (.chk C c) := fun B H v w sb a b P hP Q q =>
  h hP.1 B H v w sb a b Q fun ys r ws B2 H2 ey st h0 hb hp ha => q c _ B2 H2 hP.2 st (by rw [he]; subst ey; exact ⟨r, ws, rfl, h0, hb, hp, ha⟩)
def w_add (a b : Int) : W Int := .pure (a + b)
theorem r_add (a b : Int) : RvX K (rAddG K) (.d (eI a)) (.d (eI b)) (eV eI) (.pure (a + b)) := .of rv_add rfl
theorem r_sub (a b : Int) : RvX K rSubI (.d (eI a)) (.d (eI b)) (eV eI) (.pure (a - b)) := .of rv_sub rfl
theorem r_mul (a b : Int) : RvX K (rMulG K) (.d (eI a)) (.d (eI b)) (eV eI) (.chk (CMul a b) (a * b)) := .chk (fun h => rv_mul h) rfl
theorem r_mod (a b : Int) : RvX K rModI (.d (eI a)) (.d (eI b)) (eV eI) (.chk (0 < b) (a % b)) := .chk (fun h => rv_mod h) rfl
theorem r_div (a b : Int) : RvX K rDivI (.d (eI a)) (.d (eI b)) (eV eI) (.chk (0 < b ∧ b < 1073741824) (a / b)) := .chk (fun h => rv_div h.1 h.2) rfl
theorem r_pow (a b : Int) : RvX K rPowI (.d (eI a)) (.d (eI b)) (eV eI) (.chk (CPow a b) (a ^ b.toNat)) := .chk (fun h => rv_pow h) rfl
theorem r_lt (a b : Int) : RvX K rLtI (.d (eI a)) (.d (eI b)) (eV eB) (.pure (decide (a < b))) := .of rv_lt rfl
theorem r_le (a b : Int) : RvX K rLeI (.d (eI a)) (.d (eI b)) (eV eB) (.pure (decide (a ≤ b))) := .of rv_le rfl
theorem r_gt (a b : Int) : RvX K rGtI (.d (eI a)) (.d (eI b)) (eV eB) (.pure (decide (b < a))) := .of rv_gt rfl
theorem r_ge (a b : Int) : RvX K rGeI (.d (eI a)) (.d (eI b)) (eV eB) (.pure (decide (b ≤ a))) := .of rv_ge rfl
/-! equality -/
/-- values of the kind: plain, not deep, equal just where the data are -/
structure EqK (e : α → PyData) [DecidableEq α] : Prop where
  pl : ∀ a, (e a).plain = true
  eq : ∀ a b, PyData.eqv (e a) (e b) = decide (a = b)
structure DpK (e : α → PyData) (n : Nat) : Prop where
  dp : ∀ a, (e a).depth ≤ n
theorem dk_int : DpK eI 0 := ⟨fun a => by simp [PyData.depth]⟩
theorem dk_bool : DpK eB 0 := ⟨fun a => by simp [PyData.depth]⟩
theorem dk_str : DpK eS 0 := ⟨fun a => by simp [PyData.depth]⟩
theorem dk_word {w : Str} : DpK (eW w) 0 := ⟨fun a => by simp [PyData.depth]⟩
theorem dk_none : DpK eU 0 := ⟨fun a => by simp [PyData.depth]⟩
theorem depthAll_map {e : α → PyData} {n : Nat} (h : DpK e n) : ∀ xs : List α, PyData.depthAll (xs.map e) ≤ n
  | [] => by simp [PyData.depthAll]
  | x :: xs => by
    have := depthAll_map h xs
    have := h.dp x
    simp only [List.map_cons, PyData.depthAll]
    omega
theorem dk_L {e : α → PyData} {n : Nat} (h : DpK e n) : DpK (eL e) (n + 1) := ⟨fun a => by simp only [PyData.depth]; have := depthAll_map h a; omega⟩
theorem dk_T {e : α → PyData} {n : Nat} (h : DpK e n) : DpK (eT e) (n + 1) := ⟨fun a => by simp only [PyData.depth]; have := depthAll_map h a; omega⟩
theorem dk_P0 : DpK eP0 1 := ⟨fun a => by simp [PyData.depth, PyData.depthAll]⟩
theorem dk_P1 {e : α → PyData} {n : Nat} (h : DpK e n) : DpK (eP1 e) (n + 1) := ⟨fun a => by simp only [PyData.depth, PyData.depthAll]; have := h.dp a; omega⟩
theorem dk_P2 {e : α → PyData} {f : β → PyData} {n k : Nat} (h : DpK e n) (h2 : DpK f k) : DpK (eP2 e f) (max n k + 1) := ⟨fun a => by simp only [PyData.depth, PyData.depthAll]; have := h.dp a.1; have := h2.dp a.2; omega⟩
theorem dk_P3 {e : α → PyData} {f : β → PyData} {g : γ → PyData} {n k l : Nat} (h : DpK e n) (h2 : DpK f k) (h3 : DpK g l) : DpK (eP3 e f g) (max n (max k l) + 1) := ⟨fun a => by simp only [PyData.depth, PyData.depthAll]; have := h.dp a.1; have := h2.dp a.2.1; have := h3.dp a.2.2; omega⟩
theorem dk_P4 {e : α → PyData} {f : β → PyData} {g : γ → PyData} {d : δ → PyData} {n k l r : Nat} (h : DpK e n) (h2 : DpK f k) (h3 : DpK g l) (h4 : DpK d r) : DpK (eP4 e f g d) (max n (max k (max l r)) + 1) := ⟨fun a => by simp only [PyData.depth, PyData.depthAll]; have := h.dp a.1; have := h2.dp a.2.1; have := h3.dp a.2.2.1; have := h4.dp a.2.2.2; omega⟩
theorem dk_O {e : α → PyData} {n : Nat} (h : DpK e n) : DpK (eO e) n := ⟨fun a => by cases a with | none => simp [eO, PyData.depth] | some a => exact h.dp a⟩
theorem ek_int : EqK eI := ⟨fun a => by simp [PyData.plain], eqv_int⟩
theorem ek_bool : EqK eB := ⟨fun a => by simp [PyData.plain], eqv_bool⟩
theorem ek_str : EqK eS := ⟨fun a => by simp [PyData.plain], fun a b => by simp [PyData.eqv, Bool.beq_eq_decide_eq]⟩
theorem ek_word {w : Str} : EqK (eW w) := ⟨fun a => by simp [PyData.plain], fun a b => by simp [PyData.eqv]⟩
theorem ek_none : EqK eU := ⟨fun a => by simp [PyData.plain], fun a b => by simp [PyData.eqv]⟩
theorem plainAll_map [DecidableEq α] {e : α → PyData} (h : EqK e) : ∀ xs : List α, PyData.plainAll (xs.map e) = true
  | [] => by simp [PyData.plainAll]
  | x :: xs => by simp [PyData.plainAll, h.pl x, plainAll_map h xs]
theorem eqvAll_map [DecidableEq α] {e : α → PyData} (h : EqK e) : ∀ xs ys : List α, PyData.eqvAll (xs.map e) (ys.map e) = decide (xs = ys)
  | [], [] => by simp [PyData.eqvAll]
  | [], _ :: _ => by simp [PyData.eqvAll]
  | _ :: _, [] => by simp [PyData.eqvAll]
  | x :: xs, y :: ys => by simp [PyData.eqvAll, h.eq x y, eqvAll_map h xs ys]
theorem ek_L [DecidableEq α] {e : α → PyData} (h : EqK e) : EqK (eL e) := ⟨fun a => by simp [PyData.plain, plainAll_map h], fun a b => by simp only [PyData.eqv, eqvAll_map h]⟩
theorem ek_T [DecidableEq α] {e : α → PyData} (h : EqK e) : EqK (eT e) := ⟨fun a => by simp [PyData.plain, plainAll_map h], fun a b => by simp only [PyData.eqv, eqvAll_map h]⟩
theorem ek_P0 : EqK eP0 := ⟨fun a => by simp [PyData.plain, PyData.plainAll], fun a b => by simp [PyData.eqv, PyData.eqvAll]⟩
theorem ek_P1 [DecidableEq α] {e : α → PyData} (h : EqK e) : EqK (eP1 e) := ⟨fun a => by simp [PyData.plain, PyData.plainAll, h.pl], fun a b => by simp [PyData.eqv, PyData.eqvAll, h.eq]⟩
theorem ek_P2 [DecidableEq α] [DecidableEq β] {e : α → PyData} {f : β → PyData} (h : EqK e) (h2 : EqK f) : EqK (eP2 e f) := ⟨fun a => by simp [PyData.plain, PyData.plainAll, h.pl, h2.pl], fun a b => by
  simp only [PyData.eqv, PyData.eqvAll, h.eq, h2.eq, Bool.and_true, ← Bool.decide_and]
  exact decide_eq_decide.mpr ⟨fun q => Prod.ext q.1 q.2, fun q => by subst q; exact ⟨rfl, rfl⟩⟩⟩
theorem ek_P3 [DecidableEq α] [DecidableEq β] [DecidableEq γ] {e : α → PyData} {f : β → PyData} {g : γ → PyData} (h : EqK e) (h2 : EqK f) (h3 : EqK g) : EqK (eP3 e f g) := ⟨fun a => by simp [PyData.plain, PyData.plainAll, h.pl, h2.pl, h3.pl], fun a b => by
  simp only [PyData.eqv, PyData.eqvAll, h.eq, h2.eq, h3.eq, Bool.and_true, ← Bool.decide_and]
  exact decide_eq_decide.mpr ⟨fun q => Prod.ext q.1 (Prod.ext q.2.1 q.2.2), fun q => by subst q; exact ⟨rfl, rfl, rfl⟩⟩⟩
theorem ek_P4 [DecidableEq α] [DecidableEq β] [DecidableEq γ] [DecidableEq δ] {e : α → PyData} {f : β → PyData} {g : γ → PyData} {d : δ → PyData} (h : EqK e) (h2 : EqK f) (h3 : EqK g) (h4 : EqK d) : EqK (eP4 e f g d) := ⟨fun a => by simp [PyData.plain, PyData.plainAll, h.pl, h2.pl, h3.pl, h4.pl], fun a b => by
  simp only [PyData.eqv, PyData.eqvAll, h.eq, h2.eq, h3.eq, h4.eq, Bool.and_true, ← Bool.decide_and]
  exact decide_eq_decide.mpr ⟨fun q => Prod.ext q.1 (Prod.ext q.2.1 (Prod.ext q.2.2.1 q.2.2.2)), fun q => by subst q; exact ⟨rfl, rfl, rfl, rfl⟩⟩⟩
/-- never None -/
def NoN (e : α → PyData) : Prop := ∀ a, PyData.eqv (e a) .none = false ∧ PyData.eqv .none (e a) = false
theorem ek_O [DecidableEq α] {e : α → PyData} (h : EqK e) (n : NoN e) : EqK (eO e) := ⟨fun a => by cases a with | none => simp [eO, PyData.plain] | some a => exact h.pl a, fun a b => by
  cases a with
  | none => cases b with
    | none => simp [eO, PyData.eqv]
    | some b => simp [eO, (n b).2]
  | some a => cases b with
    | none => simp [eO, (n a).1]
    | some b => simp [eO, h.eq]⟩
theorem nn_int : NoN eI := fun a => by simp [PyData.eqv]
theorem nn_bool : NoN eB := fun a => by simp [PyData.eqv]
theorem nn_str : NoN eS := fun a => by simp [PyData.eqv]
theorem nn_L {e : α → PyData} : NoN (eL e) := fun a => by simp [PyData.eqv]
theorem nn_T {e : α → PyData} : NoN (eT e) := fun a => by simp [PyData.eqv]
theorem nn_P0 : NoN eP0 := fun a => by simp [PyData.eqv]
theorem nn_P1 {e : α → PyData} : NoN (eP1 e) := fun a => by simp [PyData.eqv]
theorem nn_P2 {e : α → PyData} {f : β → PyData} : NoN (eP2 e f) := fun a => by simp [PyData.eqv]
theorem nn_P3 {e : α → PyData} {f : β → PyData} {g : γ → PyData} : NoN (eP3 e f g) := fun a => by simp [PyData.eqv]
theorem nn_P4 {e : α → PyData} {f : β → PyData} {g : γ → PyData} {d : δ → PyData} : NoN (eP4 e f g d) := fun a => by simp [PyData.eqv]
theorem flatK [DecidableEq α] {e : α → PyData} {n : Nat} (h : EqK e) (d : DpK e n) (hn : n ≤ 60) (a : α) : Flat (e a) := ⟨h.pl a, by have := d.dp a; omega⟩
theorem r_eq [DecidableEq α] {e : α → PyData} {n : Nat} (h : EqK e) (d : DpK e n) (hn : n ≤ 60) (a b : α) : RvX K (rEqP K) (.d (e a)) (.d (e b)) (eV eB) (.pure (decide (a = b))) :=
  .of (rv_eq (.inl rfl) (.inl rfl) (flatK h d hn a) (flatK h d hn b)) (by rw [h.eq])
theorem r_ne [DecidableEq α] {e : α → PyData} {n : Nat} (h : EqK e) (d : DpK e n) (hn : n ≤ 60) (a b : α) : RvX K (rNeP K) (.d (e a)) (.d (e b)) (eV eB) (.pure (!decide (a = b))) :=
  .of (rv_ne (.inl rfl) (.inl rfl) (flatK h d hn a) (flatK h d hn b)) (by rw [h.eq])
theorem any_map [DecidableEq α] {e : α → PyData} (h : EqK e) (xs : List α) (a : α) : ((xs.map e).any fun y => PyData.eqv y (e a)) = decide (a ∈ xs) := by
  induction xs with
  | nil => simp
  | cons x xs ih =>
    rw [List.map_cons, List.any_cons, ih, h.eq]
    by_cases q : x = a
    · subst q; simp
    · have q' : ¬ a = x := fun z => q z.symm
      simp [q, q']
theorem r_inL [DecidableEq α] {e : α → PyData} {n : Nat} (h : EqK e) (d : DpK e n) (hn : n ≤ 50) (a : α) (xs : List α) : RvX K (rInP K) (.d (e a)) (.d (eL e xs)) (eV eB) (.pure (W.mem a xs)) :=
  .of (rv_in (.inl rfl) (.inl rfl) (.inl rfl) (flatK h d (by omega) a) (flatK (ek_L h) (dk_L d) (by omega) xs)) (by rw [any_map h, W.mem])
theorem r_inT [DecidableEq α] {e : α → PyData} {n : Nat} (h : EqK e) (d : DpK e n) (hn : n ≤ 50) (a : α) (xs : List α) : RvX K (rInP K) (.d (e a)) (.d (eT e xs)) (eV eB) (.pure (W.mem a xs)) :=
  .of (rv_in (.inl rfl) (.inl rfl) (.inr rfl) (flatK h d (by omega) a) (flatK (ek_T h) (dk_T d) (by omega) xs)) (by rw [any_map h, W.mem])
theorem r_ninL [DecidableEq α] {e : α → PyData} {n : Nat} (h : EqK e) (d : DpK e n) (hn : n ≤ 50) (a : α) (xs : List α) : RvX K (rNotInP K) (.d (e a)) (.d (eL e xs)) (eV eB) (.pure (!W.mem a xs)) :=
  .of (rv_notin (.inl rfl) (.inl rfl) (.inl rfl) (flatK h d (by omega) a) (flatK (ek_L h) (dk_L d) (by omega) xs)) (by rw [any_map h, W.mem])
theorem r_ninT [DecidableEq α] {e : α → PyData} {n : Nat} (h : EqK e) (d : DpK e n) (hn : n ≤ 50) (a : α) (xs : List α) : RvX K (rNotInP K) (.d (e a)) (.d (eT e xs)) (eV eB) (.pure (!W.mem a xs)) :=
  .of (rv_notin (.inl rfl) (.inl rfl) (.inr rfl) (flatK h d (by omega) a) (flatK (ek_T h) (dk_T d) (by omega) xs)) (by rw [any_map h, W.mem])
/-! is None -/
theorem isNon_O {e : α → PyData} (n : NoN e) (a : Option α) : isNon (eO e a) = a.isNone := by
  cases a with
  | none => rfl
  | some a =>
    have h := (n a).1
    show isNon (e a) = false
    cases q : e a <;> simp_all [isNon, PyData.eqv]
theorem r_isN {e : α → PyData} (n : NoN e) (a : Option α) (b : Unit) : RvX K rIsG (.d (eO e a)) (.d (eU b)) (eV eB) (.pure a.isNone) := .of rv_isNon (by rw [isNon_O n])
theorem rv_notNon {d : PyData} : Rv K rIsNotG (.d d) (.d .none) (· = .d (.bool (!isNon d))) := Rv.rgt fun B H v w e a b Q q => by
  cases b
  refine ⟨rfl, ?_⟩
  have := dp_non a
  rw [this]
  exact q _ _ B H rfl (Stp.refl e) (.bl _)
theorem r_notN {e : α → PyData} (n : NoN e) (a : Option α) (b : Unit) : RvX K rIsNotG (.d (eO e a)) (.d (eU b)) (eV eB) (.pure a.isSome) := .of rv_notNon (by rw [isNon_O n]; cases a <;> rfl)
theorem r_isB (a b : Bool) : RvX K rIsG (.d (eB a)) (.d (eB b)) (eV eB) (.pure (decide (a = b))) := .of rv_isB rfl
theorem rv_notB {a b : Bool} : Rv K rIsNotG (.d (.bool a)) (.d (.bool b)) (· = .d (.bool (!decide (a = b)))) := fun B H v w e h1 h2 Q q => by
  cases h1; cases h2
  exact .inl ⟨a, b, rfl, rfl, q _ _ B H rfl (Stp.refl e) (.bl _)⟩
theorem r_notB (a b : Bool) : RvX K rIsNotG (.d (eB a)) (.d (eB b)) (eV eB) (.pure (!decide (a = b))) := .of rv_notB rfl
/-! places -/
theorem atI_map {e : α → PyData} {xs : List α} {i : Int} {a : α} (h : atI xs i = some a) : atI (xs.map e) i = some (e a) := by
  unfold atI at h ⊢
  rw [List.length_map]
  obtain ⟨j, hj, hx⟩ := Option.bind_eq_some_iff.mp h
  rw [hj]
  show (xs.map e)[j]? = _
  rw [List.getElem?_map, hx]
  rfl
theorem RvX.get {r : R2} {x y : Dv} {e : γ → PyData} {o : Option γ} (h : ∀ c, o = some c → Rv K r x y (· = .d (e c))) : RvX K r x y (eV e) (.get o) := fun B H v w sb a b P ⟨c, ec, hP⟩ Q q =>
  h c ec B H v w sb a b Q fun z' u B2 H2 ez st d => q c u B2 H2 hP st (by subst ez; exact d)
theorem r_ixL {e : α → PyData} (xs : List α) (i : Int) : RvX K (rIx K) (.d (eL e xs)) (.d (eI i)) (eV e) (.at' xs i) := .get fun c h => rv_ixL (atI_map h)
theorem r_ixT {e : α → PyData} (xs : List α) (i : Int) : RvX K (rIx K) (.d (eT e xs)) (.d (eI i)) (eV e) (.at' xs i) := .get fun c h => rv_ixT (atI_map h)
/-- a part of a fixed tuple -/
theorem x_proj {e : α → PyData} {f : β → PyData} (k : Int) (c : α → β) (hk : ∀ a, ∃ xs, e a = .tuple xs ∧ atI xs k = some (f (c a))) (h : EvX K ta es (eV e) m) : EvX K (tOp (rIx K) ta (tC (.int k))) es (eV f) (.bind m fun a => .pure (c a)) := fun B0 H0 B σ H o P hP Q q =>
  h B0 H0 B σ H o _ hP _ fun a v B1 H1 pa s1 d1 => by
    obtain ⟨xs, ex, hx⟩ := hk a
    have d1 : DV K B1 H1 (.d (e a)) v := d1
    rw [ex] at d1
    exact rv_ixT hx B1 H1 v _ s1.bh d1 (.int k) Q fun z u B2 H2 ez s2 d2 => q (c a) u B2 H2 pa (s1.trans s2) (by subst ez; exact d2)
/-! + and * of lists and tuples -/
theorem r_catL {e : α → PyData} (xs ys : List α) : RvX K (rAddG K) (.d (eL e xs)) (.d (eL e ys)) (eN e) (.chk (xs.length + ys.length ≤ 1000000) (xs ++ ys)) := .chkL (fun h => rvl_cat (by simpa using h)) (by simp)
theorem r_catT {e : α → PyData} (xs ys : List α) : RvX K (rAddG K) (.d (eT e xs)) (.d (eT e ys)) (eV (eT e)) (.chk (xs.length + ys.length ≤ 1000000) (xs ++ ys)) := .chk (fun h => rv_catT (by simpa using h)) (by simp)
end
end HM
end
section
/-! W 2: calls of built-in names, displays, tests, walks, comprehensions, calls of defs -/
namespace HM
open PySem PySem.Spec PyProof.Rows L2 RZ
namespace W
variable {α β γ σ ρ : Type}
def app (xs : List α) (v : α) : W (List α) := chk (xs.length < 8000000) (xs ++ [v])
def ext (xs ys : List α) : W (List α) := chk (xs.length < 8000000 ∧ ys.length < 8000000) (xs ++ ys)
def compC (xs : List α) (c : α → W Bool) (f : α → W β) : W (List β) := bind (chk (xs.length ≤ 8000000) ()) fun _ => comp xs c f
def sortBy (lt : α → α → Bool) (xs : List α) : List α := xs.mergeSort fun a b => !lt b a
def ltI (a b : Int) : Bool := decide (a < b)
def ltP [DecidableEq α] (l : α → α → Bool) (k : β → β → Bool) (a b : α × β) : Bool := if a.1 = b.1 then k a.2 b.2 else l a.1 b.1
def ltP0 (a b : Unit) : Bool := false
def ltL [DecidableEq α] (l : α → α → Bool) : List α → List α → Bool
  | [], [] => false
  | [], _ :: _ => true
  | _ :: _, [] => false
  | a :: as, b :: bs => if a = b then ltL l as bs else l a b
/-- the part of a list from lo to hi -/
def cut (xs : List α) (lo hi : Option Int) : List α := (xs.drop (HT.sIx xs.length 0 lo)).take (HT.sIx xs.length xs.length hi - HT.sIx xs.length 0 lo)
end W
section
variable {K : PySem.W.Frag} {es es' : List Sl} {te ta tb tc : TE} {tt tu : TT} {t u : TS} {p : Pst} {α β γ δ σ ρ : Type} {m : W α} {e : α → Im}
/-! ### calls of built-in names -/
theorem x_cb1 {r : List V → Hp → VK → Prop} {ea : α → PyData} {e : γ → Im} {g : α → W γ} (h : EvX K te es (eV ea) m) (hr : ∀ a, RcX K r [.d (ea a)] e (g a)) : EvX K (tCB r (tCons te tNil)) es e (.bind m g) := fun B0 H0 B σ H o P hP Q q =>
  h B0 H0 B σ H o _ hP _ fun a v B1 H1 pa s1 d1 => hr a B1 H1 [v] s1.bh (.cons d1 .nil) P pa Q fun c u B2 H2 pc s2 d2 => q c u B2 H2 pc (s1.trans s2) (d2.old s1.hh)
theorem x_cb2 {r : List V → Hp → VK → Prop} {ea : α → PyData} {eb : β → PyData} {mb : W β} {e : γ → Im} {g : α → β → W γ} (h : EvX K ta es (eV ea) m) (h2 : EvX K tb es (eV eb) mb) (hr : ∀ a b, RcX K r [.d (ea a), .d (eb b)] e (g a b)) :
    EvX K (tCB r (tCons ta (tCons tb tNil))) es e (.bind m fun a => .bind mb fun b => g a b) := fun B0 H0 B σ H o P hP Q q =>
  h B0 H0 B σ H o _ hP _ fun a v B1 H1 pa s1 d1 => h2 B0 H0 B1 σ H1 (o.mono s1) _ pa _ fun b w B2 H2 pb s2 d2 =>
    hr a b B2 H2 [v, w] s2.bh (.cons (DV.mono s2.bb s2.hh d1) (.cons d2 .nil)) P pb Q fun c u B3 H3 pc s3 d3 => q c u B3 H3 pc (s1.trans (s2.trans s3)) (d3.old (s1.hh.trans s2.hh))
theorem RcX.of {r : List V → Hp → VK → Prop} {xs : List Dv} {z : Dv} {e : γ → Im} {c : γ} (h : Rc K r xs (· = z)) (he : e c = .v z) : RcX K r xs e (.pure c) := fun B H vs sb a P hP Q q =>
  h B H vs sb a Q fun z' u B2 H2 ez st d => q c u B2 H2 hP st (by rw [he]; subst ez; exact d)
theorem RcX.chk {r : List V → Hp → VK → Prop} {xs : List Dv} {z : Dv} {e : γ → Im} {c : γ} {C : Prop} (h : C → Rc K r xs (· = z)) (he : e c = .v z) : RcX K r xs e (.chk C c) := fun B H vs sb a P hP Q q =>
  h hP.1 B H vs sb a Q fun z' u B2 H2 ez st d => q c u B2 H2 hP.2 st (by rw [he]; subst ez; exact d)
theorem RcX.ofL {r : List V → Hp → VK → Prop} {xs : List Dv} {zs : List PyData} {e : γ → Im} {c : γ} (h : RcL K r xs (· = zs)) (he : e c = .l zs) : RcX K r xs e (.pure c) := fun B H vs sb a P hP Q q =>
  h B H vs sb a Q fun ys r ws B2 H2 ey st h0 hb hp ha => q c _ B2 H2 hP st (by rw [he]; subst ey; exact ⟨r, ws, rfl, h0, hb, hp, ha⟩)
theorem RcX.chkL {r : List V → Hp → VK → Prop} {xs : List Dv} {zs : List PyData} {e : γ → Im} {c : γ} {C : Prop} (h : C → RcL K r xs (· = zs)) (he : e c = .l zs) : RcX K r xs e (.chk C c) := fun B H vs sb a P hP Q q =>
  h hP.1 B H vs sb a Q fun ys r ws B2 H2 ey st h0 hb hp ha => q c _ B2 H2 hP.2 st (by rw [he]; subst ey; exact ⟨r, ws, rfl, h0, hb, hp, ha⟩)
theorem c_lenL {e : α → PyData} (xs : List α) : RcX K (rLenS K) [.d (eL e xs)] (eV eI) (.pure (xs.length : Int)) := .of (rc_len (.inl rfl) (.inl rfl)) (by simp)
theorem c_lenT {e : α → PyData} (xs : List α) : RcX K (rLenS K) [.d (eT e xs)] (eV eI) (.pure (xs.length : Int)) := .of (rc_len (.inl rfl) (.inr rfl)) (by simp)
/-- of a fixed tuple -/
theorem c_lenP {e : α → PyData} (a : α) (n : Nat) {xs : List PyData} (h : e a = .tuple xs) (hn : xs.length = n) : RcX K (rLenS K) [.d (e a)] (eV eI) (.pure (n : Int)) := .of (rc_len (.inl rfl) (.inr h)) (by simp [hn])
theorem c_sumL (xs : List Int) : RcX K (rSumD K) [.d (eL eI xs)] (eV eI) (.pure xs.sum) := .of (rc_sum (.inl (.inl rfl))) rfl
theorem c_sumT (xs : List Int) : RcX K (rSumD K) [.d (eT eI xs)] (eV eI) (.pure xs.sum) := .of (rc_sum (.inr (.inl rfl))) rfl
theorem c_maxD {x : Dv} (xs : List Int) (h : IsD x xs) : RcX K (rMaxG K) [x] (eV eI) (.maxL xs) := by
  cases xs with
  | nil => exact fun B H vs sb a P hP => hP.elim
  | cons n ns => exact .of (rc_max h) rfl
theorem c_minD {x : Dv} (xs : List Int) (h : IsD x xs) : RcX K (rMinG K) [x] (eV eI) (.minL xs) := by
  cases xs with
  | nil => exact fun B H vs sb a P hP => hP.elim
  | cons n ns => exact .of (rc_min h) rfl
theorem c_maxL (xs : List Int) : RcX K (rMaxG K) [.d (eL eI xs)] (eV eI) (.maxL xs) := c_maxD xs (.inl (.inl rfl))
theorem c_maxT (xs : List Int) : RcX K (rMaxG K) [.d (eT eI xs)] (eV eI) (.maxL xs) := c_maxD xs (.inr (.inl rfl))
theorem c_minL (xs : List Int) : RcX K (rMinG K) [.d (eL eI xs)] (eV eI) (.minL xs) := c_minD xs (.inl (.inl rfl))
theorem c_minT (xs : List Int) : RcX K (rMinG K) [.d (eT eI xs)] (eV eI) (.minL xs) := c_minD xs (.inr (.inl rfl))
theorem c_max2 (a b : Int) : RcX K (rMaxG K) [.d (eI a), .d (eI b)] (eV eI) (.pure (max a b)) := .of rc_max2 rfl
theorem c_min2 (a b : Int) : RcX K (rMinG K) [.d (eI a), .d (eI b)] (eV eI) (.pure (min a b)) := .of rc_min2 rfl
theorem c_all (bs : List Bool) : RcX K (rAll K) [.d (eL eB bs)] (eV eB) (.pure (bs.all id)) := .of (rc_all (.inl rfl)) rfl
theorem c_any (bs : List Bool) : RcX K (rAny K) [.d (eL eB bs)] (eV eB) (.pure (bs.any id)) := .of (rc_any (.inl rfl)) rfl
theorem c_abs (a : Int) : RcX K rAbs [.d (eI a)] (eV eI) (.pure (a.natAbs : Int)) := .of rc_abs rfl
theorem c_int (a : Int) : RcX K rInt1 [.d (eI a)] (eV eI) (.pure a) := .of rc_int rfl
theorem c_intB (a : Bool) : RcX K rInt1 [.d (eB a)] (eV eI) (.pure (if a then 1 else 0)) := .of rc_intB rfl
theorem c_tupL {e : α → PyData} (xs : List α) : RcX K (rTupOf K) [.d (eL e xs)] (eV (eT e)) (.pure xs) := .of rc_tupL rfl
theorem c_tupT {e : α → PyData} (xs : List α) : RcX K (rTupOf K) [.d (eT e xs)] (eV (eT e)) (.pure xs) := .of rc_tupT rfl
theorem c_lstL {e : α → PyData} (xs : List α) : RcX K (rLstOf K) [.d (eL e xs)] (eN e) (.pure xs) := .ofL (rcl_lst (.inl rfl)) rfl
theorem c_lstT {e : α → PyData} (xs : List α) : RcX K (rLstOf K) [.d (eT e xs)] (eN e) (.pure xs) := .ofL (rcl_lst (.inr rfl)) rfl
theorem c_divmod (a b : Int) : RcX K rDivmod [.d (eI a), .d (eI b)] (eV (eP2 eI eI)) (.chk (0 < b ∧ b < 1073741824) (a / b, a % b)) := .chk (fun h => rc_divmod h.1 h.2) rfl
theorem sortI_uniq {ms ns : List Int} (p : ms.Perm ns) (o : ms.Pairwise (· ≤ ·)) : ms = W.sortL ns := by
  refine List.Perm.eq_of_pairwise (le := (· ≤ ·)) (fun a b _ _ h1 h2 => by omega) o ?_ (p.trans (List.mergeSort_perm _ _).symm)
  have := List.pairwise_mergeSort (le := fun a b : Int => decide (a ≤ b)) (fun a b c h1 h2 => by simp at *; omega) (fun a b => by simp; omega) ns
  exact this.imp fun h => by simpa using h
theorem c_sortI {x : Dv} (xs : List Int) (h : IsD x xs) : RcX K (rSortedG K) [x] (eN eI) (.pure (W.sortL xs)) := fun B H vs sb a P hP Q q =>
  rcl_sortedI h B H vs sb a Q fun ys r ws B2 H2 ⟨ms, ey, pm, od⟩ st h0 hb hp ha => q _ _ B2 H2 hP st (by
    rw [← sortI_uniq pm od]
    subst ey
    exact ⟨r, ws, rfl, h0, hb, hp, ha⟩)
theorem c_sortL (xs : List Int) : RcX K (rSortedG K) [.d (eL eI xs)] (eN eI) (.pure (W.sortL xs)) := c_sortI xs (.inl (.inl rfl))
theorem c_sortT (xs : List Int) : RcX K (rSortedG K) [.d (eT eI xs)] (eN eI) (.pure (W.sortL xs)) := c_sortI xs (.inr (.inl rfl))
/-- kinds that are compared place by place -/
structure OrK (e : α → PyData) (lt : α → α → Bool) : Prop where
  al : ∀ a b, PySem.W.alike (e a) (e b) = true
  lt : ∀ a b, PySem.W.dataLt (e a) (e b) = lt a b
theorem ok_int : OrK eI W.ltI := ⟨fun a b => by simp [PySem.W.alike], fun a b => by simp [PySem.W.dataLt_int, W.ltI]⟩
theorem al_P2 {e : α → PyData} {f : β → PyData} {l : α → α → Bool} {k : β → β → Bool} (h : OrK e l) (h2 : OrK f k) (a b : α × β) : PySem.W.alike (eP2 e f a) (eP2 e f b) = true := by simp [PySem.W.alike, PySem.W.alikeAll, h.al, h2.al]
theorem ok_P2 [DecidableEq α] [DecidableEq β] {e : α → PyData} {f : β → PyData} {l : α → α → Bool} {k : β → β → Bool} (h : OrK e l) (h2 : OrK f k) (q : EqK e) (q2 : EqK f) (ir : ∀ b, k b b = false) : OrK (eP2 e f) (W.ltP l k) := ⟨al_P2 h h2, fun a b => by
  rw [PySem.W.dataLt_pair (h.al _ _) (h2.al _ _), q.eq, q2.eq, h.lt, h2.lt]
  unfold W.ltP
  by_cases e1 : a.1 = b.1
  · simp only [e1, decide_true, if_true]
    by_cases e2 : a.2 = b.2
    · simp [e2, ir]
    · simp [e2]
  · simp [e1]⟩
theorem lexL_map [DecidableEq α] {e : α → PyData} {l : α → α → Bool} (h : OrK e l) (q : EqK e) : ∀ xs ys : List α, PySem.W.alikeAll (xs.map e) (ys.map e) = true ∧ PyProof.Rows.lexLt itemOrd (PySem.W.keyToksAll (xs.map e)) (PySem.W.keyToksAll (ys.map e)) = W.ltL l xs ys
  | [], [] => ⟨by simp [PySem.W.alikeAll], by simp [W.ltL, PyProof.Rows.lex_irrefl]⟩
  | [], y :: ys => ⟨by simp [PySem.W.alikeAll], by
    rw [List.map_cons, PySem.W.toks_all_cons]
    simp only [List.map_nil, PySem.W.keyToksAll]
    rw [PyProof.Rows.lex_diff (O := itemOrd) (by simp)]
    simp [itemLt, W.ltL]⟩
  | x :: xs, [] => ⟨by simp [PySem.W.alikeAll], by
    rw [List.map_cons, PySem.W.toks_all_cons]
    simp only [List.map_nil, PySem.W.keyToksAll]
    rw [PyProof.Rows.lex_diff (O := itemOrd) (by simp)]
    simp [itemLt, W.ltL]⟩
  | x :: xs, y :: ys => ⟨by simp [PySem.W.alikeAll, h.al, (lexL_map h q xs ys).1], by
    rw [List.map_cons, List.map_cons, PySem.W.dataLt_cons (h.al x y), q.eq, h.lt, (lexL_map h q xs ys).2]
    rw [show W.ltL l (x :: xs) (y :: ys) = if x = y then W.ltL l xs ys else l x y by rw [W.ltL]]
    by_cases e1 : x = y
    · simp [e1]
    · simp [e1]⟩
theorem ok_T [DecidableEq α] {e : α → PyData} {l : α → α → Bool} (h : OrK e l) (q : EqK e) : OrK (eT e) (W.ltL l) := ⟨fun a b => by simp only [PySem.W.alike]; exact (lexL_map h q a b).1, fun a b => by
  have := (lexL_map h q a b).2
  rw [← this]
  simp [PySem.W.dataLt, PySem.W.keyToks]⟩
theorem ok_L [DecidableEq α] {e : α → PyData} {l : α → α → Bool} (h : OrK e l) (q : EqK e) : OrK (eL e) (W.ltL l) := ⟨fun a b => by simp only [PySem.W.alike]; exact (lexL_map h q a b).1, fun a b => by
  have := (lexL_map h q a b).2
  rw [← this]
  simp [PySem.W.dataLt, PySem.W.keyToks]⟩
theorem c_sortD {e : α → PyData} {lt : α → α → Bool} (h : OrK e lt) {n : Nat} (d : DpK e n) (hn : n ≤ 40) (xs : List α) (C : Prop) (hs : C → PySem.W.Sortable (xs.map e)) : RcX K (rSortedG K) [.d (eL e xs)] (eN e) (.chk C (W.sortBy lt xs)) :=
  .chkL (fun hc => rcl_sortedD h.al (hs hc) fun a => by have := d.dp a; omega) (by
    have : PySem.W.dataLe false e = fun a b => !lt b a := by
      rw [PySem.W.dataLe_eq]
      funext a b
      simp [h.lt]
    rw [this]
    rfl)
/-- pairs and the like: always -/
theorem c_sortP {e : α → PyData} {lt : α → α → Bool} (h : OrK e lt) {n : Nat} (d : DpK e n) (hn : n ≤ 40) (ht : ∀ b, ∃ x r, e b = .tuple (x :: r)) (xs : List α) : RcX K (rSortedG K) [.d (eL e xs)] (eN e) (.pure (W.sortBy lt xs)) := by
  have := c_sortD (K := K) h d hn xs True fun _ => .tuples ht
  rwa [W.chk_of trivial] at this
theorem sortableT {e : α → PyData} {xs : List (List α)} (h : ∀ x ∈ xs, x ≠ []) : PySem.W.Sortable (xs.map (eT e)) := .inl fun d hd => by
  obtain ⟨x, hx, rfl⟩ := List.mem_map.mp hd
  cases x with
  | nil => exact absurd rfl (h _ hx)
  | cons a as => exact ⟨_, _, rfl⟩
theorem c_sortTT {e : α → PyData} {lt : List α → List α → Bool} (h : OrK (eT e) lt) {n : Nat} (d : DpK (eT e) n) (hn : n ≤ 40) (xs : List (List α)) : RcX K (rSortedG K) [.d (eL (eT e) xs)] (eN (eT e)) (.chk (∀ x ∈ xs, x ≠ []) (W.sortBy lt xs)) :=
  c_sortD h d hn xs _ sortableT
theorem c_repr {e : α → PyData} (a : α) : RcX K (rRepr K) [.d (e a)] (eV eS) (.chk (Shw (e a)) (e a).shown) := .chk (fun h => rc_repr (.inl rfl) h) rfl
theorem x_isa {e : α → PyData} {c : String} (b : α → Bool) (h : EvX K te es (eV e) m) (hb : ∀ a, isa c (e a) = some (b a)) : EvX K (tCB (rIsaD K) (tCons te (tCons (tC (.ty c)) tNil))) es (eV eB) (.bind m fun a => .pure (b a)) := fun B0 H0 B σ H o P hP Q q =>
  h B0 H0 B σ H o _ hP _ fun a v B1 H1 pa s1 d1 => rc_isa (.inl rfl) (hb a) B1 H1 _ s1.bh (.cons d1 (.cons (show _ = _ from rfl) .nil)) Q fun z u B2 H2 ez st d => q (b a) u B2 H2 pa (s1.trans st) (by subst ez; exact d)
theorem x_neg {m : W Int} (h : EvX K te es (eV eI) m) : EvX K (tUn (rU fun i => .int (-i)) te) es (eV eI) (.bind m fun a => .pure (-a)) := fun B0 H0 B σ H o P hP Q q =>
  h B0 H0 B σ H o _ hP _ fun a v B1 H1 pa s1 d1 => by
    cases d1
    exact ⟨a, rfl, q (-a) _ B1 H1 pa s1 (Dp.int _)⟩
/-! ### [..] * k -/
theorem x_repL {f : β → PyData} {m : W (List β)} {mk : W Int} (h : EvX K te es (eN f) m) (hk : EvX K tb es (eV eI) mk) : EvX K (tOp (rMulG K) te tb) es (eN f) (.bind m fun xs => .bind mk fun k => .chk (xs.length ≤ 1000 ∧ k ≤ 1000 ∧ -1000 ≤ k) (List.replicate k.toNat xs).flatten) := fun B0 H0 B σ H o P hP Q q =>
  h B0 H0 B σ H o _ hP _ fun xs v B1 H1 px s1 ⟨r, ws, ev, h0, hb1, hp, ha⟩ => hk B0 H0 B1 σ H1 (o.mono s1) _ px _ fun k w B2 H2 ⟨⟨l1, l2, l3⟩, pk⟩ s2 d2 => by
    subst ev
    cases d2
    have hp2 := s2.hh _ _ hp
    have hlen := dpAll_len ha
    rw [List.length_map] at hlen
    refine .inr (.inr ⟨r, k, ws, rfl, rfl, hp2, by omega, by omega, ?_, fun r' hr => ?_⟩)
    · have : ws.length * k.toNat ≤ 1000 * 1000 := Nat.mul_le_mul (by omega) (by omega)
      exact line_le (by omega)
    · have hB : B2 r' = none := s2.bh.free hr
      refine q _ _ B2 _ pk ((s1.trans s2).trans (Stp.open s2.bh hr)) ⟨r', _, rfl, (s1.hh.trans s2.hh).free hr, hB, upd_same, ?_⟩
      have := dpAll_rep (dpAllMono s2.bb ha) k.toNat
      rwa [show (List.replicate k.toNat (xs.map f)).flatten = (List.replicate k.toNat xs).flatten.map f by rw [List.map_flatten, List.map_replicate]] at this
theorem r_repT {e : α → PyData} (xs : List α) (k : Int) : RvX K (rMulG K) (.d (eT e xs)) (.d (eI k)) (eV (eT e)) (.chk (xs ≠ [] ∧ xs.length ≤ 1000 ∧ k ≤ 1000 ∧ -1000 ≤ k) (List.replicate k.toNat xs).flatten) :=
  .chk (fun ⟨h1, h2, h3, h4⟩ => rv_repT (by simpa using h1) (by simpa using h2) h3 h4) (by rw [show (List.replicate k.toNat (xs.map e)).flatten = (List.replicate k.toNat xs).flatten.map e by rw [List.map_flatten, List.map_replicate]])
/-! ### displays -/
theorem xn_nil {f : β → PyData} : EvXN K tNil es f 0 (.pure []) := fun B0 H0 B σ H o P hP Q q => q [] [] B H hP rfl (Stp.refl o.bh) .nil
theorem xn_cons {f : β → PyData} {t : TA} {n : Nat} {m : W β} {mt : W (List β)} (h : EvX K te es (eV f) m) (ht : EvXN K t es f n mt) : EvXN K (tCons te t) es f (n + 1) (.bind m fun a => .bind mt fun as => .pure (a :: as)) := fun B0 H0 B σ H o P hP Q q =>
  h B0 H0 B σ H o _ hP _ fun a v B1 H1 pa s1 d1 => ht B0 H0 B1 σ H1 (o.mono s1) _ pa _ fun as vs B2 H2 pas la s2 d2 => q (a :: as) (v :: vs) B2 H2 pas (by rw [List.length_cons, la]) (s1.trans s2) (.cons (dpMono s2.bb d1) d2)
theorem x_lst {f : β → PyData} {t : TA} {n : Nat} {m : W (List β)} (h : EvXN K t es f n m) (hn : n ≤ 1000 := by decide) : EvX K (tLst t) es (eN f) m := fun B0 H0 B σ H o P hP Q q =>
  h B0 H0 B σ H o _ hP _ fun as vs B1 H1 pa la s1 d1 => by
    have hl := dpAll_len d1
    rw [List.length_map] at hl
    refine ⟨line_le (by omega), fun p np => ?_⟩
    exact q as _ B1 _ pa (s1.trans (Stp.open s1.bh np)) ⟨p, vs, rfl, s1.hh.free np, s1.bh.free np, upd_same, d1⟩
theorem x_tupN {f : β → PyData} {t : TA} {n : Nat} {m : W (List β)} (h : EvXN K t es f n m) (hn : n ≤ 1000 := by decide) : EvX K (tTup t) es (eV (eT f)) m := fun B0 H0 B σ H o P hP Q q =>
  h B0 H0 B σ H o _ hP _ fun as vs B1 H1 pa la s1 d1 => by
    have hl := dpAll_len d1
    rw [List.length_map] at hl
    refine ⟨line_le (by omega), fun p np => ?_⟩
    exact q as _ (upd B1 p (.tup vs)) _ pa (s1.trans (Stp.new s1.bh np)) (Dp.tup (SqT.of upd_same) (dpAllMono (same_upd (s1.bh.free np)) d1))
theorem x_tup0 : EvX K (tTup tNil) es (eV eP0) (.pure ()) := .of (ev_tupd ea_nil .nil (by simp)) rfl
theorem x_tup1 {f : β → PyData} {m : W β} (h : EvX K te es (eV f) m) : EvX K (tTup (tCons te tNil)) es (eV (eP1 f)) m := fun B0 H0 B σ H o P hP Q q =>
  h B0 H0 B σ H o _ hP _ fun a v B1 H1 pa s1 d1 => ⟨line_le (by show 1 ≤ 16777216; omega), fun p np => q a _ (upd B1 p (.tup [v])) _ pa (s1.trans (Stp.new s1.bh np)) (Dp.tup (SqT.of upd_same) (dpAllMono (same_upd (s1.bh.free np)) (.cons d1 .nil)))⟩
theorem x_tup2 {f : α → PyData} {g : β → PyData} {m : W α} {n : W β} (h : EvX K ta es (eV f) m) (h2 : EvX K tb es (eV g) n) : EvX K (tTup (tCons ta (tCons tb tNil))) es (eV (eP2 f g)) (.bind m fun a => .bind n fun b => .pure (a, b)) := fun B0 H0 B σ H o P hP Q q =>
  h B0 H0 B σ H o _ hP _ fun a v B1 H1 pa s1 d1 => h2 B0 H0 B1 σ H1 (o.mono s1) _ pa _ fun b w B2 H2 pb s2 d2 =>
    ⟨line_le (by show 2 ≤ 16777216; omega), fun p np => q (a, b) _ (upd B2 p (.tup [v, w])) _ pb ((s1.trans s2).trans (Stp.new s2.bh np)) (Dp.tup (SqT.of upd_same) (dpAllMono (same_upd (s2.bh.free np)) (.cons (dpMono s2.bb d1) (.cons d2 .nil))))⟩
theorem x_tup3 {f : α → PyData} {g : β → PyData} {k : γ → PyData} {m : W α} {n : W β} {l : W γ} (h : EvX K ta es (eV f) m) (h2 : EvX K tb es (eV g) n) (h3 : EvX K tc es (eV k) l) : EvX K (tTup (tCons ta (tCons tb (tCons tc tNil)))) es (eV (eP3 f g k)) (.bind m fun a => .bind n fun b => .bind l fun c => .pure (a, b, c)) := fun B0 H0 B σ H o P hP Q q =>
  h B0 H0 B σ H o _ hP _ fun a v B1 H1 pa s1 d1 => h2 B0 H0 B1 σ H1 (o.mono s1) _ pa _ fun b w B2 H2 pb s2 d2 => h3 B0 H0 B2 σ H2 ((o.mono s1).mono s2) _ pb _ fun c x B3 H3 pc s3 d3 =>
    ⟨line_le (by show 3 ≤ 16777216; omega), fun p np => q (a, b, c) _ (upd B3 p (.tup [v, w, x])) _ pc ((s1.trans (s2.trans s3)).trans (Stp.new s3.bh np)) (Dp.tup (SqT.of upd_same) (dpAllMono (same_upd (s3.bh.free np)) (.cons (dpMono (s2.bb.trans s3.bb) d1) (.cons (dpMono s3.bb d2) (.cons d3 .nil)))))⟩
theorem x_tup4 {td : TE} {f : α → PyData} {g : β → PyData} {k : γ → PyData} {k2 : δ → PyData} {m : W α} {n : W β} {l : W γ} {l2 : W δ} (h : EvX K ta es (eV f) m) (h2 : EvX K tb es (eV g) n) (h3 : EvX K tc es (eV k) l) (h4 : EvX K td es (eV k2) l2) :
    EvX K (tTup (tCons ta (tCons tb (tCons tc (tCons td tNil))))) es (eV (eP4 f g k k2)) (.bind m fun a => .bind n fun b => .bind l fun c => .bind l2 fun d => .pure (a, b, c, d)) := fun B0 H0 B σ H o P hP Q q =>
  h B0 H0 B σ H o _ hP _ fun a v B1 H1 pa s1 d1 => h2 B0 H0 B1 σ H1 (o.mono s1) _ pa _ fun b w B2 H2 pb s2 d2 => h3 B0 H0 B2 σ H2 ((o.mono s1).mono s2) _ pb _ fun c x B3 H3 pc s3 d3 => h4 B0 H0 B3 σ H3 (((o.mono s1).mono s2).mono s3) _ pc _ fun d y B4 H4 pd s4 d4 =>
    ⟨line_le (by show 4 ≤ 16777216; omega), fun p np => q (a, b, c, d) _ (upd B4 p (.tup [v, w, x, y])) _ pd ((s1.trans (s2.trans (s3.trans s4))).trans (Stp.new s4.bh np)) (Dp.tup (SqT.of upd_same) (dpAllMono (same_upd (s4.bh.free np)) (.cons (dpMono (s2.bb.trans (s3.bb.trans s4.bb)) d1) (.cons (dpMono (s3.bb.trans s4.bb) d2) (.cons (dpMono s4.bb d3) (.cons d4 .nil))))))⟩
/-! ### tests -/
theorem t_test {m : W Bool} (h : EvX K te es (eV eB) m) : EvXT K (tTest te) es m := fun B0 H0 B σ H o P hP Q q =>
  h B0 H0 B σ H o _ hP _ fun b v B1 H1 pb s1 d1 => by
    cases d1
    exact ⟨b, rfl, q b B1 H1 pb s1⟩
theorem t_B {m : W Bool} (h : EvX K te es (eV eB) m) : EvXT K (tB te) es m := fun B0 H0 B σ H o P hP Q q =>
  h B0 H0 B σ H o _ hP _ fun b v B1 H1 pb s1 d1 => by
    cases d1
    exact ⟨b, rfl, q b B1 H1 pb s1⟩
theorem t_yes : EvXT K tYes es (.pure true) := fun B0 H0 B σ H o P hP Q q => q true B H hP (Stp.refl o.bh)
theorem t_not {m : W Bool} (h : EvXT K tt es m) : EvXT K (tNot tt) es (.bind m fun b => .pure (!b)) := fun B0 H0 B σ H o P hP Q q => h B0 H0 B σ H o _ hP _ fun b B1 H1 pb s1 => q (!b) B1 H1 pb s1
theorem t_and {m n : W Bool} (h : EvXT K tt es m) (h2 : EvXT K tu es n) : EvXT K (tAnd tt tu) es (.bind m fun b => .ite b n (.pure false)) := fun B0 H0 B σ H o P hP Q q =>
  h B0 H0 B σ H o _ hP _ fun b B1 H1 pb s1 => by
    cases b with
    | false => rw [if_neg Bool.false_ne_true]; exact q false B1 H1 pb s1
    | true => rw [if_pos rfl]; exact h2 B0 H0 B1 σ H1 (o.mono s1) P pb Q fun c B2 H2 pc s2 => q c B2 H2 pc (s1.trans s2)
theorem t_or {m n : W Bool} (h : EvXT K tt es m) (h2 : EvXT K tu es n) : EvXT K (tOr tt tu) es (.bind m fun b => .ite b (.pure true) n) := fun B0 H0 B σ H o P hP Q q =>
  h B0 H0 B σ H o _ hP _ fun b B1 H1 pb s1 => by
    cases b with
    | true => rw [if_pos rfl]; exact q true B1 H1 pb s1
    | false => rw [if_neg Bool.false_ne_true]; exact h2 B0 H0 B1 σ H1 (o.mono s1) P pb Q fun c B2 H2 pc s2 => q c B2 H2 pc (s1.trans s2)
theorem x_and {m n : W Bool} (h : EvX K ta es (eV eB) m) (h2 : EvX K tb es (eV eB) n) : EvX K (tAndV ta tb) es (eV eB) (.bind m fun b => .ite b n (.pure false)) := fun B0 H0 B σ H o P hP Q q =>
  h B0 H0 B σ H o _ hP _ fun b v B1 H1 pb s1 d1 => by
    cases d1
    refine ⟨b, rfl, ?_⟩
    cases b with
    | false => rw [if_neg Bool.false_ne_true]; exact q false _ B1 H1 pb s1 (Dp.bl false)
    | true => rw [if_pos rfl]; exact h2 B0 H0 B1 σ H1 (o.mono s1) P pb Q fun c u B2 H2 pc s2 d2 => q c u B2 H2 pc (s1.trans s2) d2
theorem x_or {m n : W Bool} (h : EvX K ta es (eV eB) m) (h2 : EvX K tb es (eV eB) n) : EvX K (tOrV ta tb) es (eV eB) (.bind m fun b => .ite b (.pure true) n) := fun B0 H0 B σ H o P hP Q q =>
  h B0 H0 B σ H o _ hP _ fun b v B1 H1 pb s1 d1 => by
    cases d1
    refine ⟨b, rfl, ?_⟩
    cases b with
    | true => rw [if_pos rfl]; exact q true _ B1 H1 pb s1 (Dp.bl true)
    | false => rw [if_neg Bool.false_ne_true]; exact h2 B0 H0 B1 σ H1 (o.mono s1) P pb Q fun c u B2 H2 pc s2 d2 => q c u B2 H2 pc (s1.trans s2) d2
theorem x_not {m : W Bool} (h : EvX K ta es (eV eB) m) : EvX K (tNotV ta) es (eV eB) (.bind m fun b => .pure (!b)) := fun B0 H0 B σ H o P hP Q q =>
  h B0 H0 B σ H o _ hP _ fun b v B1 H1 pb s1 d1 => by
    cases d1
    exact ⟨b, rfl, q (!b) _ B1 H1 pb s1 (Dp.bl _)⟩
theorem x_if {e : γ → Im} {mb : W Bool} {m1 m0 : W γ} (h : EvXT K tt es mb) (h1 : EvX K ta es e m1) (h0 : EvX K tb es e m0) : EvX K (tIf tt ta tb) es e (.bind mb fun b => .ite b m1 m0) := fun B0 H0 B σ H o P hP Q q =>
  h B0 H0 B σ H o _ hP _ fun b B1 H1 pb s1 => by
    cases b with
    | true => rw [if_pos rfl]; exact h1 B0 H0 B1 σ H1 (o.mono s1) P pb Q fun c u B2 H2 pc s2 d2 => q c u B2 H2 pc (s1.trans s2) (d2.old s1.hh)
    | false => rw [if_neg Bool.false_ne_true]; exact h0 B0 H0 B1 σ H1 (o.mono s1) P pb Q fun c u B2 H2 pc s2 d2 => q c u B2 H2 pc (s1.trans s2) (d2.old s1.hh)
theorem x_chain {r r' : R2} {ea : α → PyData} {eb : β → PyData} {ec : γ → PyData} {ma : W α} {mb : W β} {mc : W γ} {g : α → β → W Bool} {g' : β → γ → W Bool} (ha : EvX K ta es (eV ea) ma) (hb : EvX K tb es (eV eb) mb) (hc : EvX K tc es (eV ec) mc)
    (hr : ∀ a b, RvX K r (.d (ea a)) (.d (eb b)) (eV eB) (g a b)) (hr' : ∀ b c, RvX K r' (.d (eb b)) (.d (ec c)) (eV eB) (g' b c)) :
    EvX K (tChain r r' ta tb tc) es (eV eB) (.bind ma fun a => .bind mb fun b => .bind (g a b) fun k => .ite k (.bind mc fun c => g' b c) (.pure false)) := fun B0 H0 B σ H o P hP Q q =>
  ha B0 H0 B σ H o _ hP _ fun a v B1 H1 pa s1 d1 => hb B0 H0 B1 σ H1 (o.mono s1) _ pa _ fun b w B2 H2 pb s2 d2 =>
    hr a b B2 H2 v w s2.bh (DV.mono s2.bb s2.hh d1) d2 _ pb _ fun k u B3 H3 pk s3 d3 => by
      cases d3
      refine ⟨k, rfl, ?_⟩
      cases k with
      | false => rw [if_neg Bool.false_ne_true]; exact q _ _ B3 H3 pk (s1.trans (s2.trans s3)) (Dp.bl false)
      | true =>
        rw [if_pos rfl]
        refine hc B0 H0 B3 σ H3 (o.mono (s1.trans (s2.trans s3))) _ pk _ fun c u2 B4 H4 pc s4 d4 => ?_
        exact hr' b c B4 H4 w u2 s4.bh (DV.mono (s3.bb.trans s4.bb) (s3.hh.trans s4.hh) d2) d4 P pc Q fun k2 u5 B5 H5 pz5 s5 d5 => q k2 u5 B5 H5 pz5 (s1.trans (s2.trans (s3.trans (s4.trans s5)))) d5
/-! slices -/
theorem xo_none : EvXO K tNoPart es (.pure none) := fun B0 H0 B σ H o P hP Q q => q none B H hP (Stp.refl o.bh)
theorem xo_some {m : W Int} (h : EvX K te es (eV eI) m) : EvXO K (tPart te) es (.bind m fun a => .pure (some a)) := fun B0 H0 B σ H o P hP Q q =>
  h B0 H0 B σ H o _ hP _ fun a v B1 H1 pa s1 d1 => by
    cases d1
    exact ⟨a, rfl, q (some a) B1 H1 pa s1⟩
theorem cut_map {e : α → PyData} {xs : List α} {lo hi : Option Int} : cutD (xs.map e) lo hi = (W.cut xs lo hi).map e := by
  unfold cutD W.cut
  rw [List.length_map, List.map_take, List.map_drop]
theorem x_slT {f : α → PyData} {tl th : TO} {m : W (List α)} {ml mh : W (Option Int)} (h : EvX K te es (eV (eT f)) m) (hl : EvXO K tl es ml) (hh : EvXO K th es mh) : EvX K (tSl (rSlG K) te tl th) es (eV (eT f)) (.bind m fun xs => .bind ml fun l => .bind mh fun k => .pure (W.cut xs l k)) := fun B0 H0 B σ H o P hP Q q =>
  h B0 H0 B σ H o _ hP _ fun xs v B1 H1 px s1 d1 => hl B0 H0 B1 σ H1 (o.mono s1) _ px _ fun l B2 H2 el s2 => hh B0 H0 B2 σ H2 ((o.mono s1).mono s2) _ el _ fun u B3 H3 eu s3 => by
    have d3 : DV K B3 H3 (.d (eT f xs)) v := DV.mono (s2.bb.trans s3.bb) (s2.hh.trans s3.hh) d1
    cases d3 with
    | @tup a vs _ hs ha =>
      have hs3 := sameT s3.bh hs
      have s13 := s1.trans (s2.trans s3)
      have hc := dpAll_cut ha l u
      rw [cut_map] at hc
      refine .inr ⟨a, vs, rfl, hs3, fun hw => ?_, fun hw p hp => ?_⟩
      · refine q _ _ B3 H3 eu s13 (Dp.tup hs ?_)
        have : cutV vs l u = vs := by
          unfold cutV
          rw [hw.1, hw.2]
          simp
        rw [this] at hc
        exact hc
      · have hb := s3.bh.free hp
        exact q _ _ (upd B3 p (.tup (cutV vs l u))) _ eu (s13.trans (Stp.new s3.bh hp)) (Dp.tup (SqT.of upd_same) (dpAllMono (same_upd hb) hc))
theorem x_slL {f : α → PyData} {tl th : TO} {m : W (List α)} {ml mh : W (Option Int)} (h : EvX K te es (eV (eL f)) m) (hl : EvXO K tl es ml) (hh : EvXO K th es mh) : EvX K (tSl (rSlG K) te tl th) es (eN f) (.bind m fun xs => .bind ml fun l => .bind mh fun k => .pure (W.cut xs l k)) := fun B0 H0 B σ H o P hP Q q =>
  h B0 H0 B σ H o _ hP _ fun xs v B1 H1 px s1 d1 => hl B0 H0 B1 σ H1 (o.mono s1) _ px _ fun l B2 H2 el s2 => hh B0 H0 B2 σ H2 ((o.mono s1).mono s2) _ el _ fun u B3 H3 eu s3 => by
    have d3 : DV K B3 H3 (.d (eL f xs)) v := DV.mono (s2.bb.trans s3.bb) (s2.hh.trans s3.hh) d1
    cases d3 with
    | @lst a vs _ hs ha =>
      have s13 := s1.trans (s2.trans s3)
      have hc := dpAll_cut ha l u
      rw [cut_map] at hc
      exact .inl ⟨a, vs, rfl, Same.seq s3.bh hs, fun p hp => q _ _ B3 _ eu (s13.trans (Stp.open s3.bh hp)) ⟨p, _, rfl, s13.hh.free hp, s3.bh.free hp, upd_same, hc⟩⟩
theorem x_revL {f : α → PyData} {m : W (List α)} (h : EvX K te es (eV (eL f)) m) : EvX K (tRevL K te) es (eN f) (.bind m fun xs => .pure xs.reverse) := fun B0 H0 B σ H o P hP Q q =>
  h B0 H0 B σ H o _ hP _ fun xs v B1 H1 px s1 d1 => by
    cases d1 with
    | @lst a vs _ hs ha =>
      refine ⟨_, _, rfl, Same.seq s1.bh hs, fun p hp => ?_⟩
      have := dpAll_rev ha
      rw [← List.map_reverse] at this
      exact q _ _ B1 _ px (s1.trans (Stp.open s1.bh hp)) ⟨p, _, rfl, s1.hh.free hp, s1.bh.free hp, upd_same, this⟩
end
end HM
end
section
/-! W 3: order, walks, comprehensions, calls of defs -/
namespace HM
open PySem PySem.Spec PyProof.Rows L2 RZ
/-! ### < by data -/
section
variable {X : Cx}
def CmpOk (K : PySem.W.Frag) (H : Hp) (x y : V) (d e : PyData) : Prop := Dp K H x d ∧ Dp K H y e ∧ PySem.W.alike d e = true ∧ d ≠ .none ∧ d.depth ≤ 60
def rLtD (K : PySem.W.Frag) : R2 := fun x y H Q => ∃ d e, CmpOk K H x y d e ∧ Q (.bl (PySem.W.dataLt d e)) H
def rGtD (K : PySem.W.Frag) : R2 := fun x y H Q => ∃ d e, CmpOk K H x y d e ∧ Q (.bl (PySem.W.dataLt e d)) H
def rLeD (K : PySem.W.Frag) : R2 := fun x y H Q => ∃ d e, CmpOk K H x y d e ∧ Q (.bl (!PySem.W.dataLt e d)) H
def rGeD (K : PySem.W.Frag) : R2 := fun x y H Q => ∃ d e, CmpOk K H x y d e ∧ Q (.bl (!PySem.W.dataLt d e)) H
theorem op_ltD (hu : X.A.units + 64 < cLine) : OpR X (compareOp .Lt) (rLtD X.K) := by
  intro pins s σ H x y v u Q I rx ry h
  obtain ⟨d, e, ⟨hd, he, al, nn, dp⟩, q⟩ := h
  obtain ⟨as, r1⟩ := Dp.reads I d x v hd rx
  obtain ⟨bs, r2⟩ := Dp.reads I e y u he ry
  exact PySem.W.lt_data r1 r2 al nn (by omega) ⟨.bl _, H, I, rfl, q⟩
theorem op_gtD (hu : X.A.units + 64 < cLine) : OpR X (compareOp .Gt) (rGtD X.K) := by
  intro pins s σ H x y v u Q I rx ry h
  obtain ⟨d, e, ⟨hd, he, al, nn, dp⟩, q⟩ := h
  obtain ⟨as, r1⟩ := Dp.reads I d x v hd rx
  obtain ⟨bs, r2⟩ := Dp.reads I e y u he ry
  exact PySem.W.gt_data r1 r2 al nn (by omega) ⟨.bl _, H, I, rfl, q⟩
theorem op_leD (hu : X.A.units + 64 < cLine) : OpR X (compareOp .LtE) (rLeD X.K) := by
  intro pins s σ H x y v u Q I rx ry h
  obtain ⟨d, e, ⟨hd, he, al, nn, dp⟩, q⟩ := h
  obtain ⟨as, r1⟩ := Dp.reads I d x v hd rx
  obtain ⟨bs, r2⟩ := Dp.reads I e y u he ry
  exact PySem.W.le_data r1 r2 al nn (by omega) ⟨.bl _, H, I, rfl, q⟩
theorem op_geD (hu : X.A.units + 64 < cLine) : OpR X (compareOp .GtE) (rGeD X.K) := by
  intro pins s σ H x y v u Q I rx ry h
  obtain ⟨d, e, ⟨hd, he, al, nn, dp⟩, q⟩ := h
  obtain ⟨as, r1⟩ := Dp.reads I d x v hd rx
  obtain ⟨bs, r2⟩ := Dp.reads I e y u he ry
  exact PySem.W.ge_data r1 r2 al nn (by omega) ⟨.bl _, H, I, rfl, q⟩
end
namespace W
variable {α β γ σ ρ : Type}
def opt (o : Option α) (m : W β) (k : α → W β) : W β := match o with | none => m | some a => k a
@[simp] theorem opt_none {m : W β} {k : α → W β} : opt none m k = m := rfl
@[simp] theorem opt_some {a : α} {m : W β} {k : α → W β} : opt (some a) m k = k a := rfl
end W
section
variable {K : PySem.W.Frag} {es es' : List Sl} {te ta tb tc : TE} {tt tu : TT} {t u : TS} {p : Pst} {α β γ δ σ ρ : Type} {m : W α} {e : α → Im}
theorem nn_ne {e : α → PyData} (n : NoN e) (a : α) : e a ≠ .none := fun h => by
  have := (n a).1
  rw [h] at this
  simp [PyData.eqv] at this
theorem cmpOk {e : α → PyData} {lt : α → α → Bool} (h : OrK e lt) (n : NoN e) {k : Nat} (d : DpK e k) (hk : k ≤ 60) {B H : Hp} {a b : α} {v w : V} (sb : Same B H) (x : DV K B H (.d (e a)) v) (y : DV K B H (.d (e b)) w) : CmpOk K H v w (e a) (e b) :=
  ⟨dpMono sb x, dpMono sb y, h.al a b, nn_ne n a, by have := d.dp a; omega⟩
theorem r_ltD {e : α → PyData} {lt : α → α → Bool} (h : OrK e lt) (n : NoN e) {k : Nat} (d : DpK e k) (hk : k ≤ 60) (a b : α) : RvX K (rLtD K) (.d (e a)) (.d (e b)) (eV eB) (.pure (lt a b)) := fun B H v w sb x y P hP Q q =>
  ⟨e a, e b, cmpOk h n d hk sb x y, by rw [h.lt]; exact q _ _ B H hP (Stp.refl sb) (Dp.bl _)⟩
theorem r_gtD {e : α → PyData} {lt : α → α → Bool} (h : OrK e lt) (n : NoN e) {k : Nat} (d : DpK e k) (hk : k ≤ 60) (a b : α) : RvX K (rGtD K) (.d (e a)) (.d (e b)) (eV eB) (.pure (lt b a)) := fun B H v w sb x y P hP Q q =>
  ⟨e a, e b, cmpOk h n d hk sb x y, by rw [h.lt]; exact q _ _ B H hP (Stp.refl sb) (Dp.bl _)⟩
theorem r_leD {e : α → PyData} {lt : α → α → Bool} (h : OrK e lt) (n : NoN e) {k : Nat} (d : DpK e k) (hk : k ≤ 60) (a b : α) : RvX K (rLeD K) (.d (e a)) (.d (e b)) (eV eB) (.pure (!lt b a)) := fun B H v w sb x y P hP Q q =>
  ⟨e a, e b, cmpOk h n d hk sb x y, by rw [h.lt]; exact q _ _ B H hP (Stp.refl sb) (Dp.bl _)⟩
theorem r_geD {e : α → PyData} {lt : α → α → Bool} (h : OrK e lt) (n : NoN e) {k : Nat} (d : DpK e k) (hk : k ≤ 60) (a b : α) : RvX K (rGeD K) (.d (e a)) (.d (e b)) (eV eB) (.pure (!lt a b)) := fun B H v w sb x y P hP Q q =>
  ⟨e a, e b, cmpOk h n d hk sb x y, by rw [h.lt]; exact q _ _ B H hP (Stp.refl sb) (Dp.bl _)⟩
theorem r_ltI (a b : Int) : RvX K (rLtD K) (.d (eI a)) (.d (eI b)) (eV eB) (.pure (decide (a < b))) := r_ltD ok_int nn_int dk_int (by decide) a b
theorem r_gtI (a b : Int) : RvX K (rGtD K) (.d (eI a)) (.d (eI b)) (eV eB) (.pure (decide (b < a))) := r_gtD ok_int nn_int dk_int (by decide) a b
theorem r_leI (a b : Int) : RvX K (rLeD K) (.d (eI a)) (.d (eI b)) (eV eB) (.pure (decide (a ≤ b))) := by
  have := r_leD (K := K) ok_int nn_int dk_int (by decide) a b
  rwa [show (!W.ltI b a) = decide (a ≤ b) by unfold W.ltI; by_cases h : b < a <;> simp [h] <;> omega] at this
theorem r_geI (a b : Int) : RvX K (rGeD K) (.d (eI a)) (.d (eI b)) (eV eB) (.pure (decide (b ≤ a))) := by
  have := r_geD (K := K) ok_int nn_int dk_int (by decide) a b
  rwa [show (!W.ltI a b) = decide (b ≤ a) by unfold W.ltI; by_cases h : a < b <;> simp [h] <;> omega] at this
/-! ### None -/
theorem x_unO {f : α → PyData} {m : W (Option α)} (h : EvX K te es (eV (eO f)) m) : EvX K te es (eV f) (.bind m fun o => .get o) := fun B0 H0 B σ H o P hP Q q =>
  h B0 H0 B σ H o _ hP _ fun a v B1 H1 ⟨c, ec, pc⟩ s1 d1 => by
    subst ec
    exact q c v B1 H1 pc s1 d1
theorem x_some {f : α → PyData} {m : W α} (h : EvX K te es (eV f) m) : EvX K te es (eV (eO f)) (.bind m fun a => .pure (some a)) := x_coe some (fun _ => rfl) h
/-! ### reading an open list for a moment -/
def Sca : Im → Prop
  | .v (.d d) => d.depth = 0 ∧ ∀ xs, d ≠ .list xs ∧ d ≠ .tuple xs
  | _ => False
theorem sca_imR {B H H' H0 : Hp} : ∀ {x : Im} {v : V}, Sca x → ImR K H B H' x v → ∀ B2 H2, ImR K H0 B2 H2 x v
  | .v (.d d), v, hs, h, B2, H2 => by
    have h : Dp K B v d := h
    show Dp K B2 v d
    cases h with
    | non => exact .non
    | bl b => exact .bl b
    | int i => exact .int i
    | str z => exact .str z
    | lst h1 h2 => exact absurd rfl (hs.2 _).1
    | tup h1 h2 => exact absurd rfl (hs.2 _).2
    | dct h1 => exact absurd hs.1 (by simp [PyData.depth])
theorem sc_int (a : Int) : Sca (eV eI a) := ⟨by simp [PyData.depth], fun xs => ⟨fun h => (nomatch h), fun h => (nomatch h)⟩⟩
theorem sc_bool (a : Bool) : Sca (eV eB a) := ⟨by simp [PyData.depth], fun xs => ⟨fun h => (nomatch h), fun h => (nomatch h)⟩⟩
theorem sc_str (a : Str) : Sca (eV eS a) := ⟨by simp [PyData.depth], fun xs => ⟨fun h => (nomatch h), fun h => (nomatch h)⟩⟩
theorem stp_forget {B H B1 B2 H2 : Hp} (b : Same B B1) (s : Stp B1 H B2 H2) : Stp B H B H2 := ⟨Same.refl _, s.hh, fun x o e => s.bh _ _ (s.bb _ _ (b _ _ e)), fun _ h _ => h⟩
theorem x_open {f : β → PyData} {xs : List β} (i : Nat) (hi : es[i]? = some (.mu (xs.map f))) (hs : ∀ a, Sca (e a)) (h : EvX K te (es.set i (.im (.d (eL f xs)))) e m) : EvX K te es e m := fun B0 H0 B σ H o P hP Q q => by
  obtain ⟨B1, sb, o1⟩ := o.shut hi
  exact h B0 H0 B1 σ H o1 P hP Q fun a v B2 H2 pa s d => q a v B H2 pa (stp_forget sb s) (sca_imR (hs a) d B H2)
theorem t_open {f : β → PyData} {xs : List β} {m : W Bool} (i : Nat) (hi : es[i]? = some (.mu (xs.map f))) (h : EvXT K tt (es.set i (.im (.d (eL f xs)))) m) : EvXT K tt es m := fun B0 H0 B σ H o P hP Q q => by
  obtain ⟨B1, sb, o1⟩ := o.shut hi
  exact h B0 H0 B1 σ H o1 P hP Q fun b B2 H2 pb s => q b B H2 pb (stp_forget sb s)
/-- an item of an open list -/
theorem x_muIx {f : β → PyData} {xs : List β} {mi : W Int} (i : Nat) (hi : es[i]? = some (.mu (xs.map f))) (h : EvX K ta es (eV eI) mi) : EvX K (tOp (rIx K) (tVar i) ta) es (eV f) (.bind mi fun k => .at' xs k) := fun B0 H0 B σ H o P hP Q q => by
  obtain ⟨r, vs, e1, hb, h0, hp, ha⟩ := o.mu hi
  refine ⟨_, e1, h B0 H0 B σ H o _ hP _ fun k v B1 H1 ⟨a, hk, pa⟩ s1 d1 => ?_⟩
  cases d1
  have hk2 := atI_map (e := f) hk
  unfold atI at hk2
  obtain ⟨j, hj, hx⟩ := Option.bind_eq_some_iff.mp hk2
  obtain ⟨w, hw, rw'⟩ := dpAll_get ha hx
  refine .inl ⟨r, vs, k, w, rfl, rfl, SqL.of (s1.hh _ _ hp), ?_, q a w B1 H1 pa s1 (dpMono s1.bb rw')⟩
  unfold atI
  rw [dpAll_len ha, hj]
  exact hw
/-- tuple(open list) -/
theorem x_muTup {f : β → PyData} {xs : List β} (i : Nat) (hi : es[i]? = some (.mu (xs.map f))) : EvX K (tCB (rTupOf K) (tCons (tVar i) tNil)) es (eV (eT f)) (.pure xs) := fun B0 H0 B σ H o P hP Q q => by
  obtain ⟨r, vs, e1, hb, h0, hp, ha⟩ := o.mu hi
  exact ⟨_, e1, r, vs, rfl, .inl ⟨SqL.of hp, fun l hl => q xs _ (upd B l (.tup vs)) _ hP (Stp.new o.bh hl) (Dp.tup (SqT.of upd_same) (dpAllMono (same_upd (o.bh.free hl)) ha))⟩⟩
theorem x_muLst {f : β → PyData} {xs : List β} (i : Nat) (hi : es[i]? = some (.mu (xs.map f))) : EvX K (tCB (rLstOf K) (tCons (tVar i) tNil)) es (eN f) (.pure xs) := fun B0 H0 B σ H o P hP Q q => by
  obtain ⟨r, vs, e1, hb, h0, hp, ha⟩ := o.mu hi
  exact ⟨_, e1, r, vs, rfl, .inl (SqL.of hp), fun l hl => q xs _ B _ hP (Stp.open o.bh hl) ⟨l, vs, rfl, hl, o.bh.free hl, upd_same, ha⟩⟩
/-! ### walks -/
theorem Wk.congr {B : Hp} {J : It} {n : Nat} {f g : Nat → Dv} (h : Wk K B J n f) (k : ∀ i, i < n → f i = g i) : Wk K B J n g :=
  ⟨h.go, h.stop, fun B1 i H x H' a b hi y => by obtain ⟨B2, s, d⟩ := h.yld B1 i H x H' a b hi y; exact ⟨B2, s, by rw [← k i hi]; exact d⟩⟩
theorem wk_len {B : Hp} {J : It} {n n' : Nat} {f : Nat → Dv} (h : Wk K B J n f) (e : n = n') : Wk K B J n' f := by rw [← e]; exact h
theorem xi_L {f : α → PyData} {m : W (List α)} (h : EvX K te es (eV (eL f)) m) : EvXI K (iSeq K te) es f m := fun B0 H0 B σ H o P hP R r => .inl
  (h B0 H0 B σ H o _ hP _ fun xs v B1 H1 px s1 d1 => by
    cases d1 with
    | lst hs ha => exact ⟨_, rfl, ⟨_, Same.seq s1.bh hs⟩, r _ xs B1 H1 px s1 (wk_len (wk_list hs ha) (by rw [List.length_map]))⟩)
theorem xi_T {f : α → PyData} {m : W (List α)} (h : EvX K te es (eV (eT f)) m) : EvXI K (iSeq K te) es f m := fun B0 H0 B σ H o P hP R r => .inr
  (h B0 H0 B σ H o _ hP _ fun xs v B1 H1 px s1 d1 => by
    cases d1 with
    | tup hs ha => exact ⟨_, rfl, ⟨_, sameT s1.bh hs⟩, r _ xs B1 H1 px s1 (wk_len (wk_tup hs ha) (by rw [List.length_map]))⟩)
theorem rangeI_len (lo hi : Int) : (W.rangeI lo hi).length = (hi - lo).toNat := by simp [W.rangeI]
theorem rangeI_get {lo hi : Int} {i : Nat} (h : i < (hi - lo).toNat) : ((W.rangeI lo hi).map eI).getD i .none = .int (lo + i) := by
  rw [getD_map (W.rangeI lo hi) eI i (by rw [rangeI_len]; exact h)]
  simp [W.rangeI]
theorem xi_range1 {mn : W Int} (h : EvX K te es (eV eI) mn) : EvXI K (iRng1 (tCons te tNil)) es eI (.bind mn fun n => .range1 n) := fun B0 H0 B σ H o P hP R r =>
  h B0 H0 B σ H o _ hP _ fun n v B1 H1 ⟨⟨h1, h2⟩, pn⟩ s1 d1 => by
    cases d1
    refine ⟨n, rfl, by omega, by omega, r _ _ B1 H1 pn s1 ?_⟩
    have e1 : (W.rangeI 0 n).length = n.toNat := by rw [rangeI_len]; omega
    exact wk_len (wk_range.congr fun i hi => by rw [rangeI_get (by omega)]) e1.symm
theorem xi_range2 {ml mn : W Int} (hl : EvX K ta es (eV eI) ml) (h : EvX K tb es (eV eI) mn) : EvXI K (iRng2 (tCons ta (tCons tb tNil))) es eI (.bind ml fun l => .bind mn fun n => .range2 l n) := fun B0 H0 B σ H o P hP R r =>
  hl B0 H0 B σ H o _ hP _ fun l v B1 H1 pl s1 d1 => h B0 H0 B1 σ H1 (o.mono s1) _ pl _ fun n w B2 H2 ⟨⟨h1, h2, h3, h4⟩, pn⟩ s2 d2 => by
    cases d1
    cases d2
    refine ⟨l, n, rfl, ⟨by omega, by omega, by omega, by omega⟩, r _ _ B2 H2 pn (s1.trans s2) ?_⟩
    have e1 : (W.rangeI l n).length = (n - l).toNat := rangeI_len l n
    exact wk_len (wk_range.congr fun i hi => by rw [rangeI_get (by omega)]) e1.symm
theorem zip_get {f : α → PyData} {g : β → PyData} {xs : List α} {ys : List β} {i : Nat} (h : i < min xs.length ys.length) : PyData.tuple [(xs.map f).getD i .none, (ys.map g).getD i .none] = (((xs.zip ys).map (eP2 f g)).getD i .none) := by
  rw [getD_map xs f i (by omega), getD_map ys g i (by omega), getD_map (xs.zip ys) (eP2 f g) i (by rw [List.length_zip]; exact h)]
  simp
theorem xi_zipL {f : α → PyData} {g : β → PyData} {ma : W (List α)} {mb : W (List β)} (h : EvX K ta es (eV (eL f)) ma) (h2 : EvX K tb es (eV (eL g)) mb) : EvXI K (iZipA K (tCons ta (tCons tb tNil))) es (eP2 f g) (.bind ma fun xs => .bind mb fun ys => .pure (xs.zip ys)) := fun B0 H0 B σ H o P hP R r =>
  h B0 H0 B σ H o _ hP _ fun xs v B1 H1 px s1 d1 => h2 B0 H0 B1 σ H1 (o.mono s1) _ px _ fun ys w B2 H2 py s2 d2 => by
    have d0 : DV K B1 H1 (.d (eL f xs)) v := d1
    have d1 := DV.mono s2.bb s2.hh d0
    cases d1 with
    | lst ha da =>
      cases d2 with
      | lst hb db =>
        refine ⟨_, _, _, _, rfl, .inl ⟨Same.seq s2.bh ha, Same.seq s2.bh hb, r _ _ B2 H2 py (s1.trans s2) ?_⟩⟩
        refine wk_len ((wk_zip ha da hb db).congr fun i hi => by rw [zip_get (by simpa using hi)]) ?_
        simp
theorem xi_zipT {f : α → PyData} {g : β → PyData} {ma : W (List α)} {mb : W (List β)} (h : EvX K ta es (eV (eT f)) ma) (h2 : EvX K tb es (eV (eT g)) mb) : EvXI K (iZipA K (tCons ta (tCons tb tNil))) es (eP2 f g) (.bind ma fun xs => .bind mb fun ys => .pure (xs.zip ys)) := fun B0 H0 B σ H o P hP R r =>
  h B0 H0 B σ H o _ hP _ fun xs v B1 H1 px s1 d1 => h2 B0 H0 B1 σ H1 (o.mono s1) _ px _ fun ys w B2 H2 py s2 d2 => by
    have d0 : DV K B1 H1 (.d (eT f xs)) v := d1
    have d1 := DV.mono s2.bb s2.hh d0
    cases d1 with
    | tup ha da =>
      cases d2 with
      | tup hb db =>
        refine ⟨_, _, _, _, rfl, .inr ⟨sameT s2.bh ha, sameT s2.bh hb, r _ _ B2 H2 py (s1.trans s2) ?_⟩⟩
        refine wk_len ((wk_zipT ha da hb db).congr fun i hi => by rw [zip_get (by simpa using hi)]) ?_
        simp
def W.enumI {α : Type} (xs : List α) : List (Int × α) := xs.zipIdx.map fun q => ((q.2 : Int), q.1)
theorem enum_len {xs : List α} : (W.enumI xs).length = xs.length := by simp [W.enumI]
theorem enum_get {f : α → PyData} {xs : List α} {i : Nat} (h : i < xs.length) : PyData.tuple [.int i, (xs.map f).getD i .none] = (((W.enumI xs).map (eP2 eI f)).getD i .none) := by
  rw [getD_map xs f i h, getD_map (W.enumI xs) (eP2 eI f) i (by rw [enum_len]; exact h)]
  simp [W.enumI]
theorem xi_enumL {f : α → PyData} {ma : W (List α)} (h : EvX K ta es (eV (eL f)) ma) : EvXI K (iEnumS K (tCons ta tNil)) es (eP2 eI f) (.bind ma fun xs => .pure (W.enumI xs)) := fun B0 H0 B σ H o P hP R r =>
  h B0 H0 B σ H o _ hP _ fun xs v B1 H1 px s1 d1 => by
    cases d1 with
    | lst hs ha =>
      refine ⟨_, _, rfl, .inl ⟨Same.seq s1.bh hs, r _ _ B1 H1 px s1 ?_⟩⟩
      exact wk_len ((wk_enumL hs ha).congr fun i hi => by rw [enum_get (by simpa using hi)]) (by rw [enum_len, List.length_map])
theorem xi_enumT {f : α → PyData} {ma : W (List α)} (h : EvX K ta es (eV (eT f)) ma) : EvXI K (iEnumS K (tCons ta tNil)) es (eP2 eI f) (.bind ma fun xs => .pure (W.enumI xs)) := fun B0 H0 B σ H o P hP R r =>
  h B0 H0 B σ H o _ hP _ fun xs v B1 H1 px s1 d1 => by
    cases d1 with
    | tup hs ha =>
      refine ⟨_, _, rfl, .inr ⟨sameT s1.bh hs, r _ _ B1 H1 px s1 ?_⟩⟩
      exact wk_len ((wk_enumT hs ha).congr fun i hi => by rw [enum_get (by simpa using hi)]) (by rw [enum_len, List.length_map])
/-! ### comprehensions -/
theorem x_lc {wi : TI} {g : TG} {vs js : List Nat} {eI' : α → PyData} {f : β → PyData} {mI : W (List α)} {c : α → W Bool} {fe : α → W β} {es2 : α → List Sl} (h : EvXI K wi es eI' mI) (hj : ∀ j ∈ js, j ∈ vs)
    (ht : ∀ x, Tg K js g (wipeS es vs) (.d (eI' x)) (es2 x)) (hc : ∀ x, EvXT K tt (es2 x) (c x)) (he : ∀ x, EvX K te (es2 x) (eV f) (fe x)) : EvX K (tLc wi g tt te vs) es (eN f) (.bind mI fun xs => .compC xs c fe) := fun B0 H0 B σ H o P hP Q q =>
  h B0 H0 B σ H o _ hP _ fun J xs B1 H1 ⟨hn, hw⟩ s1 wk D nD => by
    have o1 := o.mono s1
    have bD : B1 D = none := s1.bh.free nD
    refine ⟨fun i m H => m = xs.length - i ∧ i ≤ xs.length ∧ ∃ B' zs acc, Stp B1 H1 B' H ∧ B' D = none ∧ H D = some (.lst acc) ∧ DpAll K B' acc (zs.map f) ∧ (W.comp (xs.drop i) c fe).wp (fun r => P (zs ++ r)) ∧ zs.length ≤ i,
      ⟨xs.length, by simp, Nat.zero_le _, B1, [], [], Stp.open s1.bh nD, bD, upd_same, .nil, by simpa using hw, Nat.le_refl _⟩, ?_⟩
    rintro i k H ⟨rfl, hi, B', zs, acc, st, bD', hD, ha, hI, hl⟩
    by_cases hlt : i < xs.length
    · rw [List.drop_eq_getElem_cons hlt] at hI
      refine .inr ⟨wk.go i H (st.bb.trans st.bh) hlt, fun H' => ∃ B' zs acc, Stp B1 H1 B' H' ∧ B' D = none ∧ H' D = some (.lst acc) ∧ DpAll K B' acc (zs.map f) ∧ (W.comp (xs.drop (i + 1)) c fe).wp (fun r => P (zs ++ r)) ∧ zs.length ≤ i + 1, fun H' h' => ⟨xs.length - (i + 1), by omega, rfl, hlt, h'⟩, fun x H' y => ?_⟩
      obtain ⟨B2, s2, d2⟩ := wk.yld B' i H x H' st.bb st.bh hlt y
      rw [getD_map xs eI' i hlt] at d2
      have st2 := st.trans s2
      have nz : H D ≠ none := by rw [hD]; exact fun z => nomatch z
      have b2 := s2.fr D bD' nz
      refine ht xs[i] B0 H0 B2 (wipe σ vs) H' x ((o1.mono st2).wipes vs) d2 _ fun σ2 o2 l2 n2 => ⟨wipe_same hj l2 n2, hc xs[i] B0 H0 B2 σ2 H' o2 _ hI _ fun b B3 H3 pb s3 => ?_⟩
      have h3 : H3 D = some (.lst acc) := s3.hh _ _ (s2.hh _ _ hD)
      have nz2 : H' D ≠ none := by rw [s2.hh _ _ hD]; exact fun z => nomatch z
      have b3 := s3.fr D b2 nz2
      cases b with
      | false =>
        rw [if_neg Bool.false_ne_true]
        exact ⟨B3, zs, acc, st2.trans s3, b3, h3, dpAllMono (s2.bb.trans s3.bb) ha, pb, by omega⟩
      | true =>
        rw [if_pos rfl]
        refine he xs[i] B0 H0 B3 σ2 H3 (o2.mono s3) _ pb _ fun z v B4 H4 pz s4 d4 => ?_
        have h4 : H4 D = some (.lst acc) := s4.hh _ _ h3
        have b4 := s4.fr D b3 (by rw [h3]; exact fun z => nomatch z)
        have st4 := (st2.trans s3).trans s4
        have ha4 := dpAllMono (s2.bb.trans (s3.bb.trans s4.bb)) ha
        have hz := dpAll_len ha4
        rw [List.length_map] at hz
        refine ⟨acc, h4, line_lt (by omega), B4, zs ++ [z], acc ++ [v], ?_, b4, upd_same, ?_, ?_, by rw [List.length_append, List.length_singleton]; omega⟩
        · refine ⟨st4.bb, fun b x e => ?_, fun b x e => ?_, st4.fr⟩
          · rw [upd_ne (ne_of_none e nD)]; exact st4.hh _ _ e
          · rw [upd_ne (ne_of_none e b4)]; exact st4.bh _ _ e
        · rw [List.map_append]
          exact dpAll_app ha4 (.cons d4 .nil)
        · refine (W.comp (xs.drop (i + 1)) c fe).mono _ _ (fun r hr => ?_) pz
          have hr : P (zs ++ (z :: r)) := hr
          rwa [List.append_assoc]
    · have e : i = xs.length := by omega
      subst e
      rw [List.drop_of_length_le (Nat.le_refl _)] at hI
      have hI : P (zs ++ []) := hI
      rw [List.append_nil] at hI
      exact .inl ⟨wk.stop H (st.bb.trans st.bh), q zs _ B' H hI (s1.trans st) ⟨D, acc, rfl, s1.hh.free nD, bD', hD, ha⟩⟩
/-! ### defs -/
abbrev vD {α : Type} (e : α → PyData) : α → Dv := fun a => .d (e a)
abbrev vP : Unit → Dv := fun _ => .pot
abbrev vR (v : V) : Unit → Dv := fun _ => .raw v
def spN (K : PySem.W.Frag) {α ρ : Type} (xs : α → List Dv) (f : α → W ρ) (eR : ρ → Im) : Sp := fun vs H Q _ => ∃ B a R, Same B H ∧ DVs K B H (xs a) vs ∧ (f a).wp R ∧
  ∀ r v B2 H2, R r → Stp B H B2 H2 → ImR K H B2 H2 (eR r) v → Q v H2
variable {α1 α2 α3 α4 α5 α6 : Type} {x1 : α1 → Dv} {x2 : α2 → Dv} {x3 : α3 → Dv} {x4 : α4 → Dv} {x5 : α5 → Dv} {x6 : α6 → Dv} {m1 : W α1} {m2 : W α2} {m3 : W α3} {m4 : W α4} {m5 : W α5} {m6 : W α6} {eR : ρ → Im}
def sp1 (K : PySem.W.Frag) (x1 : α1 → Dv) (f : α1 → W ρ) (eR : ρ → Im) : Sp := spN K (fun a : α1 => [x1 a]) f eR
def sp2 (K : PySem.W.Frag) (x1 : α1 → Dv) (x2 : α2 → Dv) (f : α1 → α2 → W ρ) (eR : ρ → Im) : Sp := spN K (fun a : α1 × α2 => [x1 a.1, x2 a.2]) (fun a => f a.1 a.2) eR
def sp3 (K : PySem.W.Frag) (x1 : α1 → Dv) (x2 : α2 → Dv) (x3 : α3 → Dv) (f : α1 → α2 → α3 → W ρ) (eR : ρ → Im) : Sp := spN K (fun a : α1 × α2 × α3 => [x1 a.1, x2 a.2.1, x3 a.2.2]) (fun a => f a.1 a.2.1 a.2.2) eR
def sp4 (K : PySem.W.Frag) (x1 : α1 → Dv) (x2 : α2 → Dv) (x3 : α3 → Dv) (x4 : α4 → Dv) (f : α1 → α2 → α3 → α4 → W ρ) (eR : ρ → Im) : Sp := spN K (fun a : α1 × α2 × α3 × α4 => [x1 a.1, x2 a.2.1, x3 a.2.2.1, x4 a.2.2.2]) (fun a => f a.1 a.2.1 a.2.2.1 a.2.2.2) eR
def sp5 (K : PySem.W.Frag) (x1 : α1 → Dv) (x2 : α2 → Dv) (x3 : α3 → Dv) (x4 : α4 → Dv) (x5 : α5 → Dv) (f : α1 → α2 → α3 → α4 → α5 → W ρ) (eR : ρ → Im) : Sp := spN K (fun a : α1 × α2 × α3 × α4 × α5 => [x1 a.1, x2 a.2.1, x3 a.2.2.1, x4 a.2.2.2.1, x5 a.2.2.2.2]) (fun a => f a.1 a.2.1 a.2.2.1 a.2.2.2.1 a.2.2.2.2) eR
/-- arguments, in their sequence -/
def EvXA (K : PySem.W.Frag) (ta : TA) (es : List Sl) (xs : α → List Dv) (m : W α) : Prop := ∀ (B0 H0 B : Hp) (σ : L2.St) (H : Hp), Ok K B0 H0 B es σ H → ∀ P : α → Prop, m.wp P → ∀ Q : List V → Hp → Prop,
  (∀ a vs B2 H2, P a → Stp B H B2 H2 → DVs K B2 H2 (xs a) vs → Q vs H2) → ta σ H Q
theorem xa_nil : EvXA K tNil es (fun _ : Unit => []) (.pure ()) := fun B0 H0 B σ H o P hP Q q => q () [] B H hP (Stp.refl o.bh) .nil
theorem xa_1 {t1 : TE} (h1 : EvX K t1 es (fun a => .v (x1 a)) m1) : EvXA K (tCons t1 tNil) es (fun a => [x1 a]) m1 := fun B0 H0 B σ H o P hP Q q =>
  h1 B0 H0 B σ H o P hP _ fun a v B1 H1 pa s1 d1 => q a [v] B1 H1 pa s1 (.cons d1 .nil)
theorem xa_2 {t1 t2 : TE} (h1 : EvX K t1 es (fun a => .v (x1 a)) m1) (h2 : EvX K t2 es (fun a => .v (x2 a)) m2) : EvXA K (tCons t1 (tCons t2 tNil)) es (fun a : α1 × α2 => [x1 a.1, x2 a.2]) (.bind m1 fun a => .bind m2 fun b => .pure (a, b)) := fun B0 H0 B σ H o P hP Q q =>
  h1 B0 H0 B σ H o _ hP _ fun a v B1 H1 pa s1 d1 => h2 B0 H0 B1 σ H1 (o.mono s1) _ pa _ fun b w B2 H2 pb s2 d2 => q (a, b) [v, w] B2 H2 pb (s1.trans s2) (.cons (DV.mono s2.bb s2.hh d1) (.cons d2 .nil))
theorem xa_3 {t1 t2 t3 : TE} (h1 : EvX K t1 es (fun a => .v (x1 a)) m1) (h2 : EvX K t2 es (fun a => .v (x2 a)) m2) (h3 : EvX K t3 es (fun a => .v (x3 a)) m3) : EvXA K (tCons t1 (tCons t2 (tCons t3 tNil))) es (fun a : α1 × α2 × α3 => [x1 a.1, x2 a.2.1, x3 a.2.2]) (.bind m1 fun a => .bind m2 fun b => .bind m3 fun c => .pure (a, b, c)) := fun B0 H0 B σ H o P hP Q q =>
  h1 B0 H0 B σ H o _ hP _ fun a v B1 H1 pa s1 d1 => h2 B0 H0 B1 σ H1 (o.mono s1) _ pa _ fun b w B2 H2 pb s2 d2 => h3 B0 H0 B2 σ H2 ((o.mono s1).mono s2) _ pb _ fun c x B3 H3 pc s3 d3 =>
    q (a, b, c) [v, w, x] B3 H3 pc (s1.trans (s2.trans s3)) (.cons (DV.mono (s2.bb.trans s3.bb) (s2.hh.trans s3.hh) d1) (.cons (DV.mono s3.bb s3.hh d2) (.cons d3 .nil)))
theorem xa_4 {t1 t2 t3 t4 : TE} (h1 : EvX K t1 es (fun a => .v (x1 a)) m1) (h2 : EvX K t2 es (fun a => .v (x2 a)) m2) (h3 : EvX K t3 es (fun a => .v (x3 a)) m3) (h4 : EvX K t4 es (fun a => .v (x4 a)) m4) :
    EvXA K (tCons t1 (tCons t2 (tCons t3 (tCons t4 tNil)))) es (fun a : α1 × α2 × α3 × α4 => [x1 a.1, x2 a.2.1, x3 a.2.2.1, x4 a.2.2.2]) (.bind m1 fun a => .bind m2 fun b => .bind m3 fun c => .bind m4 fun d => .pure (a, b, c, d)) := fun B0 H0 B σ H o P hP Q q =>
  h1 B0 H0 B σ H o _ hP _ fun a v B1 H1 pa s1 d1 => h2 B0 H0 B1 σ H1 (o.mono s1) _ pa _ fun b w B2 H2 pb s2 d2 => h3 B0 H0 B2 σ H2 ((o.mono s1).mono s2) _ pb _ fun c x B3 H3 pc s3 d3 => h4 B0 H0 B3 σ H3 (((o.mono s1).mono s2).mono s3) _ pc _ fun d y B4 H4 pd s4 d4 =>
    q (a, b, c, d) [v, w, x, y] B4 H4 pd (s1.trans (s2.trans (s3.trans s4))) (.cons (DV.mono (s2.bb.trans (s3.bb.trans s4.bb)) (s2.hh.trans (s3.hh.trans s4.hh)) d1) (.cons (DV.mono (s3.bb.trans s4.bb) (s3.hh.trans s4.hh) d2) (.cons (DV.mono s4.bb s4.hh d3) (.cons d4 .nil))))
theorem xa_5 {t1 t2 t3 t4 t5 : TE} (h1 : EvX K t1 es (fun a => .v (x1 a)) m1) (h2 : EvX K t2 es (fun a => .v (x2 a)) m2) (h3 : EvX K t3 es (fun a => .v (x3 a)) m3) (h4 : EvX K t4 es (fun a => .v (x4 a)) m4) (h5 : EvX K t5 es (fun a => .v (x5 a)) m5) :
    EvXA K (tCons t1 (tCons t2 (tCons t3 (tCons t4 (tCons t5 tNil))))) es (fun a : α1 × α2 × α3 × α4 × α5 => [x1 a.1, x2 a.2.1, x3 a.2.2.1, x4 a.2.2.2.1, x5 a.2.2.2.2]) (.bind m1 fun a => .bind m2 fun b => .bind m3 fun c => .bind m4 fun d => .bind m5 fun e => .pure (a, b, c, d, e)) := fun B0 H0 B σ H o P hP Q q =>
  h1 B0 H0 B σ H o _ hP _ fun a v B1 H1 pa s1 d1 => h2 B0 H0 B1 σ H1 (o.mono s1) _ pa _ fun b w B2 H2 pb s2 d2 => h3 B0 H0 B2 σ H2 ((o.mono s1).mono s2) _ pb _ fun c x B3 H3 pc s3 d3 => h4 B0 H0 B3 σ H3 (((o.mono s1).mono s2).mono s3) _ pc _ fun d y B4 H4 pd s4 d4 => h5 B0 H0 B4 σ H4 ((((o.mono s1).mono s2).mono s3).mono s4) _ pd _ fun e' z B5 H5 pe s5 d5 =>
    q (a, b, c, d, e') [v, w, x, y, z] B5 H5 pe (s1.trans (s2.trans (s3.trans (s4.trans s5)))) (.cons (DV.mono (s2.bb.trans (s3.bb.trans (s4.bb.trans s5.bb))) (s2.hh.trans (s3.hh.trans (s4.hh.trans s5.hh))) d1) (.cons (DV.mono (s3.bb.trans (s4.bb.trans s5.bb)) (s3.hh.trans (s4.hh.trans s5.hh)) d2) (.cons (DV.mono (s4.bb.trans s5.bb) (s4.hh.trans s5.hh) d3) (.cons (DV.mono s5.bb s5.hh d4) (.cons d5 .nil)))))
theorem x_callN {xs : α → List Dv} {f : α → W ρ} {t : TA} {E : XK} (h : EvXA K t es xs m) : EvX K (tCall (spN K xs f eR) [] E t) es eR (.bind m f) := fun B0 H0 B σ H o P hP Q q =>
  h B0 H0 B σ H o _ hP _ fun a vs B1 H1 pa s1 d1 => by
    show spN K xs f eR (vs ++ []) H1 Q E
    rw [List.append_nil]
    exact ⟨B1, a, P, s1.bh, d1, pa, fun r v B2 H2 pr s2 d2 => q r v B2 H2 pr (s1.trans s2) (d2.old s1.hh)⟩
theorem x_call1 {t1 : TE} {f : α1 → W ρ} {E : XK} (h1 : EvX K t1 es (fun a => .v (x1 a)) m1) : EvX K (tCall (sp1 K x1 f eR) [] E (tCons t1 tNil)) es eR (.bind m1 f) := x_callN (xa_1 h1)
theorem x_call2 {t1 t2 : TE} {f : α1 → α2 → W ρ} {E : XK} (h1 : EvX K t1 es (fun a => .v (x1 a)) m1) (h2 : EvX K t2 es (fun a => .v (x2 a)) m2) : EvX K (tCall (sp2 K x1 x2 f eR) [] E (tCons t1 (tCons t2 tNil))) es eR (.bind m1 fun a => .bind m2 fun b => f a b) := x_callN (f := fun a : α1 × α2 => f a.1 a.2) (xa_2 h1 h2)
theorem x_call3 {t1 t2 t3 : TE} {f : α1 → α2 → α3 → W ρ} {E : XK} (h1 : EvX K t1 es (fun a => .v (x1 a)) m1) (h2 : EvX K t2 es (fun a => .v (x2 a)) m2) (h3 : EvX K t3 es (fun a => .v (x3 a)) m3) :
    EvX K (tCall (sp3 K x1 x2 x3 f eR) [] E (tCons t1 (tCons t2 (tCons t3 tNil)))) es eR (.bind m1 fun a => .bind m2 fun b => .bind m3 fun c => f a b c) := x_callN (f := fun a : α1 × α2 × α3 => f a.1 a.2.1 a.2.2) (xa_3 h1 h2 h3)
theorem x_call4 {t1 t2 t3 t4 : TE} {f : α1 → α2 → α3 → α4 → W ρ} {E : XK} (h1 : EvX K t1 es (fun a => .v (x1 a)) m1) (h2 : EvX K t2 es (fun a => .v (x2 a)) m2) (h3 : EvX K t3 es (fun a => .v (x3 a)) m3) (h4 : EvX K t4 es (fun a => .v (x4 a)) m4) :
    EvX K (tCall (sp4 K x1 x2 x3 x4 f eR) [] E (tCons t1 (tCons t2 (tCons t3 (tCons t4 tNil))))) es eR (.bind m1 fun a => .bind m2 fun b => .bind m3 fun c => .bind m4 fun d => f a b c d) := x_callN (f := fun a : α1 × α2 × α3 × α4 => f a.1 a.2.1 a.2.2.1 a.2.2.2) (xa_4 h1 h2 h3 h4)
theorem x_call5 {t1 t2 t3 t4 t5 : TE} {f : α1 → α2 → α3 → α4 → α5 → W ρ} {E : XK} (h1 : EvX K t1 es (fun a => .v (x1 a)) m1) (h2 : EvX K t2 es (fun a => .v (x2 a)) m2) (h3 : EvX K t3 es (fun a => .v (x3 a)) m3) (h4 : EvX K t4 es (fun a => .v (x4 a)) m4) (h5 : EvX K t5 es (fun a => .v (x5 a)) m5) :
    EvX K (tCall (sp5 K x1 x2 x3 x4 x5 f eR) [] E (tCons t1 (tCons t2 (tCons t3 (tCons t4 (tCons t5 tNil)))))) es eR (.bind m1 fun a => .bind m2 fun b => .bind m3 fun c => .bind m4 fun d => .bind m5 fun e => f a b c d e) := x_callN (f := fun a : α1 × α2 × α3 × α4 × α5 => f a.1 a.2.1 a.2.2.1 a.2.2.2.1 a.2.2.2.2) (xa_5 h1 h2 h3 h4 h5)
/-- a call by keywords: xs, ys as they are told; c puts them in their places -/
theorem x_kcallN {xs : α → List Dv} {ys : β → List Dv} {zs : γ → List Dv} {f : γ → W ρ} {g : α → β → W ρ} {t tk : TA} {mb : W β} {n k : Nat} {is : List Nat} (c : α → β → γ) (h : EvXA K t es xs m) (h2 : EvXA K tk es ys mb) (l1 : ∀ a, (xs a).length = n) (l2 : ∀ a, (ys a).length = k)
    (hp : ∀ a b, pick is (xs a ++ ys b) = zs (c a b)) (hg : ∀ a b, f (c a b) = g a b) : EvX K (tCallP n k is (spN K zs f eR) t tk) es eR (.bind m fun a => .bind mb fun b => g a b) := fun B0 H0 B σ H o P hP Q q =>
  h B0 H0 B σ H o _ hP _ fun a vs B1 H1 pa s1 d1 => h2 B0 H0 B1 σ H1 (o.mono s1) _ pa _ fun b ws B2 H2 pb s2 d2 => by
    refine ⟨by rw [← dvs_len d1, l1], by rw [← dvs_len d2, l2], B2, c a b, P, s2.bh, ?_, by rw [hg]; exact pb, fun r v B3 H3 pr s3 d3 => q r v B3 H3 pr (s1.trans (s2.trans s3)) (d3.old (s1.hh.trans s2.hh))⟩
    rw [← hp]
    exact paired_pick (paired_append (d1.mono s2.bb s2.hh) d2) is
end
end HM
end
section
/-! W 4: statements, defs -/
namespace HM
open PySem PySem.Spec PyProof.Rows L2 RZ
def StIm : Im → Prop
  | .v x => Stay x
  | .l _ => True
theorem stV {α : Type} {e : α → PyData} (a : α) : StIm (eV e a) := trivial
theorem stL {α : Type} {e : α → PyData} (a : List α) : StIm (eN e a) := trivial
theorem stO {α : Type} {e : α → PyData} (a : Option (List α)) : StIm (eNO e a) := by cases a <;> trivial
theorem stP (a : Unit) : StIm (ePot a) := trivial
section
variable {K : PySem.W.Frag} {es es' : List Sl} {te ta tb tc : TE} {tt tu : TT} {t u w : TS} {p : Pst} {α β γ δ σ ρ τ : Type} {m : W α} {e : α → Im}
theorem ImR.mono {H B H1 B2 H2 : Hp} (s : Stp B H1 B2 H2) : ∀ {x : Im} {v : V}, ImR K H B H1 x v → ImR K H B2 H2 x v
  | .v _, _, h => DV.mono s.bb s.hh h
  | .l _, _, ⟨p, ws, e1, h0, hb, hp, ha⟩ => ⟨p, ws, e1, h0, s.fr p hb (by rw [hp]; exact fun z => nomatch z), s.hh _ _ hp, dpAllMono s.bb ha⟩
theorem imV_of {H B H1 : Hp} : ∀ {x : Im} {v : V}, StIm x → ImR K H B H1 x v → ImV K H B H1 x v
  | .v _, _, hs, h => ⟨hs, h⟩
  | .l _, _, _, h => h
theorem imvs_cons {H B1 H1 B2 H2 : Hp} {x : Im} {v : V} {ms : List Im} {vs : List V} (hs : StIm x) (e : Same H H1) (h : ImR K H B1 H1 x v) (s : Stp B1 H1 B2 H2) (d : ImVs K H1 B2 H2 ms vs) : ImVs K H B2 H2 (x :: ms) (v :: vs) := by
  refine .cons (imV_of hs (h.mono s)) ?_ (d.fresh e)
  rintro xs rfl k zs hk hv
  obtain ⟨p, ws, e1, h0, hb, hp, ha⟩ := h
  obtain ⟨r', e2, h1⟩ := d.at k zs hk
  rw [e2] at hv
  cases hv
  cases e1
  rw [hp] at h1
  cases h1
/-! several values -/
def EvXM (K : PySem.W.Frag) (ta : TA) (es : List Sl) (ms : α → List Im) (m : W α) : Prop := ∀ (B0 H0 B : Hp) (σ : L2.St) (H : Hp), Ok K B0 H0 B es σ H → ∀ P : α → Prop, m.wp P → ∀ Q : List V → Hp → Prop,
  (∀ a vs B2 H2, P a → Stp B H B2 H2 → ImVs K H B2 H2 (ms a) vs → Q vs H2) → ta σ H Q
theorem xm_nil : EvXM K tNil es (fun _ : Unit => []) (.pure ()) := fun B0 H0 B σ H o P hP Q q => q () [] B H hP (Stp.refl o.bh) .nil
theorem xm_cons {ms : β → List Im} {n : W β} {ts : TA} (hs : ∀ a, StIm (e a)) (h : EvX K te es e m) (ht : EvXM K ts es ms n) : EvXM K (tCons te ts) es (fun p : α × β => e p.1 :: ms p.2) (.bind m fun a => .bind n fun b => .pure (a, b)) := fun B0 H0 B σ H o P hP Q q =>
  h B0 H0 B σ H o _ hP _ fun a v B1 H1 pa s1 d1 => ht B0 H0 B1 σ H1 (o.mono s1) _ pa _ fun b vs B2 H2 pb s2 d2 => q (a, b) (v :: vs) B2 H2 pb (s1.trans s2) (imvs_cons (hs a) s1.hh d1 s2 d2)
theorem xm_2 {t1 t2 : TE} {e1 : α → Im} {e2 : β → Im} {m1 : W α} {m2 : W β} (s1 : ∀ a, StIm (e1 a)) (s2 : ∀ a, StIm (e2 a)) (h1 : EvX K t1 es e1 m1) (h2 : EvX K t2 es e2 m2) :
    EvXM K (tCons t1 (tCons t2 tNil)) es (fun p : α × β => [e1 p.1, e2 p.2]) (.bind m1 fun a => .bind m2 fun b => .pure (a, b)) := fun B0 H0 B σ H o P hP Q q =>
  xm_cons s1 h1 (xm_cons s2 h2 xm_nil) B0 H0 B σ H o (fun z => P (z.1, z.2.1)) hP Q fun z vs B2 H2 pz => q (z.1, z.2.1) vs B2 H2 pz
theorem xm_3 {t1 t2 t3 : TE} {e1 : α → Im} {e2 : β → Im} {e3 : γ → Im} {m1 : W α} {m2 : W β} {m3 : W γ} (s1 : ∀ a, StIm (e1 a)) (s2 : ∀ a, StIm (e2 a)) (s3 : ∀ a, StIm (e3 a)) (h1 : EvX K t1 es e1 m1) (h2 : EvX K t2 es e2 m2) (h3 : EvX K t3 es e3 m3) :
    EvXM K (tCons t1 (tCons t2 (tCons t3 tNil))) es (fun p : α × β × γ => [e1 p.1, e2 p.2.1, e3 p.2.2]) (.bind m1 fun a => .bind m2 fun b => .bind m3 fun c => .pure (a, b, c)) := fun B0 H0 B σ H o P hP Q q =>
  xm_cons s1 h1 (xm_cons s2 h2 (xm_cons s3 h3 xm_nil)) B0 H0 B σ H o (fun z => P (z.1, z.2.1, z.2.2.1)) hP Q fun z vs B2 H2 pz => q (z.1, z.2.1, z.2.2.1) vs B2 H2 pz
theorem xm_4 {t1 t2 t3 t4 : TE} {e1 : α → Im} {e2 : β → Im} {e3 : γ → Im} {e4 : δ → Im} {m1 : W α} {m2 : W β} {m3 : W γ} {m4 : W δ} (s1 : ∀ a, StIm (e1 a)) (s2 : ∀ a, StIm (e2 a)) (s3 : ∀ a, StIm (e3 a)) (s4 : ∀ a, StIm (e4 a)) (h1 : EvX K t1 es e1 m1) (h2 : EvX K t2 es e2 m2) (h3 : EvX K t3 es e3 m3) (h4 : EvX K t4 es e4 m4) :
    EvXM K (tCons t1 (tCons t2 (tCons t3 (tCons t4 tNil)))) es (fun p : α × β × γ × δ => [e1 p.1, e2 p.2.1, e3 p.2.2.1, e4 p.2.2.2]) (.bind m1 fun a => .bind m2 fun b => .bind m3 fun c => .bind m4 fun d => .pure (a, b, c, d)) := fun B0 H0 B σ H o P hP Q q =>
  xm_cons s1 h1 (xm_cons s2 h2 (xm_cons s3 h3 (xm_cons s4 h4 xm_nil))) B0 H0 B σ H o (fun z => P (z.1, z.2.1, z.2.2.1, z.2.2.2.1)) hP Q fun z vs B2 H2 pz => q (z.1, z.2.1, z.2.2.1, z.2.2.2.1) vs B2 H2 pz
/-! ### the ends of a block -/
variable {R : ρ → Prop}
theorem sw_last {m : W ρ} (h : SxW K (tSeq t tNext) es p R m) : SxW K t es p R m := h
theorem sw_end {r : ρ} (h : R r → p.nx es) : SxW K tNext es p R (.pure r) := fun hr => sx_next (h hr)
theorem sw_less {es' : List Sl} {m : W ρ} (l : Less es es') (h : SxW K t es' p R m) : SxW K t es p R m := fun hm => sx_less l (h hm)
theorem sw_shut {f : β → PyData} {xs : List β} {m : W ρ} (i : Nat) (es' : List Sl) (hi : es[i]? = some (.mu (xs.map f))) (he : es.set i (.im (.d (eL f xs))) = es') (h : SxW K t es' p R m) : SxW K t es p R m := fun hm => sx_shut i hi (by rw [show Sl.im (.d (.list (xs.map f))) = .im (.d (eL f xs)) from rfl, he]; exact h hm)
theorem sw_ret {g : α → ρ} (h : EvX K te es e m) (h1 : ∀ a z, e a = .v z → R (g a) → p.rt z) (h2 : ∀ a ys, e a = .l ys → R (g a) → p.rl ys) : SxW K (tRet te) es p R (.bind m fun a => .pure (g a)) := fun hm B0 H0 B σ H D o gg =>
  h B0 H0 B σ H o _ hm _ fun a v B1 H1 pa s1 d1 => by
    cases q : e a with
    | v z =>
      rw [q] at d1
      exact gg.rt z v B1 H1 (h1 a z q pa) (o.st.trans s1) d1
    | l ys =>
      rw [q] at d1
      obtain ⟨r, ws, e1, h0, hb, hp, ha⟩ := d1
      subst e1
      exact gg.rl ys r ws B1 H1 (h2 a ys q pa) (o.st.trans s1) (o.st.hh.free h0) hb hp ha
/-- an open list is returned -/
theorem sw_retMu {f : β → PyData} {xs : List β} {r : ρ} (i : Nat) (hi : es[i]? = some (.mu (xs.map f))) (h : R r → p.rl (xs.map f)) : SxW K (tRet (tVar i)) es p R (.pure r) := fun hm => sx_retMu hi (h hm)
/-! ### statements, with what follows -/
theorem sw_set {rest : α → W ρ} (i : Nat) (es1 : α → List Sl) (h : EvX K te es e m) (hs : ∀ a, StIm (e a)) (he : ∀ a, es.set i (e a).sl = es1 a) (k : ∀ a, SxW K u (es1 a) p R (rest a)) : SxW K (tSeq (tAsg te (gName i)) u) es p R (.bind m rest) := fun hm B0 H0 B σ H D o gg =>
  h B0 H0 B σ H o _ hm _ fun a v B1 H1 pa s1 d1 => by
    have gk := k a pa
    rw [← he a] at gk
    have hsa := hs a
    cases q : e a with
    | v z =>
      rw [q] at d1 gk hsa
      exact gk B0 H0 B1 _ H1 D ((o.mono s1).set i (d1.stay hsa)) (gg.mono s1.bb)
    | l ys =>
      rw [q] at d1 gk
      obtain ⟨r, ws, e1, h0, hb, hp, ha⟩ := d1
      subst e1
      refine gk B0 H0 B1 _ H1 D ((o.mono s1).setMu i (fun j ys e e2 => ?_) hb (o.st.hh.free h0) hp ha) (gg.mono s1.bb)
      obtain ⟨q', ws, e3, _, _, e4, _⟩ := o.mu e
      rw [e2] at e3
      cases e3
      rw [h0] at e4
      cases e4
theorem sw_drop {rest : α → W ρ} (h : EvX K te es e m) (k : ∀ a, SxW K u es p R (rest a)) : SxW K (tSeq (tDrop te) u) es p R (.bind m rest) := fun hm B0 H0 B σ H D o gg =>
  h B0 H0 B σ H o _ hm _ fun a v B1 H1 pa s1 d1 => k a pa B0 H0 B1 σ H1 D (o.mono s1) (gg.mono s1.bb)
theorem sw_par {ts : TA} {ms : α → List Im} {rest : α → W ρ} (i j : Nat) (es1 : α → List Sl) (h : EvXM K ts es ms m) (h2 : ∀ a, (ms a).length = 2) (he : ∀ a, setMs [i, j] (ms a) es = es1 a) (k : ∀ a, SxW K u (es1 a) p R (rest a)) : SxW K (tSeq (tPar i j ts) u) es p R (.bind m rest) := fun hm B0 H0 B σ H D o gg =>
  h B0 H0 B σ H o _ hm _ fun a vs B1 H1 pa s1 d1 => by
    have ok := ok_setMs (is := [i, j]) o.st.hh d1 (o.mono s1) (old_mu o d1)
    have gk := k a pa
    have l2 := h2 a
    rw [he a] at ok
    have lv := imVs_len d1
    match vs, lv with
    | [v, w], _ => exact ⟨v, w, rfl, gk B0 H0 B1 _ H1 D ok (gg.mono s1.bb)⟩
    | [], lv => exact absurd (l2.symm.trans lv) (by simp)
    | [_], lv => exact absurd (l2.symm.trans lv) (by simp)
    | _ :: _ :: _ :: _, lv => exact absurd (l2.symm.trans lv) (by simp)
theorem sw_par3 {ts : TA} {ms : α → List Im} {rest : α → W ρ} (i j l : Nat) (es1 : α → List Sl) (h : EvXM K ts es ms m) (h2 : ∀ a, (ms a).length = 3) (he : ∀ a, setMs [i, j, l] (ms a) es = es1 a) (k : ∀ a, SxW K u (es1 a) p R (rest a)) : SxW K (tSeq (tPar3 i j l ts) u) es p R (.bind m rest) := fun hm B0 H0 B σ H D o gg =>
  h B0 H0 B σ H o _ hm _ fun a vs B1 H1 pa s1 d1 => by
    have ok := ok_setMs (is := [i, j, l]) o.st.hh d1 (o.mono s1) (old_mu o d1)
    have gk := k a pa
    have l2 := h2 a
    rw [he a] at ok
    have lv := imVs_len d1
    match vs, lv with
    | [v, w, x], _ => exact ⟨v, w, x, rfl, gk B0 H0 B1 _ H1 D ok (gg.mono s1.bb)⟩
    | [], lv => exact absurd (l2.symm.trans lv) (by simp)
    | [_], lv => exact absurd (l2.symm.trans lv) (by simp)
    | [_, _], lv => exact absurd (l2.symm.trans lv) (by simp)
    | _ :: _ :: _ :: _ :: _, lv => exact absurd (l2.symm.trans lv) (by simp)
theorem sw_tup {ts : TA} {ms : α → List Im} {rest : α → W ρ} {n : Nat} (is : List Nat) (es1 : α → List Sl) (h : EvXM K ts es ms m) (hn : ∀ a, (ms a).length = n) (hl : is.length = n) (h2 : n ≤ 100) (he : ∀ a, setMs is (ms a) es = es1 a) (k : ∀ a, SxW K u (es1 a) p R (rest a)) : SxW K (tSeq (tAsg (tTup ts) (gTup K n (gNames is))) u) es p R (.bind m rest) := fun hm B0 H0 B σ H D o g =>
  h B0 H0 B σ H o _ hm _ fun a vs B1 H1 pa s1 d1 => by
    have lv := imVs_len d1
    have hna := hn a
    refine ⟨line_le (by omega), fun q hq => ⟨q, vs, rfl, SqT.of upd_same, by omega, names_run is vs σ _ _ (by omega) ?_⟩⟩
    have st := Stp.open (o := .tup vs) s1.bh hq
    have d2 : ImVs K H B1 (upd H1 q (.tup vs)) (ms a) vs := by
      have go : ∀ {ms : List Im} {vs' : List V}, ImVs K H B1 H1 ms vs' → ImVs K H B1 (upd H1 q (.tup vs)) ms vs' := fun {ms vs'} d => by
        induction d with
        | nil => exact .nil
        | @cons m v ms vs a n b ih =>
          refine .cons ?_ n ih
          cases m with
          | v x => exact ⟨a.1, DV.mono (Same.refl _) st.hh a.2⟩
          | l xs =>
            obtain ⟨r, ws, e1, h0, hb, hp, ha⟩ := a
            exact ⟨r, ws, e1, h0, hb, st.hh _ _ hp, ha⟩
      exact go d1
    have ok := ok_setMs (is := is) o.st.hh d2 ((o.mono s1).mono st) (old_mu o d2)
    rw [he a] at ok
    exact k a pa B0 H0 B1 _ _ D ok (g.mono s1.bb)
/-! targets -/
def TgP (K : PySem.W.Frag) (g : TG) (es : List Sl) (d : PyData) (m : W β) (es' : β → List Sl) : Prop := ∀ (B0 H0 B : Hp) (σ : L2.St) (H : Hp) (v : V), Ok K B0 H0 B es σ H → Dp K B v d → ∀ P : β → Prop, m.wp P → ∀ Q : L2.St → Hp → Prop,
  (∀ b σ' B' H', P b → Same B B' → Ok K B0 H0 B' (es' b) σ' H' → Q σ' H') → g v σ H Q
def TgsP (K : PySem.W.Frag) (g : TGs) (es : List Sl) (ds : List PyData) (m : W β) (es' : β → List Sl) : Prop := ∀ (B0 H0 B : Hp) (σ : L2.St) (H : Hp) (vs : List V), Ok K B0 H0 B es σ H → DpAll K B vs ds → ∀ P : β → Prop, m.wp P → ∀ Q : L2.St → Hp → Prop,
  (∀ b σ' B' H', P b → Same B B' → Ok K B0 H0 B' (es' b) σ' H' → Q σ' H') → g vs σ H Q
theorem tgp_name {d : PyData} (i : Nat) (es1 : List Sl) (he : es.set i (.im (.d d)) = es1) : TgP K (gName i) es d (.pure ()) (fun _ => es1) := fun B0 H0 B σ H v o r P hP Q q => by
  subst he
  exact q () _ B H hP (Same.refl _) (o.set i (x := .d d) r)
theorem tgp_sub {f : α → PyData} {xs : List α} {a : α} {mi : W Int} (i : Nat) (es1 : List α → List Sl) (hi : es[i]? = some (.mu (xs.map f))) (h : EvX K ta es (eV eI) mi) (he : ∀ ys : List α, es.set i (.mu (ys.map f)) = es1 ys) : TgP K (gSub (tVar i) ta rSetL) es (f a) (.bind mi fun k => .setAt xs k a) es1 := fun B0 H0 B σ H v o r P hP Q q => by
  obtain ⟨p, vs, e1, hb, h0, hp, ha⟩ := o.mu hi
  refine ⟨_, e1, h B0 H0 B σ H o _ hP _ fun k y B2 H2 ⟨⟨k0, k1⟩, pk⟩ s2 d2 => ?_⟩
  cases d2
  have o2 := o.mono s2
  obtain ⟨q', vs', e1', _, _, hp', ha'⟩ := o2.mu hi
  rw [e1] at e1'
  cases e1'
  have hl' := dpAll_len ha'
  rw [List.length_map] at hl'
  have ek : k = (k.toNat : Int) := by omega
  refine ⟨p, vs', k, k.toNat, rfl, rfl, hp', ?_, ?_⟩
  · have hl : k.toNat < vs'.length := by omega
    unfold ixN
    rw [if_pos k0, if_pos (by omega)]
  · have := o2.write hi e1 (dpAll_set (dpMono s2.bb r) k.toNat ha')
    rw [← List.map_set, he] at this
    exact q _ _ B2 _ pk s2.bb this
theorem tgsp_nil : TgsP K gNil es [] (.pure ()) (fun _ => es) := fun B0 H0 B σ H vs o d P hP Q q => by
  cases d
  exact ⟨rfl, q () σ B H hP (Same.refl _) o⟩
theorem tgsp_cons {g : TG} {gs : TGs} {d : PyData} {ds : List PyData} {m1 : W α} {m2 : α → W β} {es1 : α → List Sl} {es2 : α × β → List Sl} (h : TgP K g es d m1 es1) (hs : ∀ a, TgsP K gs (es1 a) ds (m2 a) (fun b => es2 (a, b))) : TgsP K (gCons g gs) es (d :: ds) (.bind m1 fun a => .bind (m2 a) fun b => .pure (a, b)) es2 := fun B0 H0 B σ H vs o da P hP Q q => by
  cases da with
  | cons a b => exact ⟨_, _, rfl, h B0 H0 B σ H _ o a _ hP _ fun x σ1 B1 H1 px s1 o1 => hs x B0 H0 B1 σ1 H1 _ o1 (dpAllMono s1 b) _ px _ fun y σ2 B2 H2 py s2 o2 => q (x, y) σ2 B2 H2 py (s1.trans s2) o2⟩
theorem tgsp_one {g : TG} {d : PyData} {m1 : W α} {es1 : α → List Sl} (h : TgP K g es d m1 es1) : TgsP K (gCons g gNil) es [d] m1 es1 := fun B0 H0 B σ H vs o da P hP Q q => by
  cases da with
  | cons a b =>
    cases b
    exact ⟨_, _, rfl, h B0 H0 B σ H _ o a _ hP _ fun x σ1 B1 H1 px s1 o1 => ⟨rfl, q x σ1 B1 H1 px s1 o1⟩⟩
theorem tgp_tup {g : TGs} {n : Nat} {ds : List PyData} {m : W β} {es1 : β → List Sl} (h : TgsP K g es ds m es1) (hn : ds.length = n) : TgP K (gTup K n g) es (.tuple ds) m es1 := fun B0 H0 B σ H v o d P hP Q q => by
  cases d with
  | tup hs ha => exact ⟨_, _, rfl, sameT o.bh hs, by rw [dpAll_len ha, hn], h B0 H0 B σ H _ o ha P hP Q q⟩
theorem sw_asgP {g : TG} {f : α → PyData} {mt : α → W β} {es1 : α → β → List Sl} {rest : α → β → W ρ} (h : EvX K te es (eV f) m) (ht : ∀ a, TgP K g es (f a) (mt a) (es1 a)) (k : ∀ a b, SxW K u (es1 a b) p R (rest a b)) : SxW K (tSeq (tAsg te g) u) es p R (.bind m fun a => .bind (mt a) fun b => rest a b) := fun hm B0 H0 B σ H D o gg =>
  h B0 H0 B σ H o _ hm _ fun a v B1 H1 pa s1 d1 => ht a B0 H0 B1 σ H1 v (o.mono s1) d1 _ pa _ fun b σ' B' H' pb s' o' => k a b pb B0 H0 B' σ' H' D o' (gg.mono (s1.bb.trans s'))
/-- target = value: names alone -/
theorem sw_asgT {g : TG} {f : α → PyData} {js : List Nat} {rest : α → W ρ} (es1 : α → List Sl) (h : EvX K te es (eV f) m) (ht : ∀ a, Tg K js g es (.d (f a)) (es1 a)) (k : ∀ a, SxW K u (es1 a) p R (rest a)) : SxW K (tSeq (tAsg te g) u) es p R (.bind m rest) := fun hm B0 H0 B σ H D o gg =>
  h B0 H0 B σ H o _ hm _ fun a v B1 H1 pa s1 d1 => ht a B0 H0 B1 σ H1 v (o.mono s1) d1 _ fun σ' o' _ _ => k a pa B0 H0 B1 σ' H1 D o' (gg.mono s1.bb)
theorem sw_setItem {f : α → PyData} {xs : List α} {mi : W Int} {rest : List α → W ρ} (i : Nat) (es1 : List α → List Sl) (hi : es[i]? = some (.mu (xs.map f))) (h : EvX K te es (eV f) m) (h2 : EvX K ta es (eV eI) mi) (he : ∀ ys : List α, es.set i (.mu (ys.map f)) = es1 ys) (k : ∀ ys, SxW K u (es1 ys) p R (rest ys)) :
    SxW K (tSeq (tAsg te (gSub (tVar i) ta rSetL)) u) es p R (.bind m fun a => .bind (.bind mi fun k => .setAt xs k a) rest) :=
  sw_asgP (es1 := fun _ => es1) h (fun a => tgp_sub i es1 hi h2 he) fun _ ys => k ys
/-! lists -/
theorem sw_app {f : α → PyData} {xs : List α} {rest : List α → W ρ} (i : Nat) (es1 : List α → List Sl) (hi : es[i]? = some (.mu (xs.map f))) (h : EvX K te es (eV f) m) (he : ∀ ys : List α, es.set i (.mu (ys.map f)) = es1 ys) (k : ∀ ys, SxW K u (es1 ys) p R (rest ys)) :
    SxW K (tSeq (tDrop (tBM K "list" rAppend (tVar i) (tCons te tNil))) u) es p R (.bind m fun a => .bind (.app xs a) rest) := fun hm B0 H0 B σ H D o g => by
  obtain ⟨q, vs, e1, hb, h0, hp, ha⟩ := o.mu hi
  refine ⟨_, e1, .inl ⟨rfl, _, SqL.of hp⟩, h B0 H0 B σ H o _ hm _ fun a v B1 H1 ⟨hl, pa⟩ s1 d1 => ?_⟩
  have o1 := o.mono s1
  obtain ⟨q', vs', e1', _, _, hp', ha'⟩ := o1.mu hi
  rw [e1] at e1'
  cases e1'
  have hl' := dpAll_len ha'
  rw [List.length_map] at hl'
  refine ⟨q, vs', v, rfl, rfl, hp', line_lt (by omega), ?_⟩
  have ok := o1.write hi e1 (dpAll_app ha' (.cons d1 .nil))
  rw [show xs.map f ++ [f a] = (xs ++ [a]).map f by simp, he] at ok
  exact k _ pa B0 H0 B1 σ _ D ok (g.mono s1.bb)
/-- a list that is not read any more takes some value -/
theorem sw_spoil {f : β → PyData} {xs : List β} {f' : α → PyData} {rest : W ρ} (i : Nat) (es1 : List Sl) (hi : es[i]? = some (.mu (xs.map f))) (h : EvX K te es (eV f') m) (he : es.set i .no = es1) (k : SxW K u es1 p R rest) :
    SxW K (tSeq (tDrop (tBM K "list" rAppend (tVar i) (tCons te tNil))) u) es p R (.bind m fun _ => .bind (.chk (xs.length < 8000000) ()) fun _ => rest) := fun hm B0 H0 B σ H D o g => by
  obtain ⟨q, vs, e1, hb, h0, hp, ha⟩ := o.mu hi
  refine ⟨_, e1, .inl ⟨rfl, _, SqL.of hp⟩, h B0 H0 B σ H o _ hm _ fun a v B1 H1 ⟨hl, pa⟩ s1 d1 => ?_⟩
  have o1 := o.mono s1
  obtain ⟨q', vs', e1', _, _, hp', ha'⟩ := o1.mu hi
  rw [e1] at e1'
  cases e1'
  have hl' := dpAll_len ha'
  rw [List.length_map] at hl'
  refine ⟨q, vs', v, rfl, rfl, hp', line_lt (by omega), ?_⟩
  have ok := (o1.write hi e1 (dpAll_app ha' (.cons d1 .nil))).wipe i (some (.ref q))
  have e3 : (es.set i (.mu (xs.map f ++ [f' a]))).set i .no = es1 := by rw [List.set_set, he]
  rw [e3] at ok
  have hlt : i < σ.length := by rw [← o.len]; exact (List.getElem?_eq_some_iff.mp hi).1
  have e4 : σ.set i (some (.ref q)) = σ := by
    apply List.ext_getElem?
    intro j
    by_cases z : i = j
    · subst z
      rw [List.getElem?_set_self hlt, e1]
    · rw [List.getElem?_set_ne z]
  rw [e4] at ok
  exact k pa B0 H0 B1 σ _ D ok (g.mono s1.bb)
theorem sw_ext {f : α → PyData} {xs : List α} {m : W (List α)} {rest : List α → W ρ} (i : Nat) (es1 : List α → List Sl) (hi : es[i]? = some (.mu (xs.map f))) (h : EvX K te es (eN f) m) (he : ∀ ys : List α, es.set i (.mu (ys.map f)) = es1 ys) (k : ∀ ys, SxW K u (es1 ys) p R (rest ys)) :
    SxW K (tSeq (tDrop (tBM K "list" rExtend (tVar i) (tCons te tNil))) u) es p R (.bind m fun a => .bind (.ext xs a) rest) := fun hm B0 H0 B σ H D o g => by
  obtain ⟨q, vs, e1, hb, h0, hp, ha⟩ := o.mu hi
  refine ⟨_, e1, .inl ⟨rfl, _, SqL.of hp⟩, h B0 H0 B σ H o _ hm _ fun ys v B1 H1 ⟨⟨hl, hl2⟩, pa⟩ s1 ⟨r, ws, ev, r0, rb, rp, ra⟩ => ?_⟩
  subst ev
  have o1 := o.mono s1
  obtain ⟨q', vs', e1', _, _, hp', ha'⟩ := o1.mu hi
  rw [e1] at e1'
  cases e1'
  have hl' := dpAll_len ha'
  have hl3 := dpAll_len ra
  rw [List.length_map] at hl' hl3
  refine ⟨q, r, vs', ws, rfl, rfl, hp', rp, line_le (by omega), ?_⟩
  have ok := o1.write hi e1 (dpAll_app ha' ra)
  rw [show xs.map f ++ ys.map f = (xs ++ ys).map f by simp, he] at ok
  exact k _ pa B0 H0 B1 σ _ D ok (g.mono s1.bb)
/-- x = left.pop() -/
theorem sw_pop {f : α → PyData} {xs : List α} {rest : α → List α → W ρ} (i j : Nat) (es1 : α → List α → List Sl) (hi : es[i]? = some (.mu (xs.map f))) (he : ∀ (a : α) (ys : List α), (es.set i (.mu (ys.map f))).set j (.im (.d (f a))) = es1 a ys) (k : ∀ a ys, SxW K u (es1 a ys) p R (rest a ys)) :
    SxW K (tSeq (tAsg (tBM0 K "list" rPop (tVar i)) (gName j)) u) es p R (.bind (.get xs.getLast?) fun a => rest a xs.dropLast) := fun ⟨a, ea, pa⟩ => by
  have hne : xs ≠ [] := fun z => by subst z; simp at ea
  have ex : xs = xs.dropLast ++ [a] := by
    have h1 := List.dropLast_concat_getLast hne
    rw [List.getLast?_eq_some_getLast hne] at ea
    rw [← Option.some.inj ea]
    exact h1.symm
  have hi2 : es[i]? = some (.mu (xs.dropLast.map f ++ [f a])) := by
    rw [hi]
    conv => lhs; rw [ex]
    simp
  refine sx_seqd (es' := es1 a xs.dropLast) (sx_popSet hi2 ?_) (k a _ pa)
  exact he a xs.dropLast
/-- x = left.pop(n) is not told; found.append(left.pop(n)) -/
theorem sw_popApp {f : α → PyData} {xs ys : List α} {mi : W Int} {rest : List α → List α → W ρ} (i j : Nat) (hij : i ≠ j) (es1 : List α → List α → List Sl) (hi : es[i]? = some (.mu (xs.map f))) (hj : es[j]? = some (.mu (ys.map f))) (h : EvX K te es (eV eI) mi)
    (he : ∀ as bs : List α, (es.set i (.mu (as.map f))).set j (.mu (bs.map f)) = es1 as bs) (k : ∀ as bs, SxW K u (es1 as bs) p R (rest as bs)) :
    SxW K (tSeq (tDrop (tBM K "list" rAppend (tVar j) (tCons (tBM K "list" rPopAt (tVar i) (tCons te tNil)) tNil))) u) es p R (.bind mi fun n => .bind (.chk (0 ≤ n ∧ n < xs.length ∧ xs.length < 1000000 ∧ ys.length < 1000000) n.toNat) fun n => .bind (.get xs[n]?) fun a => rest (xs.eraseIdx n) (ys ++ [a])) := fun hm B0 H0 B σ H D o g => by
  obtain ⟨a, vs, ea, ha0, hA0, hpa, haD⟩ := o.mu hj
  obtain ⟨b, ws, eb, hb0, hB0, hpb, hbD⟩ := o.mu hi
  refine ⟨.ref a, ea, tyL hpa, .ref b, eb, tyL hpb, h B0 H0 B σ H o _ hm _ fun n v B1 H1 ⟨⟨n0, n1, n2, n3⟩, x, ex, px⟩ s1 d1 => ?_⟩
  cases d1
  have o1 := o.mono s1
  have hpb1 := s1.hh _ _ hpb
  have hl := dpAll_len hbD
  have hl2 := dpAll_len haD
  rw [List.length_map] at hl hl2
  have hk : (xs.map f)[n.toNat]? = some (f x) := by rw [List.getElem?_map, ex]; rfl
  obtain ⟨v, hv, dv⟩ := dpAll_get hbD hk
  have si : seqIndex? n ws.length = some n.toNat := seqIndex_of n0 (by omega)
  refine ⟨b, ws, n, n.toNat, v, rfl, rfl, hpb1, by omega, by omega, si, hv, ?_⟩
  have hne : a ≠ b := (o.ne j i _ _ a b (Ne.symm hij) hj hi ea eb)
  have hpa1 : upd H1 b (.lst (ws.eraseIdx n.toNat)) a = some (.lst vs) := by rw [upd_ne hne]; exact s1.hh _ _ hpa
  have e1 : (xs.map f).eraseIdx n.toNat = (xs.eraseIdx n.toNat).map f := by
    rw [List.eraseIdx_eq_take_drop_succ, List.eraseIdx_eq_take_drop_succ, List.map_append, List.map_take, List.map_drop]
  have o2 := o1.write hi eb (dpAll_erase n.toNat (dpAllMono s1.bb hbD))
  refine ⟨a, vs, v, rfl, rfl, hpa1, line_lt (by omega), ?_⟩
  have ej2 : (es.set i (.mu ((xs.map f).eraseIdx n.toNat)))[j]? = some (.mu (ys.map f)) := by rw [List.getElem?_set_ne hij]; exact hj
  have o3 := o2.write ej2 ea (dpAll_app (dpAllMono s1.bb haD) (.cons (dpMono s1.bb dv) .nil))
  rw [e1, show ys.map f ++ [f x] = (ys ++ [x]).map f by simp, he] at o3
  exact k _ _ px B0 H0 B1 σ _ D o3 (g.mono s1.bb)
/-! ### if -/
theorem sw_if {mb : W Bool} {mA mB : W ρ} (h : EvXT K tt es mb) (hA : SxW K t es p R mA) (hB : SxW K u es p R mB) : SxW K (tIfS tt t u) es p R (.bind mb fun b => .ite b mA mB) := fun hm B0 H0 B σ H D o gg =>
  h B0 H0 B σ H o _ hm _ fun b B1 H1 pb s1 => by
    cases b with
    | true => rw [if_pos rfl]; exact hA pb B0 H0 B1 σ H1 D (o.mono s1) (gg.mono s1.bb)
    | false => rw [if_neg Bool.false_ne_true]; exact hB pb B0 H0 B1 σ H1 D (o.mono s1) (gg.mono s1.bb)
/-- if c: (leaves) .. and the rest -/
theorem sw_ifRet {mb : W Bool} {mA mB : W ρ} (h : EvXT K tt es mb) (hA : SxW K t es { p with nx := fun _ => False } R mA) (hB : SxW K u es p R mB) : SxW K (tSeq (tIfS tt t tNext) u) es p R (.bind mb fun b => .ite b mA mB) := fun hm B0 H0 B σ H D o gg =>
  h B0 H0 B σ H o _ hm _ fun b B1 H1 pb s1 => by
    have gm := gg.mono s1.bb
    cases b with
    | true => rw [if_pos rfl]; exact hA pb B0 H0 B1 σ H1 _ (o.mono s1) ⟨fun _ _ _ _ q => q.elim, gm.rt, gm.rl, gm.rx, gm.bk, gm.ct⟩
    | false => rw [if_neg Bool.false_ne_true]; exact hB pb B0 H0 B1 σ H1 D (o.mono s1) gm
/-- both ways go on -/
theorem sw_ifJ {mb : W Bool} {mA mB : W σ} {rest : σ → W ρ} (E : σ → List Sl) (h : EvXT K tt es mb) (hA : SxW K t es { p with nx := fun e => ∃ s, Less e (E s) ∧ (rest s).wp R } (fun s => (rest s).wp R) mA)
    (hB : SxW K u es { p with nx := fun e => ∃ s, Less e (E s) ∧ (rest s).wp R } (fun s => (rest s).wp R) mB) (k : ∀ s, SxW K w (E s) p R (rest s)) : SxW K (tSeq (tIfS tt t u) w) es p R (.bind mb fun b => .bind (.ite b mA mB) rest) := fun hm =>
  sx_seq (M := fun e => ∃ s, Less e (E s) ∧ (rest s).wp R) (fun B0 H0 B σ H D o gg =>
    h B0 H0 B σ H o _ hm _ fun b B1 H1 pb s1 => by
      cases b with
      | true => rw [if_pos rfl]; exact hA pb B0 H0 B1 σ H1 D (o.mono s1) (gg.mono s1.bb)
      | false => rw [if_neg Bool.false_ne_true]; exact hB pb B0 H0 B1 σ H1 D (o.mono s1) (gg.mono s1.bb)) fun e ⟨s, l, hs⟩ => sx_less l (k s hs)
/-- both ways may leave or go on -/
def W.thenF {σ ρ τ : Type} (m : W (W.Fl σ ρ)) (k : σ → W τ) (r : ρ → τ) : W τ := .bind m fun | .nx s => k s | .rt x => .pure (r x)
@[simp] theorem W.thenF_nx {σ ρ τ : Type} {s : σ} {k : σ → W τ} {r : ρ → τ} : W.thenF (.pure (.nx s)) k r = k s := rfl
@[simp] theorem W.thenF_rt {σ ρ τ : Type} {x : ρ} {k : σ → W τ} {r : ρ → τ} : W.thenF (.pure (.rt x)) k r = .pure (r x) := rfl
@[simp] theorem W.thenF_bind {σ ρ τ α : Type} {m : W α} {f : α → W (W.Fl σ ρ)} {k : σ → W τ} {r : ρ → τ} : W.thenF (.bind m f) k r = .bind m fun a => W.thenF (f a) k r := rfl
def W.flR {σ ρ τ : Type} (R : τ → Prop) (k : σ → W τ) (r : ρ → τ) : W.Fl σ ρ → Prop
  | .nx s => (k s).wp R
  | .rt x => R (r x)
theorem thenF_wp {m : W (W.Fl σ τ)} {k : σ → W ρ} {r : τ → ρ} (h : (W.thenF m k r).wp R) : m.wp (W.flR R k r) := m.mono _ _ (fun a ha => by cases a <;> exact ha) h
theorem sw_ifJF {mb : W Bool} {mA mB : W (W.Fl σ τ)} {rest : σ → W ρ} {r : τ → ρ} (E : σ → List Sl) (h : EvXT K tt es mb) (hA : SxW K t es { p with nx := fun e => ∃ s, Less e (E s) ∧ (rest s).wp R } (W.flR R rest r) mA)
    (hB : SxW K u es { p with nx := fun e => ∃ s, Less e (E s) ∧ (rest s).wp R } (W.flR R rest r) mB) (k : ∀ s, SxW K w (E s) p R (rest s)) : SxW K (tSeq (tIfS tt t u) w) es p R (.bind mb fun b => W.thenF (.ite b mA mB) rest r) := fun hm =>
  sx_seq (M := fun e => ∃ s, Less e (E s) ∧ (rest s).wp R) (fun B0 H0 B σ H D o gg =>
    h B0 H0 B σ H o _ hm _ fun b B1 H1 pb s1 => by
      have pb := thenF_wp pb
      cases b with
      | true => rw [if_pos rfl]; exact hA pb B0 H0 B1 σ H1 D (o.mono s1) (gg.mono s1.bb)
      | false => rw [if_neg Bool.false_ne_true]; exact hB pb B0 H0 B1 σ H1 D (o.mono s1) (gg.mono s1.bb)) fun e ⟨s, l, hs⟩ => sx_less l (k s hs)
/-- if x is None: (leaves) .. and the rest, where x is some a -/
theorem sw_ifN {f : α → PyData} {x : Option α} {mA : W ρ} {rest : α → W ρ} (i : Nat) (es1 : α → List Sl) (n : NoN f) (hi : es[i]? = some (.im (.d (eO f x)))) (he : ∀ a, es.set i (.im (.d (f a))) = es1 a) (hA : SxW K t es { p with nx := fun _ => False } R mA) (hB : ∀ a, SxW K u (es1 a) p R (rest a)) :
    SxW K (tSeq (tIfS (tTest (tOp rIsG (tVar i) (tC .non))) t tNext) u) es p R (.opt x mA rest) := fun hm => by
  have tst : EvT K (tTest (tOp rIsG (tVar i) (tC .non))) es (· = x.isNone) := (et_testd (ev_opd (ev_var hi) ev_non rv_isNon)).to (isNon_O n x)
  cases x with
  | none => exact sx_seq (M := fun _ => False) (sx_ifT tst (hA hm)) fun _ m => m.elim
  | some a =>
    refine sx_ifGo tst ?_
    have e1 : es.set i (.im (.d (f a))) = es := by
      apply List.ext_getElem?
      intro j
      by_cases z : i = j
      · subst z
        rw [List.getElem?_set_self (List.getElem?_eq_some_iff.mp hi).1, hi]
        rfl
      · rw [List.getElem?_set_ne z]
    rw [← e1, he]
    exact hB a hm
/-! ### for -/
theorem sw_forS {wi : TI} {g : TG} {js : List Nat} {eI' : α → PyData} {mI : W (List α)} {s0 : σ} {f : α → σ → W σ} {rest : σ → W ρ} (E : σ → List Sl) (es2 : α → σ → List Sl) (h : EvXI K wi es eI' mI) (l0 : Less es (E s0))
    (ht : ∀ x s, Tg K js g (E s) (.d (eI' x)) (es2 x s)) (hb : ∀ x s (Rb : σ → Prop), SxW K t (es2 x s) { p with nx := fun e => ∃ s', Less e (E s') ∧ Rb s', ct := fun e => ∃ s', Less e (E s') ∧ Rb s', bk := fun _ => False } Rb (f x s)) (k : ∀ s, SxW K u (E s) p R (rest s)) :
    SxW K (tSeq (tFor wi g t) u) es p R (.bind mI fun xs => .bind (.forS xs s0 f) rest) := fun hm => by
  refine sx_seq (M := fun e => ∃ s, e = E s ∧ (rest s).wp R) ?_ fun e ⟨s, es', hs⟩ => by subst es'; exact k s hs
  intro B0 H0 B σ H D o gg
  refine h B0 H0 B σ H o _ hm _ fun J xs B1 H1 px s1 wk => ?_
  have o1 := (o.mono s1).less l0
  refine ⟨fun i m σ H => m = xs.length - i ∧ i ≤ xs.length ∧ ∃ s B', Same B1 B' ∧ Ok K B0 H0 B' (E s) σ H ∧ (W.forS (xs.drop i) s f).wp fun s => (rest s).wp R, ⟨xs.length, by simp, Nat.zero_le _, s0, B1, Same.refl _, o1, by simpa using px⟩, ?_⟩
  rintro i m σ H ⟨rfl, hi, s, B', sb, o', hw⟩
  by_cases hlt : i < xs.length
  · rw [List.drop_eq_getElem_cons hlt] at hw
    refine .inr ⟨wk.go i H (sb.trans o'.bh) hlt, fun σ' H' => ∃ s B', Same B1 B' ∧ Ok K B0 H0 B' (E s) σ' H' ∧ (W.forS (xs.drop (i + 1)) s f).wp fun s => (rest s).wp R, fun σ' H' h' => ⟨xs.length - (i + 1), by omega, rfl, hlt, h'⟩, fun x H' y => ?_⟩
    obtain ⟨B2, s2, d2⟩ := wk.yld B' i H x H' sb o'.bh hlt y
    rw [getD_map xs eI' i hlt] at d2
    refine ht xs[i] s B0 H0 B2 σ H' x (o'.mono s2) d2 _ fun σ2 o2 _ _ => ?_
    refine hb xs[i] s _ hw B0 H0 B2 σ2 H' _ o2 ⟨fun e B3 σ3 H3 ⟨s', l, hs⟩ q o3 => ⟨s', B3, sb.trans (s2.bb.trans q), o3.less l, hs⟩, gg.rt, gg.rl, gg.rx, fun _ _ _ _ q => q.elim, fun e B3 σ3 H3 ⟨s', l, hs⟩ q o3 => ⟨s', B3, sb.trans (s2.bb.trans q), o3.less l, hs⟩⟩
  · have e : i = xs.length := by omega
    subst e
    rw [List.drop_of_length_le (Nat.le_refl _)] at hw
    exact .inl ⟨wk.stop H (sb.trans o'.bh), gg.nx _ B' σ H ⟨s, rfl, hw⟩ (s1.bb.trans sb) o'⟩
theorem forF_cons {x : α} {xs : List α} {s : σ} {f : α → σ → W (W.Fl σ τ)} : W.forF (x :: xs) s f = .bind (f x s) fun | .nx s' => W.forF xs s' f | .rt r => .pure (.rt r) := rfl
theorem sw_forF {wi : TI} {g : TG} {js : List Nat} {eI' : α → PyData} {mI : W (List α)} {s0 : σ} {f : α → σ → W (W.Fl σ τ)} {rest : σ → W ρ} {r : τ → ρ} (E : σ → List Sl) (es2 : α → σ → List Sl) (h : EvXI K wi es eI' mI) (l0 : Less es (E s0))
    (ht : ∀ x s, Tg K js g (E s) (.d (eI' x)) (es2 x s)) (hb : ∀ x s (Rb : W.Fl σ τ → Prop), (∀ y, Rb (.rt y) → R (r y)) → SxW K t (es2 x s) { p with nx := fun e => ∃ s', Less e (E s') ∧ Rb (.nx s'), ct := fun e => ∃ s', Less e (E s') ∧ Rb (.nx s'), bk := fun _ => False } Rb (f x s)) (k : ∀ s, SxW K u (E s) p R (rest s)) :
    SxW K (tSeq (tFor wi g t) u) es p R (.bind mI fun xs => W.thenF (.forF xs s0 f) rest r) := fun hm => by
  refine sx_seq (M := fun e => ∃ s, e = E s ∧ (rest s).wp R) ?_ fun e ⟨s, es', hs⟩ => by subst es'; exact k s hs
  intro B0 H0 B σ H D o gg
  refine h B0 H0 B σ H o _ hm _ fun J xs B1 H1 px s1 wk => ?_
  have px := thenF_wp px
  have o1 := (o.mono s1).less l0
  refine ⟨fun i m σ H => m = xs.length - i ∧ i ≤ xs.length ∧ ∃ s B', Same B1 B' ∧ Ok K B0 H0 B' (E s) σ H ∧ (W.forF (xs.drop i) s f).wp (W.flR R rest r), ⟨xs.length, by simp, Nat.zero_le _, s0, B1, Same.refl _, o1, by simpa using px⟩, ?_⟩
  rintro i m σ H ⟨rfl, hi, s, B', sb, o', hw⟩
  by_cases hlt : i < xs.length
  · rw [List.drop_eq_getElem_cons hlt, forF_cons] at hw
    refine .inr ⟨wk.go i H (sb.trans o'.bh) hlt, fun σ' H' => ∃ s B', Same B1 B' ∧ Ok K B0 H0 B' (E s) σ' H' ∧ (W.forF (xs.drop (i + 1)) s f).wp (W.flR R rest r), fun σ' H' h' => ⟨xs.length - (i + 1), by omega, rfl, hlt, h'⟩, fun x H' y => ?_⟩
    obtain ⟨B2, s2, d2⟩ := wk.yld B' i H x H' sb o'.bh hlt y
    rw [getD_map xs eI' i hlt] at d2
    refine ht xs[i] s B0 H0 B2 σ H' x (o'.mono s2) d2 _ fun σ2 o2 _ _ => ?_
    exact hb xs[i] s _ (fun y hy => hy) hw B0 H0 B2 σ2 H' _ o2 ⟨fun e B3 σ3 H3 ⟨s', l, hs⟩ q o3 => ⟨s', B3, sb.trans (s2.bb.trans q), o3.less l, hs⟩, gg.rt, gg.rl, gg.rx, fun _ _ _ _ q => q.elim, fun e B3 σ3 H3 ⟨s', l, hs⟩ q o3 => ⟨s', B3, sb.trans (s2.bb.trans q), o3.less l, hs⟩⟩
  · have e : i = xs.length := by omega
    subst e
    rw [List.drop_of_length_le (Nat.le_refl _)] at hw
    exact .inl ⟨wk.stop H (sb.trans o'.bh), gg.nx _ B' σ H ⟨s, rfl, hw⟩ (s1.bb.trans sb) o'⟩
/-! ### while -/
theorem sw_while {s0 : σ} {c : σ → W Bool} {f : σ → W σ} {rest : σ → W ρ} (E : σ → List Sl) (l0 : Less es (E s0)) (hc : ∀ s, EvXT K tt (E s) (c s))
    (hb : ∀ s (Rb : σ → Prop), SxW K t (E s) { p with nx := fun e => ∃ s', Less e (E s') ∧ Rb s', ct := fun e => ∃ s', Less e (E s') ∧ Rb s', bk := fun _ => False } Rb (f s)) (k : ∀ s, SxW K u (E s) p R (rest s)) :
    SxW K (tSeq (tWhile tt t) u) es p R (.bind (.whileS s0 c f) rest) := fun ⟨n, hm⟩ => by
  refine sx_seq (M := fun e => ∃ s, e = E s ∧ (rest s).wp R) ?_ fun e ⟨s, es', hs⟩ => by subst es'; exact k s hs
  intro B0 H0 B σ H D o gg
  refine ⟨fun m σ H => ∃ s B', Same B B' ∧ Ok K B0 H0 B' (E s) σ H ∧ (W.whileN m s c f).wp fun s => (rest s).wp R, ⟨n, s0, B, Same.refl _, o.less l0, hm⟩, ?_⟩
  rintro m σ H ⟨s, B', sb, o', hw⟩
  cases m with
  | zero => exact hw.elim
  | succ m =>
    refine hc s B0 H0 B' σ H o' _ hw _ fun b B1 H1 pb s1 => ?_
    have o1 := o'.mono s1
    cases b with
    | true =>
      rw [if_pos rfl]
      refine ⟨fun σ' H' => ∃ s B', Same B B' ∧ Ok K B0 H0 B' (E s) σ' H' ∧ (W.whileN m s c f).wp fun s => (rest s).wp R, fun σ' H' h' => ⟨m, by omega, h'⟩, ?_⟩
      exact hb s _ pb B0 H0 B1 σ H1 _ o1 ⟨fun e B3 σ3 H3 ⟨s', l, hs⟩ q o3 => ⟨s', B3, sb.trans (s1.bb.trans q), o3.less l, hs⟩, gg.rt, gg.rl, gg.rx, fun _ _ _ _ q => q.elim, fun e B3 σ3 H3 ⟨s', l, hs⟩ q o3 => ⟨s', B3, sb.trans (s1.bb.trans q), o3.less l, hs⟩⟩
    | false =>
      rw [if_neg Bool.false_ne_true]
      exact gg.nx _ B1 σ H1 ⟨s, rfl, pb⟩ (sb.trans s1.bb) o1
theorem sw_whileF {s0 : σ} {c : σ → W Bool} {f : σ → W (W.Fl σ τ)} {rest : σ → W ρ} {r : τ → ρ} (E : σ → List Sl) (l0 : Less es (E s0)) (hc : ∀ s, EvXT K tt (E s) (c s))
    (hb : ∀ s (Rb : W.Fl σ τ → Prop), (∀ y, Rb (.rt y) → R (r y)) → SxW K t (E s) { p with nx := fun e => ∃ s', Less e (E s') ∧ Rb (.nx s'), ct := fun e => ∃ s', Less e (E s') ∧ Rb (.nx s'), bk := fun _ => False } Rb (f s)) (k : ∀ s, SxW K u (E s) p R (rest s)) :
    SxW K (tSeq (tWhile tt t) u) es p R (W.thenF (.whileF s0 c f) rest r) := fun hm => by
  obtain ⟨n, hm⟩ := thenF_wp hm
  refine sx_seq (M := fun e => ∃ s, e = E s ∧ (rest s).wp R) ?_ fun e ⟨s, es', hs⟩ => by subst es'; exact k s hs
  intro B0 H0 B σ H D o gg
  refine ⟨fun m σ H => ∃ s B', Same B B' ∧ Ok K B0 H0 B' (E s) σ H ∧ (W.whileFN m s c f).wp (W.flR R rest r), ⟨n, s0, B, Same.refl _, o.less l0, hm⟩, ?_⟩
  rintro m σ H ⟨s, B', sb, o', hw⟩
  cases m with
  | zero => exact hw.elim
  | succ m =>
    refine hc s B0 H0 B' σ H o' _ hw _ fun b B1 H1 pb s1 => ?_
    have o1 := o'.mono s1
    cases b with
    | true =>
      rw [if_pos rfl]
      refine ⟨fun σ' H' => ∃ s B', Same B B' ∧ Ok K B0 H0 B' (E s) σ' H' ∧ (W.whileFN m s c f).wp (W.flR R rest r), fun σ' H' h' => ⟨m, by omega, h'⟩, ?_⟩
      exact hb s _ (fun y hy => hy) pb B0 H0 B1 σ H1 _ o1 ⟨fun e B3 σ3 H3 ⟨s', l, hs⟩ q o3 => ⟨s', B3, sb.trans (s1.bb.trans q), o3.less l, hs⟩, gg.rt, gg.rl, gg.rx, fun _ _ _ _ q => q.elim, fun e B3 σ3 H3 ⟨s', l, hs⟩ q o3 => ⟨s', B3, sb.trans (s1.bb.trans q), o3.less l, hs⟩⟩
    | false =>
      rw [if_neg Bool.false_ne_true]
      exact gg.nx _ B1 σ H1 ⟨s, rfl, pb⟩ (sb.trans s1.bb) o1
/-- never reached -/
theorem sw_never {m : W ρ} (h : ∀ P, ¬ m.wp P) : SxW K t es p R m := fun hm => (h _ hm).elim
end
/-! ### defs -/
def pR {ρ : Type} (eR : ρ → Im) (R : ρ → Prop) : Pst := { nx := fun _ => ∃ r, eR r = .v (.d .none) ∧ R r, rt := fun z => ∃ r, eR r = .v z ∧ R r, rl := fun ys => ∃ r, eR r = .l ys ∧ R r }
section
variable {Pg : Program} {w : World} {K : PySem.W.Frag} {mg : Str → Option Value} {base : Heap} {α ρ α1 α2 α3 α4 α5 : Type} {x1 : α1 → Dv} {x2 : α2 → Dv} {x3 : α3 → Dv} {x4 : α4 → Dv} {x5 : α5 → Dv} {eR : ρ → Im}
theorem body_N {t : TS} {N : List Str} {xs : α → List Dv} {f : α → W ρ} (h : ∀ a R, SxW K t (startS N (xs a)) (pR eR R) R (f a)) (vs : List V) (H : Hp) (Q : VK) (E : XK) (hs : spN K xs f eR vs H Q E) : t { nx := fun _ H' => Q .non H', rt := Q } (L2.start N vs) H := by
  obtain ⟨B, a, R, sb, dv, hp, q⟩ := hs
  exact h a R hp B H B (L2.start N vs) H _ (ok_start sb dv) ⟨fun es B1 σ H1 ⟨r, er, hr⟩ _ o => q r _ B1 H1 hr o.st (by rw [er]; exact Dp.non), fun z v B1 H1 ⟨r, er, hr⟩ s d => q r v B1 H1 hr s (by rw [er]; exact d),
    fun ys p ws B1 H1 ⟨r, er, hr⟩ s h0 hb hp ha => q r _ B1 H1 hr s (by rw [er]; exact ⟨p, ws, rfl, h0, hb, hp, ha⟩), fun _ _ _ _ _ _ m => m.elim, fun _ _ _ _ m => m.elim, fun _ _ _ _ m => m.elim⟩
theorem len_N {xs : α → List Dv} {f : α → W ρ} {n : Nat} (h : ∀ a, (xs a).length = n) (vs : List V) (H : Hp) (Q : VK) (E : XK) (hs : spN K xs f eR vs H Q E) : vs.length = n := by
  obtain ⟨B, a, R, sb, dv, hp, q⟩ := hs
  rw [← dvs_len dv, h]
theorem fnN {x qual : Str} {st : Stmt} {fa : Addr} {fd : FuncData} {N ps : List Str} {k : Nat} {xs : α → List Dv} {f : α → W ρ} (F : Fun K x qual st fa fd) (S : FnScope N ps (defScope st)) (len : ∀ a, (xs a).length = ps.length)
    (hb : ∀ (cdv : Value) (A : Around) (outer : List Env) (s : Shared) (H : Hp) (E : XK), Room k (A.deeper (envOfC qual (defScope st) s.heap.objs.size fa cdv)) → A.guards = some [] →
      ∃ t, PSs (cxOf CX0 Pg w K mg base N qual (defScope st) fa cdv A outer s H E).nox (defBody st) t ∧ ∀ a R, SxW K t (startS N (xs a)) (pR eR R) R (f a)) :
    FnG Pg w K mg base (k + 1) fa fd ps (spN K xs f eR) :=
  FnG.made F S (len_N len) fun cdv A outer s H vs Q E hr hg hs => by
    obtain ⟨t, h1, h2⟩ := hb cdv A outer s H E hr hg
    exact ⟨t, h1, body_N h2 vs H Q E hs⟩
theorem FnG.imp {f : Addr} {fd : FuncData} {ps : List Str} {k : Nat} {sp sp' : Sp} (F : FnG Pg w K mg base k f fd ps sp) (h : ∀ vs H Q E, sp' vs H Q E → sp vs H Q E) : FnG Pg w K mg base k f fd ps sp' :=
  ⟨fun vs H Q E q => F.ln vs H Q E (h _ _ _ _ q), fun A outer s H args us vs Q E hr hg he hb hv hs => F.go A outer s H args us vs Q E hr hg he hb hv (h _ _ _ _ hs)⟩
/-- _law_draw -/
theorem fgDraw {f : Addr} {fd : FuncData} {ps : List Str} {k : Nat} (F : FnOk Pg w K mg base CX0 k f fd ps (spG K DrawPre DrawPost)) : FnG Pg w K mg base k f fd ps (sp2 K vP (vD eI) (fun _ n => W.draw n) (eV eI)) :=
  (FnG.of F).imp fun vs H Q E ⟨B, a, R, sb, dv, ⟨⟨h1, h2⟩, h3⟩, q⟩ => ⟨B, _, sb, dv, ⟨a.2, rfl, h1, h2⟩, fun z u B2 H2 hz st d => by
    obtain ⟨x, ex, x0, x1⟩ := hz a.2 rfl
    subst ex
    exact q x u B2 H2 (h3 x x0 x1) st d⟩
/-- a def that gives a new list of two ints gives a pot -/
theorem FnG.potNew {f : Addr} {fd : FuncData} {ps : List Str} {k : Nat} {sp sp' : Sp} (F : FnG Pg w K mg base k f fd ps sp)
    (h : ∀ vs H Q E, sp' vs H Q E → sp vs H (fun u H2 => ∃ p a b, u = .ref p ∧ PotOk a b ∧ H2 p = some (.lst [.int a, .int b]) ∧ Q u (upd H2 p (.ext (PotF p)))) E) :
    FnG Pg w K mg base k f fd ps sp' where
  ln := fun vs H Q E q => F.ln _ _ _ _ (h vs H Q E q)
  go := fun A outer s H args us vs Q E hr hg he hb hv hs => by
    refine codeAny_mono (F.go A outer s _ args us vs _ E hr hg he hb hv (h vs H Q E hs)) fun r s' hq => ?_
    match r, hq with
    | .ok (.ret u), ⟨v, H', os, bare, un, hok, rv, p, a', b', ev, ok', hp', q'⟩ =>
      have ne' : ∀ c, H' c = none → c ≠ p := fun c z y => by rw [y, hp'] at z; cases z
      refine ⟨v, _, os, bare, ⟨un.keep, un.slot, fun c o e n x => ?_, un.there, fun c xs e => ?_, fun c o u e => ?_, fun c ps e => ?_⟩, hok.write (by rw [hp']; trivial) (.inl rfl) (fun _ _ _ z => z) ?_ (potIn (hok p _ hp') ok'), rv, q'⟩
      · have := un.free c o e n x
        rw [upd_ne (ne' c this)]
        exact this
      · have := un.tups c xs e
        rw [upd_ne (fun z => by rw [z, hp'] at this; cases this)]
        exact this
      · have := un.frzs c o u e
        rw [upd_ne (fun z => by rw [z, hp'] at this; cases this)]
        exact this
      · obtain ⟨m, this⟩ := un.tbls c ps e
        rw [upd_ne (fun z => by rw [z, hp'] at this; cases this)]
        exact ⟨m, this⟩
      · obtain ⟨_, its, n, _, e⟩ := hok p _ hp'
        exact ⟨_, e⟩
/-- a pot's two numbers -/
def W.pot (ys : List Int) : W Unit := .chk (∃ a b, ys = [a, b] ∧ PotOk a b) ()
theorem fgPot {f : Addr} {fd : FuncData} {ps : List Str} {k : Nat} {xs : α → List Dv} {g : α → W (List Int)} (F : FnG Pg w K mg base k f fd ps (spN K xs g (eN eI))) : FnG Pg w K mg base k f fd ps (spN K xs (fun a => .bind (g a) W.pot) ePot) := by
  refine FnG.potNew F ?_
  rintro vs H Q E ⟨B, a, R, sb, dv, hp, q⟩
  refine ⟨B, a, _, sb, dv, hp, ?_⟩
  rintro ys v B1 H1 ⟨⟨x, y, ey, ok⟩, hR⟩ st ⟨p, ws, ev, h0, hb, hp2, ha⟩
  subst ev
  subst ey
  have ha := dpAll_ints ha
  subst ha
  refine ⟨p, x, y, rfl, ok, hp2, q () _ (upd B1 p (.ext (PotF p))) _ hR ⟨st.bb.trans (same_upd hb), fun x o e => ?_, fun x o e => ?_, fun x h1 h2 => ?_⟩ ⟨p, rfl, upd_same⟩⟩
  · rw [upd_ne (ne_of_none e h0)]
    exact st.hh _ _ e
  · by_cases z : x = p
    · subst z
      rw [upd_same] at e ⊢
      exact e
    · rw [upd_ne z] at e ⊢
      exact st.bh _ _ e
  · rw [upd_ne (fun z => h2 (by rw [z]; exact h0))]
    exact st.fr x h1 h2
end
end HM
end
section
/-! W 5: more kinds, sets of ints, sorted by reverse, ranges as lists -/
namespace HM
open PySem PySem.Spec PyProof.Rows L2 RZ
namespace W
variable {α β γ σ ρ : Type}
def sortR (b : Bool) (xs : List Int) : List Int := if b then (sortL xs).reverse else sortL xs
def nub : List Int → List Int
  | [] => []
  | x :: xs => if x ∈ xs then nub xs else x :: nub xs
/-- sorted(set(xs)) -/
def setL (xs : List Int) : List Int := sortL (nub xs)
end W
section
variable {α β γ δ ε : Type}
theorem nn_word {w : Str} : NoN (eW w) := fun a => by simp [PyData.eqv]
theorem ok_word {w : Str} : OrK (eW w) W.ltP0 := ⟨fun a b => by simp [PySem.W.alike], fun a b => by simp [PySem.W.dataLt, PyProof.Rows.lex_irrefl, W.ltP0]⟩
theorem lt_irr {e : α → PyData} {lt : α → α → Bool} (h : OrK e lt) (b : α) : lt b b = false := by
  rw [← h.lt]
  simp [PySem.W.dataLt, PyProof.Rows.lex_irrefl]
theorem dataLt_tcons {x y : PyData} (h : PySem.W.alike x y = true) (xs ys : List PyData) : PySem.W.dataLt (.tuple (x :: xs)) (.tuple (y :: ys)) = if PyData.eqv x y = true then PySem.W.dataLt (.tuple xs) (.tuple ys) else PySem.W.dataLt x y := by
  have := PySem.W.dataLt_cons h xs ys
  simp only [PySem.W.dataLt, PySem.W.keyToks] at this ⊢
  exact this
theorem ok_P3 [DecidableEq α] [DecidableEq β] [DecidableEq γ] {e : α → PyData} {f : β → PyData} {g : γ → PyData} {l : α → α → Bool} {k : β → β → Bool} {m : γ → γ → Bool} (h : OrK e l) (h2 : OrK f k) (h3 : OrK g m) (q : EqK e) (q2 : EqK f) (q3 : EqK g) (ir : ∀ b, m b b = false) : OrK (eP3 e f g) (W.ltP l (W.ltP k m)) :=
  ⟨fun a b => by simp [PySem.W.alike, PySem.W.alikeAll, h.al, h2.al, h3.al], fun a b => by
    rw [dataLt_tcons (h.al _ _), q.eq, h.lt]
    have := (ok_P2 h2 h3 q2 q3 ir).lt a.2 b.2
    rw [show PyData.tuple [f a.2.1, g a.2.2] = eP2 f g a.2 from rfl, show PyData.tuple [f b.2.1, g b.2.2] = eP2 f g b.2 from rfl, this]
    unfold W.ltP
    by_cases e1 : a.1 = b.1 <;> simp [e1]⟩
theorem ok_P4 [DecidableEq α] [DecidableEq β] [DecidableEq γ] [DecidableEq δ] {e : α → PyData} {f : β → PyData} {g : γ → PyData} {d : δ → PyData} {l : α → α → Bool} {k : β → β → Bool} {m : γ → γ → Bool} {n : δ → δ → Bool} (h : OrK e l) (h2 : OrK f k) (h3 : OrK g m) (h4 : OrK d n) (q : EqK e) (q2 : EqK f) (q3 : EqK g) (q4 : EqK d) (ir : ∀ b, n b b = false) : OrK (eP4 e f g d) (W.ltP l (W.ltP k (W.ltP m n))) :=
  ⟨fun a b => by simp [PySem.W.alike, PySem.W.alikeAll, h.al, h2.al, h3.al, h4.al], fun a b => by
    rw [dataLt_tcons (h.al _ _), q.eq, h.lt]
    have := (ok_P3 h2 h3 h4 q2 q3 q4 ir).lt a.2 b.2
    rw [show PyData.tuple [f a.2.1, g a.2.2.1, d a.2.2.2] = eP3 f g d a.2 from rfl, show PyData.tuple [f b.2.1, g b.2.2.1, d b.2.2.2] = eP3 f g d b.2 from rfl, this]
    unfold W.ltP
    by_cases e1 : a.1 = b.1 <;> simp [e1]⟩
abbrev eP5 (e : α → PyData) (f : β → PyData) (g : γ → PyData) (h : δ → PyData) (i : ε → PyData) : α × β × γ × δ × ε → PyData := fun p => .tuple [e p.1, f p.2.1, g p.2.2.1, h p.2.2.2.1, i p.2.2.2.2]
end
section
variable {K : PySem.W.Frag} {es es' : List Sl} {te ta tb tc : TE} {tt tu : TT} {t u w : TS} {p : Pst} {α β γ δ σ ρ τ : Type} {m : W α} {e : α → Im}
/-! isinstance(x, (list, tuple)) -/
theorem x_isSeq {f : α → PyData} (h : EvX K te es (eV f) m) (hd : ∀ a, ∃ ds, f a = .list ds ∨ f a = .tuple ds) : EvX K (tCB (rIsiT K) (tCons te (tCons (tTup (tCons (tC (.ty "list")) (tCons (tC (.ty "tuple")) tNil))) tNil))) es (eV eB) (.bind m fun _ => .pure true) := fun B0 H0 B σ H o P hP Q q =>
  h B0 H0 B σ H o _ hP _ fun a v B1 H1 pa s1 d1 => by
    refine ⟨line_le (by show 2 ≤ 16777216; omega), fun r hr => ?_⟩
    obtain ⟨ds, hds⟩ := hd a
    have st : Stp B1 H1 (upd B1 r (.tup [.ty "list", .ty "tuple"])) (upd H1 r (.tup [.ty "list", .ty "tuple"])) := Stp.new s1.bh hr
    exact rc_isSeq (.inl rfl) hds (upd B1 r (.tup [.ty "list", .ty "tuple"])) _ _ st.bh (.cons (DV.mono st.bb st.hh d1) (.cons ⟨r, rfl, upd_same⟩ .nil)) Q fun z u B2 H2 ez s2 d2 => q true u B2 H2 pa (s1.trans (st.trans s2)) (by subst ez; exact d2)
/-! sorted(xs, reverse=b) -/
theorem sortR_uniq {b : Bool} {ms ns : List Int} (p : ms.Perm ns) (o : OrdB b ms) : ms = W.sortR b ns := by
  unfold OrdB at o
  unfold W.sortR
  cases b with
  | false => exact sortI_uniq p o
  | true =>
    rw [if_pos rfl] at o
    rw [if_pos rfl, ← sortI_uniq ((List.reverse_perm ms).trans p) (List.pairwise_reverse.mpr o), List.reverse_reverse]
theorem x_sortR {b : Bool} {f : α → PyData} (g : α → List Int) (h : EvX K te es (eV f) m) (hd : ∀ a, IsD (.d (f a)) (g a)) : EvX K (tCKw (rSortedR K b [.bl b]) (tCons te tNil) (tCons (tC (.bl b)) tNil)) es (eN eI) (.bind m fun a => .pure (W.sortR b (g a))) := fun B0 H0 B σ H o P hP Q q =>
  h B0 H0 B σ H o _ hP _ fun a v B1 H1 pa s1 d1 =>
    ⟨v, g a, rfl, rfl, (hd a).is s1.bh d1, fun ms p pm od np => q _ _ B1 _ pa (s1.trans (Stp.open s1.bh np)) (by
      rw [← sortR_uniq pm od]
      exact ⟨p, _, rfl, s1.hh.free np, s1.bh.free np, upd_same, dpAll_of_ints ms⟩)⟩
theorem x_sortRL {b : Bool} {m : W (List Int)} (h : EvX K te es (eV (eL eI)) m) : EvX K (tCKw (rSortedR K b [.bl b]) (tCons te tNil) (tCons (tC (.bl b)) tNil)) es (eN eI) (.bind m fun a => .pure (W.sortR b a)) := x_sortR (fun a => a) h fun a => .inl (.inl rfl)
theorem x_sortRT {b : Bool} {m : W (List Int)} (h : EvX K te es (eV (eT eI)) m) : EvX K (tCKw (rSortedR K b [.bl b]) (tCons te tNil) (tCons (tC (.bl b)) tNil)) es (eN eI) (.bind m fun a => .pure (W.sortR b a)) := x_sortR (fun a => a) h fun a => .inr (.inl rfl)
/-! list(range(..)), tuple(range(..)) -/
theorem rgV_eq (a b : Int) : rgV a b = (W.rangeI a b).map V.int := by
  unfold rgV W.rangeI
  rw [List.map_map]
  rfl
theorem dp_rg {B : Hp} (a b : Int) : DpAll K B (rgV a b) ((W.rangeI a b).map eI) := by
  rw [rgV_eq]
  exact dpAll_of_ints _
theorem rgOk {a b : Int} (h1 : -1000000 < a) (h2 : a < 1000000) (h3 : -1000000 < b) (h4 : b < 1000000) : RgOk a b := ⟨by omega, by omega, by omega, by omega, by omega⟩
theorem x_lstRg1 {mn : W Int} (h : EvX K te es (eV eI) mn) : EvX K (tLstRg (tRg1 te)) es (eN eI) (.bind mn fun n => .range1 n) := fun B0 H0 B σ H o P hP Q q =>
  h B0 H0 B σ H o _ hP _ fun n v B1 H1 ⟨⟨h1, h2⟩, pn⟩ s1 d1 => by
    cases d1
    exact ⟨n, rfl, rgOk (by omega) (by omega) h1 h2, fun r hr => q _ _ B1 _ pn (s1.trans (Stp.open s1.bh hr)) ⟨r, _, rfl, s1.hh.free hr, s1.bh.free hr, upd_same, dp_rg 0 n⟩⟩
theorem x_lstRg2 {ml mn : W Int} (hl : EvX K ta es (eV eI) ml) (h : EvX K tb es (eV eI) mn) : EvX K (tLstRg (tRg2 ta tb)) es (eN eI) (.bind ml fun l => .bind mn fun n => .range2 l n) := fun B0 H0 B σ H o P hP Q q =>
  hl B0 H0 B σ H o _ hP _ fun l v B1 H1 pl s1 d1 => h B0 H0 B1 σ H1 (o.mono s1) _ pl _ fun n w B2 H2 ⟨⟨h1, h2, h3, h4⟩, pn⟩ s2 d2 => by
    cases d1
    cases d2
    exact ⟨l, n, rfl, rfl, rgOk h1 h2 h3 h4, fun r hr => q _ _ B2 _ pn ((s1.trans s2).trans (Stp.open s2.bh hr)) ⟨r, _, rfl, (s1.trans s2).hh.free hr, s2.bh.free hr, upd_same, dp_rg l n⟩⟩
theorem x_tupRg1 {mn : W Int} (h : EvX K te es (eV eI) mn) : EvX K (tTupRg (tRg1 te)) es (eV (eT eI)) (.bind mn fun n => .range1 n) := fun B0 H0 B σ H o P hP Q q =>
  h B0 H0 B σ H o _ hP _ fun n v B1 H1 ⟨⟨h1, h2⟩, pn⟩ s1 d1 => by
    cases d1
    exact ⟨n, rfl, rgOk (by omega) (by omega) h1 h2, fun r hr => q _ _ (upd B1 r (.tup (rgV 0 n))) _ pn (s1.trans (Stp.new s1.bh hr)) (Dp.tup (SqT.of upd_same) (dp_rg 0 n))⟩
theorem x_tupRg2 {ml mn : W Int} (hl : EvX K ta es (eV eI) ml) (h : EvX K tb es (eV eI) mn) : EvX K (tTupRg (tRg2 ta tb)) es (eV (eT eI)) (.bind ml fun l => .bind mn fun n => .range2 l n) := fun B0 H0 B σ H o P hP Q q =>
  hl B0 H0 B σ H o _ hP _ fun l v B1 H1 pl s1 d1 => h B0 H0 B1 σ H1 (o.mono s1) _ pl _ fun n w B2 H2 ⟨⟨h1, h2, h3, h4⟩, pn⟩ s2 d2 => by
    cases d1
    cases d2
    exact ⟨l, n, rfl, rfl, rgOk h1 h2 h3 h4, fun r hr => q _ _ (upd B2 r (.tup (rgV l n))) _ pn ((s1.trans s2).trans (Stp.new s2.bh hr)) (Dp.tup (SqT.of upd_same) (dp_rg l n))⟩
/-! None or a new list -/
variable {R : ρ → Prop}
theorem sw_getO {f : β → PyData} {x : Option (List β)} {rest : List β → W ρ} (i : Nat) (es1 : List β → List Sl) (hi : es[i]? = some (Im.sl (eNO f x))) (he : ∀ a : List β, es.set i (.mu (a.map f)) = es1 a) (k : ∀ a, SxW K t (es1 a) p R (rest a)) : SxW K t es p R (.bind (.get x) rest) := fun ⟨a, ea, pa⟩ => by
  subst ea
  have e1 : es.set i (.mu (a.map f)) = es := by
    apply List.ext_getElem?
    intro j
    by_cases z : i = j
    · subst z
      rw [List.getElem?_set_self (List.getElem?_eq_some_iff.mp hi).1, hi]
      rfl
    · rw [List.getElem?_set_ne z]
  have := k a pa
  rw [← he, e1] at this
  exact this
theorem set_eq {es : List Sl} {i : Nat} {s : Sl} (hi : es[i]? = some s) : es.set i s = es := by
  apply List.ext_getElem?
  intro j
  by_cases z : i = j
  · subst z
    rw [List.getElem?_set_self (List.getElem?_eq_some_iff.mp hi).1, hi]
  · rw [List.getElem?_set_ne z]
theorem sw_shutO {f : β → PyData} {x : Option (List β)} {m : W ρ} (i : Nat) (es' : List Sl) (hi : es[i]? = some (Im.sl (eNO f x))) (he : es.set i (.im (.d (eO (eL f) x))) = es') (h : SxW K t es' p R m) : SxW K t es p R m := fun hm => by
  have h := h hm
  rw [← he] at h
  cases x with
  | none => rw [set_eq (s := .im (.d (eO (eL f) none))) hi] at h; exact h
  | some xs => exact sx_shut i hi h
theorem x_openO {f : β → PyData} {x : Option (List β)} (i : Nat) (hi : es[i]? = some (Im.sl (eNO f x))) (hs : ∀ a, Sca (e a)) (h : EvX K te (es.set i (.im (.d (eO (eL f) x)))) e m) : EvX K te es e m := by
  cases x with
  | none => rw [set_eq (s := .im (.d (eO (eL f) none))) hi] at h; exact h
  | some xs => exact x_open i hi hs h
theorem t_openO {f : β → PyData} {x : Option (List β)} {m : W Bool} (i : Nat) (hi : es[i]? = some (Im.sl (eNO f x))) (h : EvXT K tt (es.set i (.im (.d (eO (eL f) x)))) m) : EvXT K tt es m := by
  cases x with
  | none => rw [set_eq (s := .im (.d (eO (eL f) none))) hi] at h; exact h
  | some xs => exact t_open i hi h
theorem sw_start {m : W ρ} (es' : List Sl) (he : es = es') (h : SxW K t es' p R m) : SxW K t es p R m := by rw [he]; exact h
end
/-! ### sets of ints -/
section
variable {X : Cx}
/-- set(xs), xs a list or a tuple of ints: a new set -/
def rSetI (K : PySem.W.Frag) (w : World) : List V → Hp → VK → Prop := fun vs H Q => ∃ v ns, vs = [v] ∧ IsIs K H v ns ∧ ns.length < 64 ∧ ∀ p c, H p = none → c ≤ ns.length → Q (.ref p) (upd H p (SetO w p (fun j => decide (j ∈ ns)) c))
theorem cr_setI (hc : X.calm = true) : CallR X (.type "set") (rSetI X.K X.w) := by
  intro pins s σ H vs us Q I r h
  obtain ⟨v, ns, rfl, hs, hl, q⟩ := h
  obtain ⟨u, rfl, ru⟩ := vals1 r
  have fin : ∀ (h' : Heap) (tk c : Nat), SetR X.w h' s.heap.objs.size (fun j => decide (j ∈ ns)) c → c ≤ ns.length → (∀ b o, s.heap.get? b = some o → h'.get? b = some o) → EP X pins σ Q (.ref s.heap.objs.size) { s with heap := h', toks := tk } := fun h' tk c hS hc' hk =>
    ⟨.ref s.heap.objs.size, _, I.laid (t' := tk) hk (Nat.le_refl _) (setO_new hS), rfl, q _ c (I.hok.fresh (Nat.le_refl _)) hc'⟩
  rcases hs with hs | hs
  · cases hs with
    | lst hl' ha =>
      cases ru
      have := dpAll_ints ha
      subst this
      obtain ⟨its, rv, pl, hz⟩ := I.list hl'
      exact call_set_lstI ns (I.ok.hd hc) pl.isList (by simpa using rv.ints) (by unfold scanBound; omega) fin
  · cases hs with
    | tup hl' ha =>
      cases ru
      have := dpAll_ints ha
      subst this
      obtain ⟨its, rv, pl, hz⟩ := I.tuple hl'
      exact call_set_tupI ns (I.ok.hd hc) pl (by simpa using rv.ints) (by unfold scanBound; omega) fin
/-- len(set) -/
def rLenO (w : World) : List V → Hp → VK → Prop := fun vs H Q => ∃ (a : Addr) (S : Int → Bool) (n : Nat), vs = [.ref a] ∧ H a = some (SetO w a S n) ∧ ((∃ ks : List Int, ks.Nodup ∧ (∀ k, S k = true ↔ k ∈ ks) ∧ ks.length = n) → Q (.int (n : Nat)) H)
theorem cr_lenO : CallR X (.builtin "len") (rLenO X.w) := by
  intro pins s σ H vs us Q I r h
  obtain ⟨a, S, n, rfl, ha, q⟩ := h
  have R := setO_get I ha
  rw [Vals.ref1 r]
  obtain ⟨o, es, ep, t, ho, hex, hd, hg, hnd, hm, hsc, hf, hn, _⟩ := R
  exact call_len_set ho hex hd hf (by unfold scanBound at hsc; omega) ⟨.int n, H, I.tok _, ⟨_, by rw [hn]⟩, q ⟨es.toList.map keyOf, hnd, hm, by rw [List.length_map, Array.length_toList, hn]⟩⟩
end
theorem mem_nub (x : Int) : ∀ xs : List Int, x ∈ W.nub xs ↔ x ∈ xs
  | [] => Iff.rfl
  | y :: xs => by
    unfold W.nub
    by_cases h : y ∈ xs
    · rw [if_pos h, mem_nub x xs, List.mem_cons]
      exact ⟨.inr, fun z => z.elim (fun e => by rw [e]; exact h) id⟩
    · rw [if_neg h, List.mem_cons, List.mem_cons, mem_nub x xs]
theorem nodup_nub : ∀ xs : List Int, (W.nub xs).Nodup
  | [] => List.nodup_nil
  | y :: xs => by
    unfold W.nub
    by_cases h : y ∈ xs
    · rw [if_pos h]; exact nodup_nub xs
    · rw [if_neg h]; exact List.nodup_cons.mpr ⟨fun z => h ((mem_nub y xs).mp z), nodup_nub xs⟩
theorem sortL_perm (xs : List Int) : (W.sortL xs).Perm xs := List.mergeSort_perm _ _
theorem sortL_sorted (xs : List Int) : (W.sortL xs).Pairwise (· ≤ ·) :=
  (List.pairwise_mergeSort (le := fun a b : Int => decide (a ≤ b)) (fun a b c h1 h2 => by simp at *; omega) (fun a b => by simp; omega) xs).imp fun h => by simpa using h
theorem mem_setL (x : Int) (xs : List Int) : x ∈ W.setL xs ↔ x ∈ xs := by
  unfold W.setL
  rw [(sortL_perm _).mem_iff, mem_nub]
theorem setL_lt (xs : List Int) : (W.setL xs).Pairwise (· < ·) := by
  have h1 := sortL_sorted (W.nub xs)
  have h2 : (W.sortL (W.nub xs)).Nodup := (sortL_perm _).nodup_iff.mpr (nodup_nub xs)
  exact (h1.and h2).imp fun ⟨a, b⟩ => by omega
theorem setL_uniq {ms ns : List Int} (h : ms.Pairwise (· < ·)) (k : ∀ x, x ∈ ms ↔ x ∈ ns) : ms = W.setL ns := by
  have nd : ∀ {l : List Int}, l.Pairwise (· < ·) → l.Nodup := fun h => h.imp fun h => by omega
  refine List.Perm.eq_of_pairwise (le := (· < ·)) (fun a b _ _ h1 h2 => by omega) h (setL_lt ns) ?_
  exact (List.perm_ext_iff_of_nodup (nd h) (nd (setL_lt ns))).mpr fun x => by rw [k, mem_setL]
section
variable {K : PySem.W.Frag} {w : World} {es es' : List Sl} {te : TE} {α β : Type} {m : W α}
theorem x_sortSet {f : α → PyData} (g : α → List Int) (hd : ∀ a, IsD (.d (f a)) (g a)) (h : EvX K te es (eV f) m) : EvX K (tCB (rSortedSet w) (tCons (tCB (rSetI K w) (tCons te tNil)) tNil)) es (eN eI) (.bind m fun a => .chk ((g a).length < 64) (W.setL (g a))) := fun B0 H0 B σ H o P hP Q q =>
  h B0 H0 B σ H o _ hP _ fun a v B1 H1 ⟨hl, pa⟩ s1 d1 => ⟨v, g a, rfl, (hd a).is s1.bh d1, hl, fun p c hp hc => by
    refine ⟨p, _, c, rfl, upd_same, by omega, fun ns r ho hm hn hr => ?_⟩
    have e : ns = W.setL (g a) := setL_uniq ho fun x => by rw [hm]; simp
    have hne : p ≠ r := fun z => by subst z; rw [upd_same] at hr; cases hr
    have hr1 : H1 r = none := by rw [upd_ne (Ne.symm hne)] at hr; exact hr
    have s2 : Stp B1 H1 B1 (upd H1 p (SetO w p (fun j => decide (j ∈ g a)) c)) := Stp.open s1.bh hp
    refine q _ _ B1 _ pa (s1.trans (s2.trans (Stp.open s2.bh hr))) ⟨r, _, rfl, s1.hh.free hr1, s1.bh.free hr1, upd_same, ?_⟩
    rw [e]
    exact dpAll_of_ints _⟩
theorem x_lenSet {f : α → PyData} (g : α → List Int) (hd : ∀ a, IsD (.d (f a)) (g a)) (h : EvX K te es (eV f) m) : EvX K (tCB (rLenO w) (tCons (tCB (rSetI K w) (tCons te tNil)) tNil)) es (eV eI) (.bind m fun a => .chk ((g a).length < 64) ((W.nub (g a)).length : Int)) := fun B0 H0 B σ H o P hP Q q =>
  h B0 H0 B σ H o _ hP _ fun a v B1 H1 ⟨hl, pa⟩ s1 d1 => ⟨v, g a, rfl, (hd a).is s1.bh d1, hl, fun p c hp hc => by
    refine ⟨p, _, c, rfl, upd_same, fun ⟨ks, hnd, hm, hn⟩ => ?_⟩
    have e : (W.nub (g a)).length = c := by
      rw [← hn]
      refine ((List.perm_ext_iff_of_nodup (nodup_nub _) hnd).mpr fun x => ?_).length_eq
      rw [mem_nub, ← hm]
      simp
    have s2 : Stp B1 H1 B1 (upd H1 p (SetO w p (fun j => decide (j ∈ g a)) c)) := Stp.open s1.bh hp
    refine q _ _ B1 _ pa (s1.trans s2) ?_
    rw [e]
    exact Dp.int _⟩
end
end HM
end
section
/-! W 6: an open list read for a moment, any results without lists; any data; casts -/
namespace HM
open PySem PySem.Spec PyProof.Rows L2 RZ
def cutH (B : Hp) (p : Addr) : Hp := fun a => if a = p then none else B a
theorem cutH_same {B : Hp} {p : Addr} : cutH B p p = none := by simp [cutH]
theorem cutH_ne {B : Hp} {p a : Addr} (h : a ≠ p) : cutH B p a = B a := by simp [cutH, h]
theorem cutH_get {B : Hp} {p a : Addr} {o : HO} (h : B a = some o) (n : a ≠ p) : cutH B p a = some o := by rw [cutH_ne n]; exact h
mutual
theorem dpCut {K : PySem.W.Frag} {B : Hp} {p : Addr} {ws : List V} (hp : B p = some (.lst ws)) : ∀ {v : V} {d : PyData}, NoL d → Dp K B v d → Dp K (cutH B p) v d
  | _, _, _, .non => .non
  | _, _, _, .bl b => .bl b
  | _, _, _, .int i => .int i
  | _, _, _, .str x => .str x
  | _, _, n, .dct h => .dct (cutH_get h (fun z => by rw [z, hp] at h; cases h))
  | _, _, n, .lst h a => by simp [NoL] at n
  | _, _, n, .tup h a => .tup (by
      rcases h with (h | ⟨o, h⟩) | h
      · exact .inl (.inl (cutH_get h (fun z => by rw [z, hp] at h; cases h)))
      · exact .inl (.inr ⟨o, cutH_get h (fun z => by rw [z, hp] at h; cases h)⟩)
      · exact .inr h) (dpAllCut hp (by simpa only [NoL] using n) a)
theorem dpAllCut {K : PySem.W.Frag} {B : Hp} {p : Addr} {ws : List V} (hp : B p = some (.lst ws)) : ∀ {vs : List V} {ds : List PyData}, NoLs ds → DpAll K B vs ds → DpAll K (cutH B p) vs ds
  | _, _, _, .nil => .nil
  | _, _, n, .cons a b => .cons (dpCut hp (by simp only [NoLs] at n; exact n.1) a) (dpAllCut hp (by simp only [NoLs] at n; exact n.2) b)
end
section
variable {K : PySem.W.Frag} {B0 H0 B H B' H' : Hp} {es es' : List Sl} {σ : L2.St} {te ta tb : TE} {tt : TT} {α β γ δ : Type} {e : α → Im} {m : W α}
/-- as Ok.shut, told which -/
theorem Ok.shutP (o : Ok K B0 H0 B es σ H) {i : Nat} {xs : List PyData} (e : es[i]? = some (.mu xs)) : ∃ p vs, B p = none ∧ H p = some (.lst vs) ∧ Ok K B0 H0 (upd B p (.lst vs)) (es.set i (.im (.d (.list xs)))) σ H := by
  obtain ⟨p, vs, e1, hb, h0, hp, ha⟩ := o.mu e
  refine ⟨p, vs, hb, hp, o.st.shut h0 hb hp, by rw [List.length_set, o.len], fun j s ej => ?_, fun j k xs1 ys p' q hjk e1 e2 e3 e4 => ?_⟩
  · have sb : Same B (upd B p (.lst vs)) := same_upd hb
    rcases set_get ej with ⟨rfl, rfl, _⟩ | ⟨hne, ej⟩
    · exact ⟨_, e1, _, rfl, Dp.lst (SqL.of upd_same) (dpAllMono sb ha)⟩
    · obtain ⟨ov, f1, h1⟩ := o.sl j s ej
      refine ⟨ov, f1, ?_⟩
      cases s with
      | no => trivial
      | im x =>
        obtain ⟨v, rfl, h1⟩ := h1
        exact ⟨v, rfl, h1.mono sb (Same.refl _)⟩
      | mu ys =>
        obtain ⟨q, ws, rfl, b1, b2, b3, b4⟩ := h1
        refine ⟨q, ws, rfl, ?_, b2, b3, dpAllMono sb b4⟩
        rw [upd_ne (Ne.symm (o.ne i j xs ys p q (Ne.symm hne) e ej e1 f1))]
        exact b1
  · have get1 : ∀ {j : Nat} {zs : List PyData}, (es.set i (.im (.d (.list xs))))[j]? = some (.mu zs) → es[j]? = some (.mu zs) := fun {j zs} h => by
      rcases set_get h with ⟨_, z, _⟩ | ⟨_, h⟩
      · cases z
      · exact h
    exact o.ne j k _ _ p' q hjk (get1 e1) (get1 e2) e3 e4
theorem stp_cut {p : Addr} {vs : List V} (hb : B p = none) (s : Stp (upd B p (.lst vs)) H B' H') : Stp B H (cutH B' p) H' :=
  ⟨fun x o h => cutH_get (s.bb _ _ (by rw [upd_ne (ne_of_none h hb)]; exact h)) (ne_of_none h hb), s.hh, fun x o h => by
    by_cases z : x = p
    · rw [z, cutH_same] at h; cases h
    · rw [cutH_ne z] at h; exact s.bh _ _ h, fun q h1 h2 => by
    by_cases z : q = p
    · rw [z, cutH_same]
    · rw [cutH_ne z]; exact s.fr q (by rw [upd_ne z]; exact h1) h2⟩
def NoI : Im → Prop
  | .v (.d d) => NoL d
  | .l xs => NoLs xs
  | _ => False
theorem noI_cut {p : Addr} {vs : List V} (hp : B' p = some (.lst vs)) : ∀ {x : Im} {v : V}, NoI x → ImR K H B' H' x v → ImR K H (cutH B' p) H' x v
  | .v (.d d), v, hs, h => dpCut hp hs h
  | .l xs, v, hs, ⟨q, ws, e1, h0, hb, h2, ha⟩ => ⟨q, ws, e1, h0, by
      by_cases z : q = p
      · rw [z, cutH_same]
      · rw [cutH_ne z]; exact hb, h2, dpAllCut hp hs ha⟩
theorem x_openN {f : β → PyData} {xs : List β} (i : Nat) (hi : es[i]? = some (.mu (xs.map f))) (hs : ∀ a, NoI (e a)) (h : EvX K te (es.set i (.im (.d (eL f xs)))) e m) : EvX K te es e m := fun B0 H0 B σ H o P hP Q q => by
  obtain ⟨p, vs, hb, hp, o1⟩ := o.shutP hi
  exact h B0 H0 _ σ H o1 P hP Q fun a v B2 H2 pa s d => q a v _ H2 pa (stp_cut hb s) (noI_cut (s.bb _ _ upd_same) (hs a) d)
theorem x_openNO {f : β → PyData} {x : Option (List β)} (i : Nat) (hi : es[i]? = some (Im.sl (eNO f x))) (hs : ∀ a, NoI (e a)) (h : EvX K te (es.set i (.im (.d (eO (eL f) x)))) e m) : EvX K te es e m := by
  cases x with
  | none => rw [set_eq (s := .im (.d (eO (eL f) none))) hi] at h; exact h
  | some xs => exact x_openN i hi hs h
/-! kinds without lists -/
structure NlK (e : α → PyData) : Prop where
  nl : ∀ a, NoL (e a)
theorem noLs_map {f : α → PyData} (h : NlK f) : ∀ xs : List α, NoLs (xs.map f)
  | [] => by simp [NoLs]
  | x :: xs => by simp only [List.map_cons, NoLs]; exact ⟨h.nl x, noLs_map h xs⟩
theorem ni_V {f : α → PyData} (h : NlK f) (a : α) : NoI (eV f a) := h.nl a
theorem ni_N {f : α → PyData} (h : NlK f) (xs : List α) : NoI (eN f xs) := noLs_map h xs
theorem nl_int : NlK eI := ⟨fun _ => by simp [NoL]⟩
theorem nl_bool : NlK eB := ⟨fun _ => by simp [NoL]⟩
theorem nl_str : NlK eS := ⟨fun _ => by simp [NoL]⟩
theorem nl_word {w : Str} : NlK (eW w) := ⟨fun _ => by simp [NoL]⟩
theorem nl_none : NlK eU := ⟨fun _ => by simp [NoL]⟩
theorem nl_T {f : α → PyData} (h : NlK f) : NlK (eT f) := ⟨fun a => by simp only [NoL]; exact noLs_map h a⟩
theorem nl_P0 : NlK eP0 := ⟨fun _ => by simp [NoL, NoLs]⟩
theorem nl_P1 {f : α → PyData} (h : NlK f) : NlK (eP1 f) := ⟨fun a => by simp only [NoL, NoLs]; exact ⟨h.nl _, trivial⟩⟩
theorem nl_P2 {f : α → PyData} {g : β → PyData} (h : NlK f) (h2 : NlK g) : NlK (eP2 f g) := ⟨fun a => by simp only [NoL, NoLs]; exact ⟨h.nl _, h2.nl _, trivial⟩⟩
theorem nl_P3 {f : α → PyData} {g : β → PyData} {k : γ → PyData} (h : NlK f) (h2 : NlK g) (h3 : NlK k) : NlK (eP3 f g k) := ⟨fun a => by simp only [NoL, NoLs]; exact ⟨h.nl _, h2.nl _, h3.nl _, trivial⟩⟩
theorem nl_P4 {f : α → PyData} {g : β → PyData} {k : γ → PyData} {l : δ → PyData} (h : NlK f) (h2 : NlK g) (h3 : NlK k) (h4 : NlK l) : NlK (eP4 f g k l) := ⟨fun a => by simp only [NoL, NoLs]; exact ⟨h.nl _, h2.nl _, h3.nl _, h4.nl _, trivial⟩⟩
theorem nl_O {f : α → PyData} (h : NlK f) : NlK (eO f) := ⟨fun a => by cases a with | none => simp [eO, NoL] | some a => exact h.nl a⟩
/-! any data -/
theorem x_any {f : α → PyData} (h : EvX K te es (eV f) m) : EvX K te es (eV eA) (.bind m fun a => .pure (f a)) := x_coe f (fun _ => rfl) h
theorem x_anyL {f : α → PyData} {m : W (List α)} (h : EvX K te es (eN f) m) : EvX K te es (eN eA) (.bind m fun a => .pure (a.map f)) := x_coe (List.map f) (fun a => by simp) h
/-- a cast that may fail -/
theorem x_cast {f : α → PyData} {g : β → PyData} (c : α → Option β) (hc : ∀ a b, c a = some b → f a = g b) (h : EvX K te es (eV f) m) : EvX K te es (eV g) (.bind m fun a => .get (c a)) := fun B0 H0 B σ H o P hP Q q =>
  h B0 H0 B σ H o _ hP _ fun a v B1 H1 ⟨b, eb, pb⟩ s1 d1 => q b v B1 H1 pb s1 (by
    have := hc a b eb
    show Dp K B1 v (g b)
    rw [← this]
    exact d1)
/-! == over any data -/
theorem r_eqA (a b : PyData) : RvX K (rEqP K) (.d (eA a)) (.d (eA b)) (eV eB) (.chk (Flat a ∧ Flat b) (PyData.eqv a b)) := .chk (fun h => rv_eq (.inl rfl) (.inl rfl) h.1 h.2) rfl
theorem r_neA (a b : PyData) : RvX K (rNeP K) (.d (eA a)) (.d (eA b)) (eV eB) (.chk (Flat a ∧ Flat b) (!PyData.eqv a b)) := .chk (fun h => rv_ne (.inl rfl) (.inl rfl) h.1 h.2) rfl
/-! the same data, as another kind -/
def Cv (f : α → PyData) (g : β → PyData) (c : α → β) : Prop := ∀ a, f a = g (c a)
theorem x_cv {f : α → PyData} {g : β → PyData} {c : α → β} (k : Cv f g c) (h : EvX K te es (eV f) m) : EvX K te es (eV g) (.bind m fun a => .pure (c a)) := x_coe c (fun a => by show Im.v (.d (f a)) = Im.v (.d (g (c a))); rw [k a]) h
theorem cv_map {f : α → PyData} {g : β → PyData} {c : α → β} (k : Cv f g c) (xs : List α) : xs.map f = (xs.map c).map g := by rw [List.map_map]; exact List.map_congr_left fun a _ => k a
theorem x_cvL {f : α → PyData} {g : β → PyData} {c : α → β} {m : W (List α)} (k : Cv f g c) (h : EvX K te es (eN f) m) : EvX K te es (eN g) (.bind m fun a => .pure (a.map c)) := x_coe (List.map c) (fun a => by show Im.l (a.map f) = Im.l ((a.map c).map g); rw [cv_map k]) h
theorem cv_id {f : α → PyData} : Cv f f (fun a => a) := fun _ => rfl
theorem cv_any {f : α → PyData} : Cv f eA f := fun _ => rfl
theorem cv_none {g : β → PyData} : Cv eU (eO g) (fun _ => none) := fun _ => rfl
theorem cv_some {f : α → PyData} {g : β → PyData} {c : α → β} (k : Cv f g c) : Cv f (eO g) (fun a => some (c a)) := k
theorem cv_O {f : α → PyData} {g : β → PyData} {c : α → β} (k : Cv f g c) : Cv (eO f) (eO g) (Option.map c) := fun a => by cases a with | none => rfl | some a => exact k a
theorem cv_L {f : α → PyData} {g : β → PyData} {c : α → β} (k : Cv f g c) : Cv (eL f) (eL g) (List.map c) := fun a => by show PyData.list _ = PyData.list _; rw [cv_map k]
theorem cv_T {f : α → PyData} {g : β → PyData} {c : α → β} (k : Cv f g c) : Cv (eT f) (eT g) (List.map c) := fun a => by show PyData.tuple _ = PyData.tuple _; rw [cv_map k]
theorem cv_word {w : Str} : Cv (eW w) eS (fun _ => w) := fun _ => rfl
section
variable {α1 α2 α3 α4 β1 β2 β3 β4 : Type} {f1 : α1 → PyData} {f2 : α2 → PyData} {f3 : α3 → PyData} {f4 : α4 → PyData} {g1 : β1 → PyData} {g2 : β2 → PyData} {g3 : β3 → PyData} {g4 : β4 → PyData} {c1 : α1 → β1} {c2 : α2 → β2} {c3 : α3 → β3} {c4 : α4 → β4}
theorem cv_P1 (k1 : Cv f1 g1 c1) : Cv (eP1 f1) (eP1 g1) c1 := fun a => by show PyData.tuple _ = PyData.tuple _; rw [k1]
theorem cv_P2 (k1 : Cv f1 g1 c1) (k2 : Cv f2 g2 c2) : Cv (eP2 f1 f2) (eP2 g1 g2) (fun p => (c1 p.1, c2 p.2)) := fun a => by show PyData.tuple _ = PyData.tuple _; rw [k1, k2]
theorem cv_P3 (k1 : Cv f1 g1 c1) (k2 : Cv f2 g2 c2) (k3 : Cv f3 g3 c3) : Cv (eP3 f1 f2 f3) (eP3 g1 g2 g3) (fun p => (c1 p.1, c2 p.2.1, c3 p.2.2)) := fun a => by show PyData.tuple _ = PyData.tuple _; rw [k1, k2, k3]
theorem cv_P4 (k1 : Cv f1 g1 c1) (k2 : Cv f2 g2 c2) (k3 : Cv f3 g3 c3) (k4 : Cv f4 g4 c4) : Cv (eP4 f1 f2 f3 f4) (eP4 g1 g2 g3 g4) (fun p => (c1 p.1, c2 p.2.1, c3 p.2.2.1, c4 p.2.2.2)) := fun a => by show PyData.tuple _ = PyData.tuple _; rw [k1, k2, k3, k4]
variable {h : β → PyData} {d1 : α1 → β} {d2 : α2 → β} {d3 : α3 → β} {d4 : α4 → β}
theorem cv_PT0 : Cv eP0 (eT h) (fun _ => []) := fun _ => rfl
theorem cv_PT1 (k1 : Cv f1 h d1) : Cv (eP1 f1) (eT h) (fun p => [d1 p]) := fun a => by show PyData.tuple _ = PyData.tuple _; rw [k1]; rfl
theorem cv_PT2 (k1 : Cv f1 h d1) (k2 : Cv f2 h d2) : Cv (eP2 f1 f2) (eT h) (fun p => [d1 p.1, d2 p.2]) := fun a => by show PyData.tuple _ = PyData.tuple _; rw [k1, k2]; rfl
theorem cv_PT3 (k1 : Cv f1 h d1) (k2 : Cv f2 h d2) (k3 : Cv f3 h d3) : Cv (eP3 f1 f2 f3) (eT h) (fun p => [d1 p.1, d2 p.2.1, d3 p.2.2]) := fun a => by show PyData.tuple _ = PyData.tuple _; rw [k1, k2, k3]; rfl
theorem cv_PT4 (k1 : Cv f1 h d1) (k2 : Cv f2 h d2) (k3 : Cv f3 h d3) (k4 : Cv f4 h d4) : Cv (eP4 f1 f2 f3 f4) (eT h) (fun p => [d1 p.1, d2 p.2.1, d3 p.2.2.1, d4 p.2.2.2]) := fun a => by show PyData.tuple _ = PyData.tuple _; rw [k1, k2, k3, k4]; rfl
end
/-! perhaps the same data, as another kind -/
def Cp (f : α → PyData) (g : β → PyData) (c : α → Option β) : Prop := ∀ a b, c a = some b → f a = g b
theorem x_cp {f : α → PyData} {g : β → PyData} {c : α → Option β} (k : Cp f g c) (h : EvX K te es (eV f) m) : EvX K te es (eV g) (.bind m fun a => .get (c a)) := x_cast c k h
theorem cp_of {f : α → PyData} {g : β → PyData} {c : α → β} (k : Cv f g c) : Cp f g (fun a => some (c a)) := fun a b e => by cases e; exact k a
theorem cp_unO {f : α → PyData} {g : β → PyData} {c : α → Option β} (k : Cp f g c) : Cp (eO f) g (fun o => o.bind c) := fun a b e => by
  cases a with
  | none => cases e
  | some a => exact k a b e
theorem cp_someO {f : α → PyData} {g : β → PyData} {c : α → Option β} (k : Cp f g c) : Cp f (eO g) (fun a => (c a).map some) := fun a b e => by
  obtain ⟨b1, h, rfl⟩ := Option.map_eq_some_iff.mp e
  exact k a b1 h
theorem cp_O {f : α → PyData} {g : β → PyData} {c : α → Option β} (k : Cp f g c) : Cp (eO f) (eO g) (fun o => match o with | none => some none | some a => (c a).map some) := fun a b e => by
  cases a with
  | none => cases e; rfl
  | some a => exact cp_someO k a b e
def W.allO (c : α → Option β) : List α → Option (List β)
  | [] => some []
  | a :: xs => (c a).bind fun b => (W.allO c xs).map (b :: ·)
theorem cp_allO {f : α → PyData} {g : β → PyData} {c : α → Option β} (k : Cp f g c) : ∀ (xs : List α) (ys : List β), W.allO c xs = some ys → xs.map f = ys.map g
  | [], ys, e => by cases e; rfl
  | a :: xs, ys, e => by
    unfold W.allO at e
    obtain ⟨b, hb, e⟩ := Option.bind_eq_some_iff.mp e
    obtain ⟨zs, hz, rfl⟩ := Option.map_eq_some_iff.mp e
    rw [List.map_cons, List.map_cons, k a b hb, cp_allO k xs zs hz]
theorem cp_L {f : α → PyData} {g : β → PyData} {c : α → Option β} (k : Cp f g c) : Cp (eL f) (eL g) (W.allO c) := fun a b e => by show PyData.list _ = PyData.list _; rw [cp_allO k a b e]
theorem cp_T {f : α → PyData} {g : β → PyData} {c : α → Option β} (k : Cp f g c) : Cp (eT f) (eT g) (W.allO c) := fun a b e => by show PyData.tuple _ = PyData.tuple _; rw [cp_allO k a b e]
theorem cp_word {w : Str} : Cp eS (eW w) (fun s => if s = w then some () else none) := fun a b e => by
  by_cases h : a = w
  · rw [h]
  · simp [h] at e
def W.two (c : α → Option β) (d : α → Option γ) : List α → Option (β × γ)
  | [x, y] => (c x).bind fun a => (d y).bind fun b => some (a, b)
  | _ => none
def W.three (c : α → Option β) (d : α → Option γ) (e : α → Option δ) : List α → Option (β × γ × δ)
  | [x, y, z] => (c x).bind fun a => (d y).bind fun b => (e z).bind fun r => some (a, b, r)
  | _ => none
def W.four {ε : Type} (c : α → Option β) (d : α → Option γ) (e : α → Option δ) (k : α → Option ε) : List α → Option (β × γ × δ × ε)
  | [x, y, z, u] => (c x).bind fun a => (d y).bind fun b => (e z).bind fun r => (k u).bind fun v => some (a, b, r, v)
  | _ => none
theorem two_of {c : α → Option β} {d : α → Option γ} : ∀ {xs : List α} {p : β × γ}, W.two c d xs = some p → ∃ x y, xs = [x, y] ∧ c x = some p.1 ∧ d y = some p.2
  | [], p, e => by cases e
  | [_], p, e => by cases e
  | [x, y], p, e => by
    unfold W.two at e
    obtain ⟨a, ha, e⟩ := Option.bind_eq_some_iff.mp e
    obtain ⟨b, hb, e⟩ := Option.bind_eq_some_iff.mp e
    cases e
    exact ⟨x, y, rfl, ha, hb⟩
  | _ :: _ :: _ :: _, p, e => by cases e
theorem three_of {c : α → Option β} {d : α → Option γ} {k : α → Option δ} : ∀ {xs : List α} {p : β × γ × δ}, W.three c d k xs = some p → ∃ x y z, xs = [x, y, z] ∧ c x = some p.1 ∧ d y = some p.2.1 ∧ k z = some p.2.2
  | [], p, e => by cases e
  | [_], p, e => by cases e
  | [_, _], p, e => by cases e
  | [x, y, z], p, e => by
    unfold W.three at e
    obtain ⟨a, ha, e⟩ := Option.bind_eq_some_iff.mp e
    obtain ⟨b, hb, e⟩ := Option.bind_eq_some_iff.mp e
    obtain ⟨r, hr, e⟩ := Option.bind_eq_some_iff.mp e
    cases e
    exact ⟨x, y, z, rfl, ha, hb, hr⟩
  | _ :: _ :: _ :: _ :: _, p, e => by cases e
theorem cp_TP2 {f : α → PyData} {g : β → PyData} {h : γ → PyData} {c : α → Option β} {d : α → Option γ} (k1 : Cp f g c) (k2 : Cp f h d) : Cp (eT f) (eP2 g h) (W.two c d) := fun a b e => by
  obtain ⟨x, y, rfl, h1, h2⟩ := two_of e
  show PyData.tuple [f x, f y] = PyData.tuple _
  rw [k1 _ _ h1, k2 _ _ h2]
theorem cp_TP3 {f : α → PyData} {g : β → PyData} {h : γ → PyData} {l : δ → PyData} {c : α → Option β} {d : α → Option γ} {r : α → Option δ} (k1 : Cp f g c) (k2 : Cp f h d) (k3 : Cp f l r) : Cp (eT f) (eP3 g h l) (W.three c d r) := fun a b e => by
  obtain ⟨x, y, z, rfl, h1, h2, h3⟩ := three_of e
  show PyData.tuple [f x, f y, f z] = PyData.tuple _
  rw [k1 _ _ h1, k2 _ _ h2, k3 _ _ h3]
theorem four_of {ε : Type} {c : α → Option β} {d : α → Option γ} {k : α → Option δ} {l : α → Option ε} : ∀ {xs : List α} {p : β × γ × δ × ε}, W.four c d k l xs = some p → ∃ x y z u, xs = [x, y, z, u] ∧ c x = some p.1 ∧ d y = some p.2.1 ∧ k z = some p.2.2.1 ∧ l u = some p.2.2.2
  | [], p, e => by cases e
  | [_], p, e => by cases e
  | [_, _], p, e => by cases e
  | [_, _, _], p, e => by cases e
  | [x, y, z, u], p, e => by
    unfold W.four at e
    obtain ⟨a, ha, e⟩ := Option.bind_eq_some_iff.mp e
    obtain ⟨b, hb, e⟩ := Option.bind_eq_some_iff.mp e
    obtain ⟨r, hr, e⟩ := Option.bind_eq_some_iff.mp e
    obtain ⟨v, hv, e⟩ := Option.bind_eq_some_iff.mp e
    cases e
    exact ⟨x, y, z, u, rfl, ha, hb, hr, hv⟩
  | _ :: _ :: _ :: _ :: _ :: _, p, e => by cases e
theorem cp_TP4 {ε : Type} {f : α → PyData} {g : β → PyData} {h : γ → PyData} {l : δ → PyData} {n : ε → PyData} {c : α → Option β} {d : α → Option γ} {r : α → Option δ} {v : α → Option ε} (k1 : Cp f g c) (k2 : Cp f h d) (k3 : Cp f l r) (k4 : Cp f n v) : Cp (eT f) (eP4 g h l n) (W.four c d r v) := fun a b e => by
  obtain ⟨x, y, z, u, rfl, h1, h2, h3, h4⟩ := four_of e
  show PyData.tuple [f x, f y, f z, f u] = PyData.tuple _
  rw [k1 _ _ h1, k2 _ _ h2, k3 _ _ h3, k4 _ _ h4]
section
variable {α1 α2 α3 β1 β2 β3 : Type} {f1 : α1 → PyData} {f2 : α2 → PyData} {f3 : α3 → PyData} {g1 : β1 → PyData} {g2 : β2 → PyData} {g3 : β3 → PyData} {c1 : α1 → Option β1} {c2 : α2 → Option β2} {c3 : α3 → Option β3}
theorem cp_P2 (k1 : Cp f1 g1 c1) (k2 : Cp f2 g2 c2) : Cp (eP2 f1 f2) (eP2 g1 g2) (fun p => (c1 p.1).bind fun a => (c2 p.2).bind fun b => some (a, b)) := fun a b e => by
  obtain ⟨x, h1, e⟩ := Option.bind_eq_some_iff.mp e
  obtain ⟨y, h2, e⟩ := Option.bind_eq_some_iff.mp e
  cases e
  show PyData.tuple _ = PyData.tuple _
  rw [k1 _ _ h1, k2 _ _ h2]
theorem cp_P3 (k1 : Cp f1 g1 c1) (k2 : Cp f2 g2 c2) (k3 : Cp f3 g3 c3) : Cp (eP3 f1 f2 f3) (eP3 g1 g2 g3) (fun p => (c1 p.1).bind fun a => (c2 p.2.1).bind fun b => (c3 p.2.2).bind fun d => some (a, b, d)) := fun a b e => by
  obtain ⟨x, h1, e⟩ := Option.bind_eq_some_iff.mp e
  obtain ⟨y, h2, e⟩ := Option.bind_eq_some_iff.mp e
  obtain ⟨z, h3, e⟩ := Option.bind_eq_some_iff.mp e
  cases e
  show PyData.tuple _ = PyData.tuple _
  rw [k1 _ _ h1, k2 _ _ h2, k3 _ _ h3]
end
/-! out of any data -/
def W.anyI : PyData → Option Int | .int i => some i | _ => none
def W.anyB : PyData → Option Bool | .bool i => some i | _ => none
def W.anyS : PyData → Option Str | .str i => some i | _ => none
def W.anyU : PyData → Option Unit | .none => some () | _ => none
def W.anyT (c : PyData → Option α) : PyData → Option (List α) | .tuple xs => W.allO c xs | _ => none
def W.anyL (c : PyData → Option α) : PyData → Option (List α) | .list xs => W.allO c xs | _ => none
def W.anyP (c : List PyData → Option α) : PyData → Option α | .tuple xs => c xs | _ => none
theorem cp_AI : Cp eA eI W.anyI := fun a b e => by cases a <;> simp [W.anyI] at e; rw [e]
theorem cp_AB : Cp eA eB W.anyB := fun a b e => by cases a <;> simp [W.anyB] at e; rw [e]
theorem cp_AS : Cp eA eS W.anyS := fun a b e => by cases a <;> simp [W.anyS] at e; rw [e]
theorem cp_AU : Cp eA eU W.anyU := fun a b e => by cases a <;> simp [W.anyU] at e; rfl
theorem cp_AT {g : β → PyData} {c : PyData → Option β} (k : Cp eA g c) : Cp eA (eT g) (W.anyT c) := fun a b e => by
  cases a <;> simp only [W.anyT, reduceCtorEq] at e
  have := cp_allO k _ _ e
  rw [List.map_id'] at this
  show PyData.tuple _ = PyData.tuple _
  rw [this]
theorem cp_AL {g : β → PyData} {c : PyData → Option β} (k : Cp eA g c) : Cp eA (eL g) (W.anyL c) := fun a b e => by
  cases a <;> simp only [W.anyL, reduceCtorEq] at e
  have := cp_allO k _ _ e
  rw [List.map_id'] at this
  show PyData.list _ = PyData.list _
  rw [this]
theorem cp_AP {g : β → PyData} {c : List PyData → Option β} (k : Cp (eT eA) g c) : Cp eA g (W.anyP c) := fun a b e => by
  cases a <;> simp only [W.anyP, reduceCtorEq] at e
  have := k _ _ e
  rw [show eT eA _ = PyData.tuple _ from rfl, List.map_id'] at this
  exact this
end
end HM
end
section
/-! W 7: list.index, list.remove of ints -/
namespace HM
open PySem PySem.Spec PyProof.Rows L2 RZ
namespace W
/-- the place of an int in a list -/
def idx (xs : List Int) (z : Int) : W Int := .chk (z ∈ xs) (xs.idxOf z : Int)
def rmv (xs : List Int) (z : Int) : W (List Int) := .chk (z ∈ xs) (xs.erase z)
end W
def rLstIx (K : PySem.W.Frag) : V → List V → Hp → VK → Prop := fun x vs H Q => ∃ (p : Addr) (ns : List Int) (z : Int), x = .ref p ∧ vs = [.int z] ∧ SqL K H p (ns.map V.int) ∧ z ∈ ns ∧ Q (.int (ns.idxOf z : Nat)) H
theorem mt_lstIx {X : Cx} : MtR X "list.index" (rLstIx X.K) := by
  intro pins s σ H x xs v us Q I rx rs h
  obtain ⟨p, ns, z, rfl, rfl, hq, hm, q⟩ := h
  cases rx
  obtain ⟨u, rfl, t, rfl⟩ := vals1 rs
  obtain ⟨its, r, pl, hz⟩ := I.list hq
  exact PySem.SeqAt.list_index_ints pl.isList r.ints (by rw [List.length_map] at hz; exact hz) hm ⟨.int (ns.idxOf z : Nat), H, I.tok _, ⟨_, rfl⟩, q⟩
section
variable {K : PySem.W.Frag} {B0 H0 B H B' H' : Hp} {es es' : List Sl} {σ : L2.St} {te ta tb : TE} {tt : TT} {t u : TS} {p : Pst} {α β γ δ ρ : Type} {e : α → Im} {R : ρ → Prop}
theorem dpInts {vs : List V} {ns : List Int} (h : DpAll K B vs (ns.map eI)) : vs = ns.map V.int := dpAll_ints h
theorem x_idx {ma : W (List Int)} {mb : W Int} (ha : EvX K ta es (eV (eL eI)) ma) (hb : EvX K tb es (eV eI) mb) : EvX K (tBM K "list" (rLstIx K) ta (tCons tb tNil)) es (eV eI) (.bind ma fun xs => .bind mb fun z => .idx xs z) := fun B0 H0 B σ H o P hP Q q =>
  ha B0 H0 B σ H o _ hP _ fun xs v B1 H1 px s1 d1 => by
    cases d1 with
    | lst hs had =>
      refine ⟨.inl ⟨rfl, _, Same.seq s1.bh hs⟩, hb B0 H0 B1 σ H1 (o.mono s1) _ px _ fun z w B2 H2 ⟨hz, pz⟩ s2 d2 => ?_⟩
      cases d2
      exact ⟨_, xs, z, rfl, rfl, by rw [← dpInts had]; exact Same.seq s2.hh (Same.seq s1.bh hs), hz, q _ _ B2 H2 pz (s1.trans s2) (.int _)⟩
end
theorem map_erIdx {α β : Type} (f : α → β) : ∀ (xs : List α) (k : Nat), (xs.eraseIdx k).map f = (xs.map f).eraseIdx k
  | [], _ => rfl
  | _ :: _, 0 => rfl
  | x :: xs, k + 1 => by simp [map_erIdx f xs k]
def rRemW : V → List V → Hp → VK → Prop := fun x vs H Q => ∃ (l : Addr) (ns : List Int) (z : Int), x = .ref l ∧ vs = [.int z] ∧ H l = some (.lst (ns.map V.int)) ∧ z ∈ ns ∧ Q .non (upd H l (.lst ((ns.erase z).map V.int)))
theorem mt_remW {X : Cx} : MtM X "list.remove" rRemW := by
  intro pins s σ H x vs v us Q I rx rv h
  obtain ⟨l, ns, z, rfl, rfl, hH, hm, q⟩ := h
  cases rx
  obtain ⟨u, rfl, t, rfl⟩ := vals1 rv
  obtain ⟨z', its, n, r, hl, e⟩ := I.lstM hH
  have hlen : its.toArray.size = ns.length := by rw [List.size_toArray, ← r.length, List.length_map]
  have hj : ns.idxOf z < ns.length := List.idxOf_lt_length_of_mem hm
  have each : ∀ (m : Nat) (hm : m < its.toArray.size), ∃ y t', ns[m]? = some y ∧ its.toArray[m] = Value.int y t' := fun m hm => by
    have hm' : m < ns.length := hlen ▸ hm
    obtain ⟨w, hw, t', hw'⟩ := r.get (i := m) (x := .int ns[m]) (by simp [hm'])
    refine ⟨ns[m], t', List.getElem?_eq_getElem hm', ?_⟩
    have e := (List.getElem?_eq_some_iff.mp hw).2
    rw [← hw', ← e]
    simp
  have he : (ns.erase z).map V.int = (ns.map V.int).eraseIdx (ns.idxOf z) := by
    rw [List.erase_eq_eraseIdx_of_idxOf (i := ns.idxOf z) rfl, map_erIdx]
  refine call_meets F.slot_list_remove ⟨_, e, rfl⟩ F.entry_list_remove (F.args_list_remove_2 _ _)
    (PySem.SeqAt.list_removeAt l its.toArray n none #[] (.int z t) (eqU (.int z)) (ns.idxOf z) (by rw [hlen]; exact hj) ?_ ?_ (by rw [List.size_toArray]; have := r.length; omega))
    ⟨e, fun w hw => mem_eqAt (x := .int z) ⟨t, rfl⟩ rfl r (flat_ints ns) w (by simpa using hw), ?_⟩
  · obtain ⟨y, t', h1, h2⟩ := each (ns.idxOf z) (by rw [hlen]; exact hj)
    rw [h2]
    have : ns[ns.idxOf z] = z := List.getElem_idxOf hj
    rw [List.getElem?_eq_getElem hj, this] at h1
    cases h1
    show (z == z) = true
    exact beq_self_eq_true z
  · intro m hm hmj
    obtain ⟨y, t', h1, h2⟩ := each m hm
    rw [h2]
    show (y == z) = false
    refine beq_eq_false_iff_ne.mpr fun e => ?_
    subst e
    rw [List.getElem?_eq_some_iff] at h1
    obtain ⟨h1, h3⟩ := h1
    have := List.not_of_lt_findIdx (xs := ns) (p := (· == y)) (i := m) hmj
    simp [h3] at this
  · refine ⟨.non, _, I.lset (its' := its.eraseIdx (ns.idxOf z)) hH e ?_ (he ▸ r.eraseIdx (ns.idxOf z)) ?_, rfl, q⟩
    · show its.toArray.eraseIdxIfInBounds _ = (its.eraseIdx _).toArray
      rw [List.eraseIdxIfInBounds_toArray]
    · rw [he]
      have := len_erase (ns.map V.int) (ns.idxOf z)
      omega
section
variable {K : PySem.W.Frag} {B0 H0 B H B' H' : Hp} {es es' : List Sl} {σ : L2.St} {te ta tb : TE} {tt : TT} {t u : TS} {p : Pst} {α β γ δ ρ : Type} {e : α → Im} {m : W Int} {R : ρ → Prop}
theorem sw_rem {xs : List Int} {rest : List Int → W ρ} (i : Nat) (es1 : List Int → List Sl) (hi : es[i]? = some (.mu (xs.map eI))) (h : EvX K te es (eV eI) m) (he : ∀ ys : List Int, es.set i (.mu (ys.map eI)) = es1 ys) (k : ∀ ys, SxW K u (es1 ys) p R (rest ys)) :
    SxW K (tSeq (tDrop (tBM K "list" rRemW (tVar i) (tCons te tNil))) u) es p R (.bind m fun a => .bind (.rmv xs a) rest) := fun hm B0 H0 B σ H D o g => by
  obtain ⟨q, vs, e1, hb, h0, hp, ha⟩ := o.mu hi
  refine ⟨_, e1, .inl ⟨rfl, _, SqL.of hp⟩, h B0 H0 B σ H o _ hm _ fun a v B1 H1 ⟨hl, pa⟩ s1 d1 => ?_⟩
  have o1 := o.mono s1
  obtain ⟨q', vs', e1', _, _, hp', ha'⟩ := o1.mu hi
  rw [e1] at e1'
  cases e1'
  cases d1
  have hv := dpInts ha'
  subst hv
  refine ⟨q, xs, a, rfl, rfl, hp', hl, ?_⟩
  have ok := o1.write hi e1 (dpAll_of_ints (K := K) (H := B1) (xs.erase a))
  rw [he] at ok
  exact k _ pa B0 H0 B1 σ _ D ok (g.mono s1.bb)
end
/-! ### min, max over rows -/
theorem vals_back : ∀ {xs : List V} {us : List Value} {i : Nat} {u : Value}, Vals xs us → us[i]? = some u → ∃ x, xs[i]? = some x ∧ RelV x u
  | _, _, _, _, .nil, e => by simp at e
  | _, _, 0, _, .cons r _, e => by simp at e; subst e; exact ⟨_, rfl, r⟩
  | _, _, i + 1, u, .cons _ t, e => by
    obtain ⟨x, h, r⟩ := vals_back (i := i) t (by simpa using e)
    exact ⟨x, by simpa using h, r⟩
def rMinR (K : PySem.W.Frag) : List V → Hp → VK → Prop := fun vs H Q => ∃ p ws d ds, vs = [.ref p] ∧ SqL K H p ws ∧ DpAll K H ws (d :: ds) ∧ PySem.W.AlikeAll (d :: ds) ∧ PyData.depthAll (d :: ds) ≤ 60 ∧ ∀ (i : Nat) w, ws[i]? = some w → (d :: ds)[i]? = some (PySem.W.minD d ds) → Q w H
def rMaxR (K : PySem.W.Frag) : List V → Hp → VK → Prop := fun vs H Q => ∃ p ws d ds, vs = [.ref p] ∧ SqL K H p ws ∧ DpAll K H ws (d :: ds) ∧ PySem.W.AlikeAll (d :: ds) ∧ PyData.depthAll (d :: ds) ≤ 60 ∧ ∀ (i : Nat) w, ws[i]? = some w → (d :: ds)[i]? = some (PySem.W.maxD d ds) → Q w H
section
variable {X : Cx}
theorem item_is {pins : List (Addr × Obj)} {s : Shared} {σ : L2.St} {H : Hp} {its : List Value} {ws : List V} {ds : List PyData} {i : Nat} {v : Value} {m : PyData} {h' : Heap} {bs : List Addr} (I : Inv X pins σ H s) (rv : Vals ws its) (ha : DpAll X.K H ws ds) (hi : its.toArray[i]? = some v)
    (hv : PySem.Reads h' v m bs) (hk : ∀ b o, s.heap.get? b = some o → h'.get? b = some o) : ∃ x, RelV x v ∧ ws[i]? = some x ∧ ds[i]? = some m := by
  obtain ⟨x, hx, rx⟩ := vals_back (i := i) rv (by simpa using hi)
  obtain ⟨d, hd, dx⟩ := dpAll_get' ha hx
  obtain ⟨as, r1⟩ := Dp.reads I d x v dx rx
  have := (PyProof.Rows.reads_det (fun b o e _ => hk b o e) r1 hv).1
  exact ⟨x, rx, hx, by rw [this]; exact hd⟩
theorem cr_minR (hc : X.calm = true) (hu : X.A.units + 64 < cLine) : CallR X (.builtin "min") (rMinR X.K) := by
  intro pins s σ H vs us Q I r h
  obtain ⟨p, ws, d, ds, rfl, hl, ha, hal, hdp, q⟩ := h
  obtain ⟨u, rfl, ru⟩ := vals1 r
  cases ru
  obtain ⟨its, rv, pl, _⟩ := I.list hl
  obtain ⟨as, hr⟩ := Dp.readsAll I _ _ its ha rv
  refine PySem.W.min_list_data (I.ok.hd hc) pl.isList hr hal (by omega) fun i v h' tk bs hi hv hk => ?_
  obtain ⟨x, rx, hx, dx⟩ := item_is I rv ha hi hv hk
  exact ⟨x, H, I.kept hk, rx, q i x hx dx⟩
theorem cr_maxR (hc : X.calm = true) (hu : X.A.units + 64 < cLine) : CallR X (.builtin "max") (rMaxR X.K) := by
  intro pins s σ H vs us Q I r h
  obtain ⟨p, ws, d, ds, rfl, hl, ha, hal, hdp, q⟩ := h
  obtain ⟨u, rfl, ru⟩ := vals1 r
  cases ru
  obtain ⟨its, rv, pl, _⟩ := I.list hl
  obtain ⟨as, hr⟩ := Dp.readsAll I _ _ its ha rv
  refine PySem.W.max_list_data (I.ok.hd hc) pl.isList hr hal (by omega) fun i v h' tk bs hi hv hk => ?_
  obtain ⟨x, rx, hx, dx⟩ := item_is I rv ha hi hv hk
  exact ⟨x, H, I.kept hk, rx, q i x hx dx⟩
end
namespace W
/-- the least row -/
def minR {α : Type} (lt : α → α → Bool) : List α → W α
  | [] => .fail
  | x :: xs => .pure (xs.foldl (fun a y => if lt y a then y else a) x)
def maxR {α : Type} (lt : α → α → Bool) : List α → W α
  | [] => .fail
  | x :: xs => .pure (xs.foldl (fun a y => if lt a y then y else a) x)
end W
section
variable {K : PySem.W.Frag} {α : Type}
theorem minD_map {e : α → PyData} {lt : α → α → Bool} (h : OrK e lt) (x : α) : ∀ xs : List α, PySem.W.minD (e x) (xs.map e) = e (xs.foldl (fun a y => if lt y a then y else a) x) := fun xs => by
  unfold PySem.W.minD
  induction xs generalizing x with
  | nil => rfl
  | cons y ys ih =>
    simp only [List.map_cons, List.foldl_cons, h.lt]
    by_cases c : lt y x <;> simp only [c, if_true, if_false, Bool.false_eq_true] <;> exact ih _
theorem maxD_map {e : α → PyData} {lt : α → α → Bool} (h : OrK e lt) (x : α) : ∀ xs : List α, PySem.W.maxD (e x) (xs.map e) = e (xs.foldl (fun a y => if lt a y then y else a) x) := fun xs => by
  unfold PySem.W.maxD
  induction xs generalizing x with
  | nil => rfl
  | cons y ys ih =>
    simp only [List.map_cons, List.foldl_cons, h.lt]
    by_cases c : lt x y <;> simp only [c, if_true, if_false, Bool.false_eq_true] <;> exact ih _
theorem alike_map {e : α → PyData} {lt : α → α → Bool} (h : OrK e lt) (n : NoN e) (xs : List α) : PySem.W.AlikeAll (xs.map e) := ⟨fun x hx y hy => by
  obtain ⟨a, _, rfl⟩ := List.mem_map.mp hx
  obtain ⟨b, _, rfl⟩ := List.mem_map.mp hy
  exact h.al a b, fun x hx e0 => by
  obtain ⟨a, _, rfl⟩ := List.mem_map.mp hx
  have := (n a).1
  rw [e0] at this
  simp [PyData.eqv] at this⟩
theorem c_minRow {e : α → PyData} {lt : α → α → Bool} (h : OrK e lt) (n : NoN e) {k : Nat} (d : DpK e k) (hk : k ≤ 60) (xs : List α) : RcX K (rMinR K) [.d (eL e xs)] (eV e) (W.minR lt xs) := fun B H vs sb a P hP Q q => by
  obtain ⟨v, rfl, dv⟩ := dv1 a
  cases xs with
  | nil => exact hP.elim
  | cons x xs =>
    have dv : Dp K B v (.list (e x :: xs.map e)) := dv
    cases dv with
    | lst hl ha =>
      refine ⟨_, _, e x, xs.map e, rfl, Same.seq sb hl, dpAllMono sb ha, alike_map h n (x :: xs), by have := depthAll_map d (x :: xs); simp only [List.map_cons] at this; omega, fun i w hw hi => ?_⟩
      obtain ⟨w', hw', dw⟩ := dpAll_get ha hi
      rw [hw] at hw'
      cases hw'
      rw [minD_map h] at dw
      exact q _ w B H hP (Stp.refl sb) dw
theorem c_maxRow {e : α → PyData} {lt : α → α → Bool} (h : OrK e lt) (n : NoN e) {k : Nat} (d : DpK e k) (hk : k ≤ 60) (xs : List α) : RcX K (rMaxR K) [.d (eL e xs)] (eV e) (W.maxR lt xs) := fun B H vs sb a P hP Q q => by
  obtain ⟨v, rfl, dv⟩ := dv1 a
  cases xs with
  | nil => exact hP.elim
  | cons x xs =>
    have dv : Dp K B v (.list (e x :: xs.map e)) := dv
    cases dv with
    | lst hl ha =>
      refine ⟨_, _, e x, xs.map e, rfl, Same.seq sb hl, dpAllMono sb ha, alike_map h n (x :: xs), by have := depthAll_map d (x :: xs); simp only [List.map_cons] at this; omega, fun i w hw hi => ?_⟩
      obtain ⟨w', hw', dw⟩ := dpAll_get ha hi
      rw [hw] at hw'
      cases hw'
      rw [maxD_map h] at dw
      exact q _ w B H hP (Stp.refl sb) dw
/-! `in` over any data -/
theorem r_inAL (a : PyData) (xs : List PyData) : RvX K (rInP K) (.d (eA a)) (.d (eL eA xs)) (eV eB) (.chk (Flat a ∧ Flat (.list xs)) (xs.any fun y => PyData.eqv y a)) := .chk (fun h => rv_in (.inl rfl) (.inl rfl) (.inl rfl) h.1 (by rw [show eL eA xs = PyData.list xs from by simp]; exact h.2)) (by simp)
theorem r_inAT (a : PyData) (xs : List PyData) : RvX K (rInP K) (.d (eA a)) (.d (eT eA xs)) (eV eB) (.chk (Flat a ∧ Flat (.list xs)) (xs.any fun y => PyData.eqv y a)) := .chk (fun h => rv_in (.inl rfl) (.inl rfl) (.inr rfl) h.1 (by rw [show eT eA xs = PyData.tuple xs from by simp]; exact h.2)) (by simp)
end
end HM
end
section
/-! W 8: any data: len, index -/
namespace HM
open PySem PySem.Spec PyProof.Rows L2 RZ
namespace W
def seqA : PyData → Option (List PyData) | .list xs => some xs | .tuple xs => some xs | _ => none
end W
section
variable {K : PySem.W.Frag} {es : List Sl} {te ta tb : TE} {α β : Type}
theorem c_lenA (a : PyData) : RcX K (rLenS K) [.d (eA a)] (eV eI) (.bind (.get (W.seqA a)) fun xs => .pure (xs.length : Int)) := fun B H vs sb da P hP Q q => by
  obtain ⟨xs, hx, pq⟩ := hP
  have : a = .list xs ∨ a = .tuple xs := by
    cases a <;> simp [W.seqA] at hx <;> subst hx <;> simp
  exact rc_len (.inl rfl) this B H vs sb da Q fun z u B2 H2 ez st d => q _ u B2 H2 pq st (by subst ez; exact d)
theorem r_ixA (a : PyData) (i : Int) : RvX K (rIx K) (.d (eA a)) (.d (eI i)) (eV eA) (.bind (.get (W.seqA a)) fun xs => .at' xs i) := fun B H v w sb da di P hP Q q => by
  obtain ⟨xs, hx, pq⟩ := hP
  have h : a = .list xs ∨ a = .tuple xs := by
    cases a <;> simp [W.seqA] at hx <;> subst hx <;> simp
  rcases h with rfl | rfl
  · exact r_ixL (e := eA) xs i B H v w sb (by rw [show eL eA xs = PyData.list xs from by simp]; exact da) di P pq Q q
  · exact r_ixT (e := eA) xs i B H v w sb (by rw [show eT eA xs = PyData.tuple xs from by simp]; exact da) di P pq Q q
theorem isa_int (d : PyData) : isa "int" d = some d.isInt := by simp [isa]
theorem isa_bool (d : PyData) : isa "bool" d = some d.isBool := by simp [isa]
theorem isa_tuple (d : PyData) : isa "tuple" d = some d.isTuple := by simp [isa]
theorem isa_list (d : PyData) : isa "list" d = some d.isList := by simp [isa]
theorem isa_str (d : PyData) : isa "str" d = some d.isStr := by simp [isa]
end
end HM
end
section
/-! W 9: a tuple turned about: t[::-1] -/
namespace HT
open PySem PyProof.Rows
open PySem.SeqAt
open PySem.AutoSeq1 (wpAny_loadPart')
open PySem.MeetsSeq PySem.MeetsSeq2 PySem.MeetsSeq3
section
variable {prog : Program} {w : World} {A : Around} {E : Value → Shared → Prop} {s : Shared}
theorem adjust_rev (n : Nat) : Builtin.Slice.sliceAdjust none none (-1) (n : Int) = ((n : Int) - 1, -1) := by
  unfold Builtin.Slice.sliceAdjust
  simp
theorem places_rev (n : Nat) : Builtin.Slice.slicePlaces ((n : Int) - 1) (-1) (-1) = n := by
  unfold Builtin.Slice.slicePlaces
  simp
  split <;> omega
theorem sliceApplied_rev {sl : Addr} {t : Tok} {n : Nat} {Q : Int × Int × Nat → Shared → Prop} (hs : s.heap.IsSliceOf sl .none .none (.int (-1) t))
    (h : Q ((n : Int) - 1, -1, n) s) : wpAny (model prog w) A (Builtin.Slice.sliceApplied (.ref sl) (pure (n : Int))) Q E s := by
  obtain ⟨os, hos, hcs, hds⟩ := id hs
  unfold Builtin.Slice.sliceApplied Builtin.Slice.sliceFields
  refine wpAny_bind (wpAny_bind (wpAny_field hos hds (x := .none) rfl (wpAny_bind (wpAny_field hos hds (x := .none) rfl (wpAny_bind (wpAny_field hos hds (x := .int (-1) t) rfl (wpAny_pure ?_)))))))
  refine wpAny_bind (slicePart_ (.int (-1) t) ?_)
  show wpAny _ _ (if ((-1 : Int) == 0) = true then _ else _) _ _ s
  rw [if_neg (by decide)]
  refine wpAny_bind (slicePart_ .none (wpAny_bind (slicePart_ .none (wpAny_bind (wpAny_pure ?_)))))
  show wpAny _ _ (match Builtin.Slice.sliceAdjust none none (-1) (n : Int) with | (lo, hi) => pure (lo, (-1 : Int), Builtin.Slice.slicePlaces lo hi (-1))) _ _ s
  rw [adjust_rev n]
  show wpAny _ _ (pure ((n : Int) - 1, (-1 : Int), Builtin.Slice.slicePlaces ((n : Int) - 1) (-1) (-1))) _ _ s
  rw [places_rev]
  exact wpAny_pure h
theorem fm_map {α β : Type} {f : α → Option β} {g : α → β} : ∀ {xs : List α}, (∀ x ∈ xs, f x = some (g x)) → xs.filterMap f = xs.map g
  | [], _ => rfl
  | x :: xs, h => by
    rw [List.filterMap_cons, h x List.mem_cons_self, List.map_cons, fm_map fun y hy => h y (List.mem_cons_of_mem _ hy)]
theorem pick_rev (xs : Array Value) : ((List.range xs.size).filterMap fun (m : Nat) => xs[(((xs.size : Int) - 1) + (m : Int) * -1).toNat]?).toArray = xs.toList.reverse.toArray := by
  congr 1
  have : ∀ m ∈ List.range xs.size, xs[(((xs.size : Int) - 1) + (m : Int) * -1).toNat]? = some (xs.toList.reverse.getD m .none) := fun m hm => by
    have hm := List.mem_range.mp hm
    have e : (((xs.size : Int) - 1) + (m : Int) * -1).toNat = xs.size - 1 - m := by omega
    rw [e, Array.getElem?_eq_getElem (by omega)]
    rw [List.getD_eq_getElem?_getD, List.getElem?_reverse (by simpa using hm)]
    simp only [Array.length_toList]
    rw [List.getElem?_eq_getElem (by simp; omega)]
    simp
  rw [fm_map this]
  refine List.ext_getElem (by simp) fun k h1 h2 => ?_
  rw [List.getElem_map, List.getElem_range, List.getD_eq_getElem?_getD, List.getElem?_eq_getElem h2]
  rfl
theorem getItem_tuple_rev {t sl : Addr} {items : Array Value} {tk : Tok} {Q : Value → Shared → Prop} (ht : IsTup s.heap t items) (hs : s.heap.IsSliceOf sl .none .none (.int (-1) tk))
    (h : Q (.ref s.heap.objs.size) { s with heap := s.heap.push { cls := .type "tuple", data := .seq items.toList.reverse.toArray } })
    (hsz : items.size ≤ sizeLine) : wpAny (model prog w) A (getItem (.ref t) (.ref sl)) Q E s := by
  have htake : sizeOk (.seq items.toList.reverse.toArray) := by
    show items.toList.reverse.toArray.size ≤ sizeLine
    rw [List.size_toArray, List.length_reverse, Array.length_toList]
    exact hsz
  obtain ⟨os, hos, hcs, hds⟩ := id hs
  have hTs : s.TypeIs (.ref sl) "slice" := ⟨os, hos, hcs⟩
  unfold getItem
  try with_reducible refine wpAny_holding ?_
  first | refine wpAny_bind (wpAny_pure ?_) | skip
  refine wpAny_bind (wpAny_sequenceKey ht.typeIs (by decide) ?_)
  refine wpAny_bind (wpAny_callSpecial?_slot (name := Str.ofString "__getitem__") ht.typeIs PyProof.Rows.slot_tuple_getitem
    (wpAny_call_entry PyProof.Rows.slot_tuple_getitem ht.typeIs entry_tuple_getitem ?_ (args_tuple_getitem _ _)))
  show wpAny _ _ (Builtin.Tuple.tupleItemsOf (.ref t) >>= _) _ _ s
  refine wpAny_bind (tupleItemsOf_ ht ?_)
  refine wpAny_bind (wpAny_typeOf hTs ?_)
  rw [if_pos (by decide)]
  refine wpAny_bind (sliceApplied_rev hs ?_)
  have hno : ¬ ((((items.size : Int) - 1) == 0 && (-1 : Int) == 1 && items.size == items.size) = true) := by simp
  show wpAny _ _ (if ((((items.size : Int) - 1) == 0 && (-1 : Int) == 1 && items.size == items.size)) = true then _ else _) _ _ s
  rw [if_neg hno, pick_rev]
  first
    | exact wpAny_bind (m := Builtin.Tuple.tupleExact _) (wpAny_newObj_type (wpAny_pure ⟨_, rfl, wpAny_pure h⟩) htake)
    | exact wpAny_bind (m := Builtin.Tuple.tupleExact _) (wpAny_newObj_type (wpAny_bind (wpAny_pure (wpAny_pure ⟨_, rfl, wpAny_pure h⟩))) htake)
    | exact wpAny_bind (wpAny_bind (m := Builtin.Tuple.tupleExact _) (wpAny_newObj_type (wpAny_pure (wpAny_pure ⟨_, rfl, wpAny_pure h⟩)) htake))
    | exact wpAny_bind (wpAny_bind (m := Builtin.Tuple.tupleExact _) (wpAny_newObj_type (wpAny_pure ⟨_, rfl, wpAny_pure h⟩) htake))
end
end HT
namespace L2
open PySem PySem.Spec PyProof.Rows
section
variable {X : Cx}
/-- t[::-1] -/
def tRevT (K : PySem.W.Frag) (te : TE) : TE := fun σ H Q => te σ H fun x H1 => ∃ a xs, x = .ref a ∧ SqT K H1 a xs ∧ ∀ p, H1 p = none → Q (.ref p) (upd H1 p (.tup xs.reverse))
theorem pe_revT {e : Expr} {te : TE} {k : Nat} {p1 p2 p3 pos : Pos} (he : PE X e te) : PE X (.Subscript e (.Slice none none (some (.UnaryOp .USub (.Constant (.int 1) k p1) p2)) p3) pos) (tRevT X.K te) := by
  refine ⟨fun pins s σ H Q I h => ?_⟩
  refine Subscript_ (thn (he.run pins s σ H _ I h) fun v s1 ⟨x, H1, I1, r1, q1⟩ => ?_)
  obtain ⟨a, xs, ex, hx, q⟩ := q1
  subst ex
  cases r1
  have hst : PO X (some (.UnaryOp .USub (.Constant (.int 1) k p1) p2)) (tPart (tUn (rU fun i => .int (-i)) (tC (.int 1)))) := po_some (pe_un un_neg pe_int)
  refine wpAny_Slice (thn (po_none.run pins s1 σ H1 (fun o H2 => o = none ∧ H2 = H1) I1 ⟨rfl, rfl⟩) fun vl s2 ⟨l, H2, I2, pl, el, e2⟩ => ?_)
  subst el e2
  refine thn (po_none.run pins s2 σ H2 (fun o H3 => o = none ∧ H3 = H2) I2 ⟨rfl, rfl⟩) fun vu s3 ⟨u, H3, I3, pu, eu, e3⟩ => ?_
  subst eu e3
  refine thn (hst.run pins s3 σ H3 (fun o H4 => o = some (-1) ∧ H4 = H3) I3 ⟨1, rfl, -1, rfl, rfl, rfl⟩) fun vs s4 ⟨o, H4, I4, ps, eo, e4⟩ => ?_
  subst eo e4
  cases pl
  cases pu
  cases ps with
  | int _ tk =>
  have I5 : Inv X pins σ H4 { s4 with heap := s4.heap.push { cls := .type "slice", data := .fields #[.none, .none, .int (-1) tk] } } := I4.kept (t' := s4.toks) fun b ob q => Heap.get?_push_of_some _ q
  obtain ⟨its, r, ht, hz⟩ := I5.tuple hx
  have hlen := r.length
  show wpAny (model X.prog X.w) X.A (subscriptTail e (.Slice none none (some (.UnaryOp .USub (.Constant (.int 1) k p1) p2)) p3) (.ref a) (.ref s4.heap.objs.size)) (EP X pins σ Q) X.xe { s4 with heap := s4.heap.push { cls := .type "slice", data := .fields #[.none, .none, .int (-1) tk] } }
  refine tail_any (ops := [.ref a, .ref s4.heap.objs.size]) ht.typeIs (PyProof.Rows.slot_tuple_getitem.lookup) ?_ (by with_unfolding_all rfl)
  refine HT.getItem_tuple_rev ht (Heap.IsSliceOf.new _ .none .none (.int (-1) tk)) ?_ (by rw [List.size_toArray]; omega)
  refine ⟨.ref _, _, I5.laid (t' := s4.toks) (o := .tup xs.reverse) (fun b ob q => Heap.get?_push_of_some _ q) (Nat.le_refl _) ?_, rfl, q _ (I5.hok.fresh (Nat.le_refl _))⟩
  exact ⟨by rw [List.length_reverse]; exact hz, _, r.reverse, IsTup.new _ _⟩
end
end L2
namespace HM
open PySem PySem.Spec PyProof.Rows L2 RZ
section
variable {K : PySem.W.Frag} {es : List Sl} {te : TE} {α : Type}
theorem x_revT {f : α → PyData} {m : W (List α)} (h : EvX K te es (eV (eT f)) m) : EvX K (tRevT K te) es (eV (eT f)) (.bind m fun xs => .pure xs.reverse) := fun B0 H0 B σ H o P hP Q q =>
  h B0 H0 B σ H o _ hP _ fun xs v B1 H1 px s1 d1 => by
    cases d1 with
    | @tup a vs _ hs ha =>
      refine ⟨_, _, rfl, sameT s1.bh hs, fun p hp => ?_⟩
      have := dpAll_rev ha
      rw [← List.map_reverse] at this
      exact q xs.reverse _ (upd B1 p (.tup vs.reverse)) _ px (s1.trans (Stp.new s1.bh hp)) (Dp.tup (SqT.of upd_same) (dpAllMono (same_upd (s1.bh.free hp)) this))
end
end HM
end
section
/-! W 10: a dict without entries -/
namespace HM
open PySem PySem.Spec PyProof.Rows L2 RZ
abbrev eD : Unit → PyData := fun _ => .dict []
section
variable {K : PySem.W.Frag} {es : List Sl}
theorem x_dict : EvX K tDNewK es (eV eD) (.pure ()) := fun B0 H0 B σ H o P hP Q q p hp =>
  q () (.ref p) (upd B p (.dK [])) (upd H p (.dK [])) hP (Stp.new o.bh hp) (Dp.dct upd_same)
theorem dk_dict : DpK eD 1 := ⟨fun a => by simp [PyData.depth, PyData.depthKv]⟩
theorem nn_dict : NoN eD := fun a => by simp [PyData.eqv]
theorem nl_dict : NlK eD := ⟨fun _ => by simp [NoL]⟩
/-! what is never reached -/
theorem x_never {α : Type} {te : TE} {e : α → Im} : EvX K te es e .fail := fun B0 H0 B σ H o P hP Q q => hP.elim
theorem t_never {tt : TT} : EvXT K tt es .fail := fun B0 H0 B σ H o P hP Q q => hP.elim
end
section
variable {X : Cx}
def tNev : TE := fun _ _ _ => False
def ttNev : TT := fun _ _ _ => False
def tsNev : TS := fun _ _ _ => False
theorem pe_nev {e : Expr} : PE X e tNev := ⟨fun _ _ _ _ _ _ h => h.elim⟩
theorem pt_nev {e : Expr} : PT X e ttNev := ⟨fun _ _ _ _ _ _ h => h.elim⟩
theorem pw_nev {e : Expr} : PW X e ttNev := ⟨fun _ _ _ _ _ _ _ h => h.elim⟩
theorem pss_nev {ss : List Stmt} : PSs X ss tsNev := ⟨fun _ _ _ _ _ _ h => h.elim⟩
end
end HM
end
section
/-! W 11: sorted(set(rows)), rows of two ints; str of an int -/
namespace HM
open PySem PySem.Spec PyProof.Rows L2 RZ
section
variable {P : Program} {w : World} {A : Around} {E : Value → Shared → Prop} {s : Shared}
set_option maxHeartbeats 3200000 in
/-- set(xs), xs a tuple of tuples of ints -/
theorem set_rowsT {l : Addr} {items : Array Value} (ks : List (Addr × List Int)) {Q : Value → Shared → Prop} (hh : A.handled = none) (hl : s.heap.IsTuple l items) (hit : items.toList = ks.map fun p => Value.ref p.1)
    (hk : ∀ p ∈ ks, IsT P w s.heap p.2 p.1) (hfew : ks.length < 64) (hu : A.units + 3 < cLine)
    (h : ∀ (h' : Heap) (tk : Nat) L es ep t, SetTR P w h' s.heap.objs.size L es ep t → Got ks ks.length L → (∀ b o, s.heap.get? b = some o → h'.get? b = some o) → Q (.ref s.heap.objs.size) { s with heap := h', toks := tk }) :
    wpAny (model P w) A (call (.type "set") [.ref l]) Q E s := by
  have hisz : items.size = ks.length := by have q := congrArg List.length hit; simpa using q
  have ⟨_, _, hmro⟩ := F.called_set.mro
  have ⟨hmade, hsub⟩ := And.intro F.called_set.made F.called_set.sub
  refine wpAny_call (codeAny_of_tree ?_)
  show wpAny _ _ (callAny (.type "set") _) _ _ _
  refine wpAny_pure ⟨Code.quiet_builtin _ (by decide +kernel), codeAny_builtin F.entry_type_call ?_⟩
  rw [Around.under_plain (weight_type_call_type "set" [.ref l] []) rfl]
  have ⟨h1, h2⟩ := And.intro F.called_set.notType F.called_set.canCreate
  have hct := F.typeCall_set_1 (.ref l)
  repeat (any_goals (first | assumption | wp_step))
  let hp0 := s.heap.push { cls := .type "set", dict := none, data := .set #[] 0 (.fresh 0 0 (!w.params.followText "set-order")) }
  refine codeAny_mono (code_set_led1 (.ref l) (E := E) (Q₁ := fun obj s₁ => obj = .ref s.heap.objs.size ∧ s₁ = { s with heap := hp0 }) ⟨rfl, rfl⟩) fun r s₁ hr => ?_
  cases r with
  | error e => exact hr
  | ok fl =>
    cases fl with
    | ret obj =>
      obtain ⟨rfl, rfl⟩ := hr
      have hS : hp0.get? s.heap.objs.size = some { cls := .type "set", dict := none, data := .set #[] 0 (.fresh 0 0 (!w.params.followText "set-order")) } := Heap.get?_push_size _ rfl
      have hT : Shared.TypeIs { s with heap := hp0 } (.ref s.heap.objs.size) "set" := ⟨_, hS, rfl⟩
      have hli := F.called_set.init.lookup
      have hbi := F.called_set.init.bind (.ref s.heap.objs.size)
      repeat (any_goals (first | assumption | wp_step))
      refine codeAny_mono (codeAny_call_builtin (R := wants (fun r s₂ => r = .none ∧ ∃ h' tk L es ep t, s₂ = { s with heap := h', toks := tk } ∧ SetTR P w h' s.heap.objs.size L es ep t ∧ Got ks ks.length L ∧
          (∀ b o, s.heap.get? b = some o → h'.get? b = some o)) E) F.called_set.init.plain F.entry_set_init (check_set_init_1 hT ?_)) fun r₂ s₂ hr₂ => ?_
      · obtain ⟨⟨ocls, odict, odata, oslots⟩, hol, hcl, nl, hdl⟩ := hl
        simp only at hcl hdl
        subst hcl; subst hdl
        have hol' : hp0.get? l = some { cls := .type "tuple", dict := odict, data := .seq items nl, slots := oslots } := Heap.get?_push_of_some _ hol
        have hsls := F.sub_tuple_set
        have hslf := F.sub_tuple_frozenset
        have hne : (Value.type "tuple" == Value.type "dict") = false := by decide
        have hl1 : hp0.IsTuple l items := ⟨_, hol', rfl, nl, rfl⟩
        unfold Builtin.«set.__init__» noKeywords Builtin.Frozenset.updateFrom
        generalize hPI : pyIter = PI
        wp_walk
        subst hPI
        refine wpAny_pyIter_tuple hl1 ?_
        refine wpAny_bind (wpAny_runValue ?_)
        have hlS : l < s.heap.objs.size := Heap.lt_size hol
        have hh3 : A.in1.in1.in1.handled = none := by simp [hh]
        have hz1 : hp0.objs.size = s.heap.objs.size + 1 := Heap.size_push ..
        have hneI : l ≠ hp0.objs.size := by rw [hz1]; exact Nat.ne_of_lt (Nat.lt_succ_of_lt hlS)
        have hSf : s.heap.objs.size ∉ [hp0.objs.size, l] := by
          rw [hz1]; simp only [List.mem_cons, List.not_mem_nil, or_false, not_or]; exact ⟨Nat.ne_of_lt (Nat.lt_succ_self _), Nat.ne_of_gt hlS⟩
        have hval : ∀ (i : Nat) (v : Value), items[i]? = some v → ∃ p, ks[i]? = some p ∧ v = .ref p.1 := fun i v hv => by
          have q : (ks.map fun p => Value.ref p.1)[i]? = some v := by rw [← hit, Array.getElem?_toList]; exact hv
          rw [List.getElem?_map] at q
          obtain ⟨p, hp, e⟩ := Option.map_eq_some_iff.mp q
          exact ⟨p, hp, e.symm⟩
        have none_of : ∀ b, s.heap.objs.size ≤ b → s.heap.get? b = none := fun b hb => Heap.get?_none_of_le hb
        refine set_update_tups ((Walks.tuple hh3 _ l hneI items).toS) s.heap.objs.size
          hSf ks hisz hfew hval s.heap hk (none_of _ (Nat.le_refl _)) (fun b hb => none_of b (by rw [List.mem_singleton.mp hb, hz1]; omega)) hu (items.size - 0) 0 _ (by omega) (Nat.zero_le _)
          ⟨⟨_, Heap.get?_push_size _ rfl, rfl, rfl⟩, (hl1.push _)⟩ (fun b o e => Heap.get?_push_of_some _ (Heap.get?_push_of_some _ e)) ?hS0 ?hR
        case hS0 => exact ⟨[], #[], 0, _, setTR_fresh (Heap.get?_push_of_some _ hS), Got.zero ks⟩
        case hR =>
          intro s' L es ep t hm hS' g' hkp
          obtain ⟨h', g2, d', tk', os'⟩ := s'
          obtain rfl : g2 = s.gens := hm.gens
          obtain rfl : d' = s.drawn := hm.drawn
          obtain rfl : os' = s.os := hm.os
          show wpAny _ _ _ _ _ _
          refine wpAny_pure ?_
          show wpAny _ _ (ret Value.none) _ _ _
          rw [hisz] at g'
          exact wpAny_pure ⟨rfl, h', tk', L, es, ep, t, rfl, hS', g', hkp⟩
      · cases r₂ with
        | error e => exact hr₂
        | ok fl₂ =>
          cases fl₂ with
          | ret r =>
            obtain ⟨rfl, h', tk, L, es, ep, t, rfl, hS', g', hk'⟩ := hr₂
            repeat (any_goals (first | assumption | wp_step))
            exact h _ _ _ _ _ _ hS' g' hk'
          | _ => exact hr₂.elim
    | _ => exact hr.elim
end

section
variable {X : Cx}
/-- set(xs), xs a list or a tuple of tuples of ints -/
def rSetRows (K : PySem.W.Frag) (P : Program) (w : World) : List V → Hp → VK → Prop := fun xs H Q => ∃ (l : Addr) (ks : List (Addr × List Int)), xs = [V.ref l] ∧ (SqL K H l (ks.map fun p => V.ref p.1) ∨ SqT K H l (ks.map fun p => V.ref p.1)) ∧
  (∀ p ∈ ks, SqT K H p.1 (p.2.map V.int)) ∧ ks.length < 64 ∧ ∀ a L, H a = none → (∀ p ∈ L, p ∈ ks) → (∀ p ∈ ks, p.2 ∈ L.map (·.2)) → Q (.ref a) (upd H a (SetTO P w a L))
theorem cr_setRows (hc : X.calm = true) (hu : X.A.units + 64 < cLine) : CallR X (.type "set") (rSetRows X.K X.prog X.w) := by
  intro pins s σ H xs us Q I r h
  obtain ⟨l, ks, rfl, hl | hl, hk, hf, q⟩ := h
  · exact cr_setOfT hc hu pins s σ H _ us Q I r ⟨l, ks, rfl, hl, hk, hf, q⟩
  · rw [Vals.ref1 r]
    obtain ⟨its, rv, pl, hz⟩ := I.tuple hl
    have hn : H s.heap.objs.size = none := I.hok.fresh (Nat.le_refl _)
    refine set_rowsT (P := X.prog) (w := X.w) ks (I.ok.hd hc) pl (by simpa using refs_of_vals rv) (fun p hp => I.isT (hk p hp)) hf (by omega) fun h' tk L es ep t R g k => ?_
    refine ⟨.ref s.heap.objs.size, upd H s.heap.objs.size (SetTO X.prog X.w s.heap.objs.size L), I.laid (t' := tk) k (Nat.le_refl _) (setTO_new R.t0), rfl, q _ L hn (fun p hp => ?_) fun p hp => ?_⟩
    · exact List.mem_of_mem_take (g.sub p hp)
    · exact g.all p (by rw [List.take_length]; exact hp)
end
namespace W
def nubG {α : Type} [DecidableEq α] : List α → List α
  | [] => []
  | x :: xs => if x ∈ xs then nubG xs else x :: nubG xs
abbrev ltPP : Int × Int → Int × Int → Bool := ltP ltI ltI
/-- the rows, each once, sorted -/
def setP (xs : List (Int × Int)) : List (Int × Int) := sortBy ltPP (nubG xs)
end W
theorem mem_nubG {α : Type} [DecidableEq α] (x : α) : ∀ xs : List α, x ∈ W.nubG xs ↔ x ∈ xs
  | [] => Iff.rfl
  | y :: xs => by
    unfold W.nubG
    by_cases h : y ∈ xs
    · rw [if_pos h, mem_nubG x xs, List.mem_cons]
      exact ⟨.inr, fun z => z.elim (fun e => by rw [e]; exact h) id⟩
    · rw [if_neg h, List.mem_cons, List.mem_cons, mem_nubG x xs]
theorem nodup_nubG {α : Type} [DecidableEq α] : ∀ xs : List α, (W.nubG xs).Nodup
  | [] => List.nodup_nil
  | y :: xs => by
    unfold W.nubG
    by_cases h : y ∈ xs
    · rw [if_pos h]; exact nodup_nubG xs
    · rw [if_neg h]; exact List.nodup_cons.mpr ⟨fun z => h ((mem_nubG y xs).mp z), nodup_nubG xs⟩
theorem ltPP_iff {a b : Int × Int} : W.ltPP a b = true ↔ a.1 < b.1 ∨ (a.1 = b.1 ∧ a.2 < b.2) := by
  unfold W.ltPP W.ltP W.ltI
  by_cases h : a.1 = b.1
  · rw [if_pos h]; simp [h]
  · rw [if_neg h]; simp [h]
theorem setP_mem (x : Int × Int) (xs : List (Int × Int)) : x ∈ W.setP xs ↔ x ∈ xs := by
  have := (List.mergeSort_perm (W.nubG xs) fun a b => !W.ltPP b a).mem_iff (a := x)
  exact this.trans (mem_nubG x xs)
theorem setP_lt (xs : List (Int × Int)) : (W.setP xs).Pairwise fun a b => W.ltPP a b = true := by
  have s : (W.setP xs).Pairwise fun a b => (!W.ltPP b a) = true := List.pairwise_mergeSort (le := fun a b => !W.ltPP b a) (fun a b c h1 h2 => by
    simp only [Bool.not_eq_true', ← Bool.not_eq_true, ltPP_iff] at h1 h2 ⊢
    omega) (fun a b => by
    simp only [Bool.or_eq_true, Bool.not_eq_true', ← Bool.not_eq_true, ltPP_iff]
    omega) _
  have n : (W.setP xs).Nodup := (List.mergeSort_perm (W.nubG xs) fun a b => !W.ltPP b a).nodup_iff.mpr (nodup_nubG xs)
  refine (s.and n).imp fun {a b} ⟨h1, h2⟩ => ?_
  simp only [Bool.not_eq_true', ← Bool.not_eq_true, ltPP_iff] at h1 ⊢
  have : ¬ (a.1 = b.1 ∧ a.2 = b.2) := fun e => h2 (Prod.ext e.1 e.2)
  omega
theorem setP_uniq {ms ns : List (Int × Int)} (h : ms.Pairwise fun a b => W.ltPP a b = true) (k : ∀ x, x ∈ ms ↔ x ∈ ns) : ms = W.setP ns := by
  have nd : ∀ {l : List (Int × Int)}, (l.Pairwise fun a b => W.ltPP a b = true) → l.Nodup := fun h => h.imp fun {a b} h e => by
    subst e
    rw [ltPP_iff] at h
    omega
  refine List.Perm.eq_of_pairwise (le := fun a b => W.ltPP a b = true) (fun a b _ _ h1 h2 => ?_) h (setP_lt ns) ?_
  · rw [ltPP_iff] at h1 h2
    omega
  · exact (List.perm_ext_iff_of_nodup (nd h) (nd (setP_lt ns))).mpr fun x => by rw [k, setP_mem]
section
variable {K : PySem.W.Frag} {P : Program} {w : World} {es es' : List Sl} {te : TE} {α β : Type} {m : W α}
abbrev rowI (p : Int × Int) : List Int := [p.1, p.2]
theorem rows_of {B : Hp} : ∀ (xs : List (Int × Int)) {ws : List V}, DpAll K B ws (xs.map (eP2 eI eI)) → ∃ ks : List (Addr × List Int), ws = ks.map (fun p => V.ref p.1) ∧ ks.map (·.2) = xs.map rowI ∧ ∀ p ∈ ks, SqT K B p.1 (p.2.map V.int)
  | [], _, .nil => ⟨[], rfl, rfl, fun p h => nomatch h⟩
  | x :: xs, _, .cons d t => by
    obtain ⟨ks, e1, e2, h⟩ := rows_of xs t
    cases d with
    | tup hs ha =>
      cases ha with
      | cons d1 t1 => cases d1; cases t1 with
        | cons d2 t2 =>
          cases d2; cases t2
          rename_i a
          refine ⟨(a, rowI x) :: ks, by rw [e1]; rfl, by rw [List.map_cons, e2]; rfl, fun p hp => ?_⟩
          rcases List.mem_cons.mp hp with rfl | hp
          · exact hs
          · exact h p hp
theorem dp_rows {B : Hp} : ∀ (L : List (Addr × List Int)) (xs : List (Int × Int)), L.map (·.2) = xs.map rowI → (∀ p ∈ L, SqT K B p.1 (p.2.map V.int)) → DpAll K B (L.map fun p => V.ref p.1) (xs.map (eP2 eI eI))
  | [], [], _, _ => .nil
  | [], x :: xs, h, _ => nomatch h
  | p :: L, [], h, _ => nomatch h
  | p :: L, x :: xs, h, hk => by
    simp only [List.map_cons, List.cons.injEq] at h
    have q := hk p (List.mem_cons_self)
    rw [h.1] at q
    exact .cons (.tup q (.cons (.int _) (.cons (.int _) .nil))) (dp_rows L xs h.2 fun r hr => hk r (List.mem_cons_of_mem _ hr))
/-- rows whose codes rise are the rows sorted -/
theorem rows_uniq {xs : List (Int × Int)} {L : List (Addr × List Int)} (hb : ∀ p ∈ xs, 0 ≤ p.1 ∧ p.1 < 64 ∧ 0 ≤ p.2 ∧ p.2 < 64) (hs : ∀ p ∈ L, p.2 ∈ xs.map rowI) (ha : ∀ x ∈ xs, rowI x ∈ L.map (·.2)) (hn : (L.map (·.2)).Nodup)
    (hp : L.Pairwise fun q r => TS.code 64 q.2 ≤ TS.code 64 r.2) : L.map (·.2) = (W.setP xs).map rowI := by
  have get : ∀ p ∈ L, p.2 = rowI (p.2.getD 0 0, p.2.getD 1 0) ∧ (p.2.getD 0 0, p.2.getD 1 0) ∈ xs := fun p h => by
    obtain ⟨x, hx, e⟩ := List.mem_map.mp (hs p h)
    rw [← e]
    exact ⟨rfl, hx⟩
  have e0 : L.map (·.2) = (L.map fun p => (p.2.getD 0 0, p.2.getD 1 0)).map rowI := by
    rw [List.map_map]
    exact List.map_congr_left fun p h => (get p h).1
  rw [e0]
  congr 1
  refine setP_uniq (List.pairwise_map.mpr ?_) fun x => ⟨fun h => ?_, fun h => ?_⟩
  · refine List.Pairwise.imp_of_mem (fun {p q} h1 h2 ⟨c, ne⟩ => ?_) (hp.and (List.pairwise_map.mp hn))
    have g1 := get p h1
    have g2 := get q h2
    have b1 := hb _ g1.2
    have b2 := hb _ g2.2
    rw [g1.1, g2.1] at c ne
    rw [ltPP_iff]
    exact pair_lt c ne ⟨b1.1, b1.2.1⟩ b1.2.2 ⟨b2.1, b2.2.1⟩ b2.2.2
  · obtain ⟨p, hp, rfl⟩ := List.mem_map.mp h
    exact (get p hp).2
  · obtain ⟨p, hp, e⟩ := List.mem_map.mp (ha x h)
    exact List.mem_map.mpr ⟨p, hp, by rw [e] <;> rfl⟩
theorem x_sortSetP {f : α → PyData} (g : α → List (Int × Int)) (hd : ∀ a, f a = .list ((g a).map (eP2 eI eI)) ∨ f a = .tuple ((g a).map (eP2 eI eI))) (h : EvX K te es (eV f) m) :
    EvX K (tCB (rSortedT K P w) (tCons (tCB (rSetRows K P w) (tCons te tNil)) tNil)) es (eN (eP2 eI eI)) (.bind m fun a => .chk ((g a).length < 64 ∧ ∀ p ∈ g a, 0 ≤ p.1 ∧ p.1 < 64 ∧ 0 ≤ p.2 ∧ p.2 < 64) (W.setP (g a))) := fun B0 H0 B σ H o Pp hP Q q =>
  h B0 H0 B σ H o _ hP _ fun a v B1 H1 ⟨⟨hl, hb⟩, pa⟩ s1 d1 => by
    have d1 : Dp K B1 v (f a) := d1
    have key : ∃ (l : Addr) (ks : List (Addr × List Int)), v = V.ref l ∧ (SqL K H1 l (ks.map fun p => V.ref p.1) ∨ SqT K H1 l (ks.map fun p => V.ref p.1)) ∧ ks.map (·.2) = (g a).map rowI ∧ ∀ p ∈ ks, SqT K B1 p.1 (p.2.map V.int) := by
      rcases hd a with e | e
      · rw [e] at d1
        cases d1 with
        | lst hs ha =>
          obtain ⟨ks, e1, e2, hk⟩ := rows_of (g a) ha
          subst e1
          exact ⟨_, ks, rfl, .inl (Same.seq s1.bh hs), e2, hk⟩
      · rw [e] at d1
        cases d1 with
        | tup hs ha =>
          obtain ⟨ks, e1, e2, hk⟩ := rows_of (g a) ha
          subst e1
          exact ⟨_, ks, rfl, .inr (sameT s1.bh hs), e2, hk⟩
    obtain ⟨l, ks, rfl, hs, e2, hk⟩ := key
    have hlen : ks.length = (g a).length := by have := congrArg List.length e2; simpa using this
    refine ⟨l, ks, rfl, hs, fun p hp => sameT s1.bh (hk p hp), by omega, fun c L hc hsub hall => ?_⟩
    have s2 : Stp B1 H1 B1 (upd H1 c (SetTO P w c L)) := Stp.open s1.bh hc
    have mem : ∀ p ∈ L, p.2 ∈ (g a).map rowI := fun p hp => by
      rw [← e2]
      exact List.mem_map.mpr ⟨p, hsub p hp, rfl⟩
    refine ⟨c, L, 2, 64, rfl, upd_same, fun p hp => sameT s2.bh (hk p (hsub p hp)), by decide, fun p hp => ?_, fun L' r pm hn _ hpw hr => ?_⟩
    · obtain ⟨x, hx, e⟩ := List.mem_map.mp (mem p hp)
      rw [← e]
      refine ⟨rfl, fun z hz => ?_⟩
      have b := hb x hx
      simp only [rowI, List.mem_cons, List.not_mem_nil, or_false] at hz
      rcases hz with rfl | rfl
      · exact ⟨b.1, b.2.1⟩
      · exact b.2.2
    · have eq : L'.map (·.2) = (W.setP (g a)).map rowI := rows_uniq hb (fun p hp => mem p (pm.mem_iff.mp hp)) (fun x hx => by
        have : rowI x ∈ ks.map (·.2) := by rw [e2]; exact List.mem_map.mpr ⟨x, hx, rfl⟩
        obtain ⟨p, hp, e⟩ := List.mem_map.mp this
        rw [← e, (pm.map (·.2)).mem_iff]
        exact hall p hp) hn hpw
      have hne : c ≠ r := fun z => by subst z; rw [upd_same] at hr; cases hr
      have hr1 : H1 r = none := by rw [upd_ne (Ne.symm hne)] at hr; exact hr
      refine q _ _ B1 _ pa (s1.trans (s2.trans (Stp.open s2.bh hr))) ⟨r, _, rfl, s1.hh.free hr1, s1.bh.free hr1, upd_same, ?_⟩
      exact dp_rows L' _ eq fun p hp => hk p (hsub p (pm.mem_iff.mp hp))
end

/-- str of an int -/
def rStrI : List V → Hp → VK → Prop := fun xs H Q => ∃ i : Int, xs = [.int i] ∧ i.natAbs.log2 < 1920 ∧ Q (.str (PySem.Str.ofString (toString i))) H
section
variable {X : Cx} {K : PySem.W.Frag}
theorem call_strI : CallR X (.type "str") rStrI := call_str_int
theorem c_strI (a : Int) : RcX K rStrI [.d (eI a)] (eV eS) (.chk (a.natAbs.log2 < 1920) (PySem.Str.ofString (toString a))) := fun B H vs sb ha Pp hP Q q => by
  cases ha with
  | cons d t => cases t; cases d; exact ⟨a, rfl, hP.1, q _ _ B H hP.2 (Stp.refl sb) (Dp.str _)⟩
end

/-! < of any data -/
def CmpA (a b : PyData) : Prop := PySem.W.alike a b = true ∧ a ≠ .none ∧ a.depth ≤ 60
section
variable {K : PySem.W.Frag}
theorem cmpA {B H : Hp} {a b : PyData} {v w : V} (h : CmpA a b) (sb : Same B H) (x : DV K B H (.d a) v) (y : DV K B H (.d b) w) : CmpOk K H v w a b := ⟨dpMono sb x, dpMono sb y, h.1, h.2.1, by have := h.2.2; omega⟩
theorem r_ltA (a b : PyData) : RvX K (rLtD K) (.d (eA a)) (.d (eA b)) (eV eB) (.chk (CmpA a b) (PySem.W.dataLt a b)) := fun B H v w sb x y P hP Q q => ⟨a, b, cmpA hP.1 sb x y, q _ _ B H hP.2 (Stp.refl sb) (Dp.bl _)⟩
theorem r_gtA (a b : PyData) : RvX K (rGtD K) (.d (eA a)) (.d (eA b)) (eV eB) (.chk (CmpA a b) (PySem.W.dataLt b a)) := fun B H v w sb x y P hP Q q => ⟨a, b, cmpA hP.1 sb x y, q _ _ B H hP.2 (Stp.refl sb) (Dp.bl _)⟩
theorem r_leA (a b : PyData) : RvX K (rLeD K) (.d (eA a)) (.d (eA b)) (eV eB) (.chk (CmpA a b) (!PySem.W.dataLt b a)) := fun B H v w sb x y P hP Q q => ⟨a, b, cmpA hP.1 sb x y, q _ _ B H hP.2 (Stp.refl sb) (Dp.bl _)⟩
theorem r_geA (a b : PyData) : RvX K (rGeD K) (.d (eA a)) (.d (eA b)) (eV eB) (.chk (CmpA a b) (!PySem.W.dataLt a b)) := fun B H v w sb x y P hP Q q => ⟨a, b, cmpA hP.1 sb x y, q _ _ B H hP.2 (Stp.refl sb) (Dp.bl _)⟩
end
end HM
end
section
/-! W 12: any data as a word -/
namespace HM
open PySem PySem.Spec PyProof.Rows L2 RZ
def W.anyW (w : Str) : PyData → Option Unit
  | .str z => if z = w then some () else none
  | _ => none
theorem cp_AW {w : Str} : Cp eA (eW w) (W.anyW w) := fun a b e => by
  cases a with
  | str z =>
    unfold W.anyW at e
    by_cases h : z = w
    · rw [h] <;> rfl
    · simp [h] at e
  | _ => simp [W.anyW] at e
end HM
end
section
/-! W, plain: what programs come to -/
namespace HM
open PySem PySem.Spec PyProof.Rows L2 RZ
namespace W
variable {α β γ σ ρ : Type}
theorem chk_pos {c : Prop} {a : α} (h : c) : chk c a = pure a := chk_of h
theorem comp_pure {c : α → W Bool} {f : α → W β} {b : α → Bool} {v : α → β} : ∀ {xs : List α}, (∀ x ∈ xs, c x = pure (b x)) → (∀ x ∈ xs, b x = true → f x = pure (v x)) → comp xs c f = pure ((xs.filter b).map v)
  | [], _, _ => rfl
  | x :: xs, h1, h2 => by
    unfold comp
    rw [h1 x List.mem_cons_self, pure_bind, comp_pure (fun y hy => h1 y (List.mem_cons_of_mem _ hy)) (fun y hy => h2 y (List.mem_cons_of_mem _ hy))]
    cases q : b x with
    | true => rw [ite_t, h2 x List.mem_cons_self q, pure_bind, pure_bind, List.filter_cons_of_pos q, List.map_cons]
    | false => rw [ite_f, List.filter_cons_of_neg (by rw [q]; exact Bool.false_ne_true)]
theorem compC_pure {c : α → W Bool} {f : α → W β} (b : α → Bool) (v : α → β) {xs : List α} (hl : xs.length ≤ 8000000) (h1 : ∀ x ∈ xs, c x = pure (b x)) (h2 : ∀ x ∈ xs, b x = true → f x = pure (v x)) : compC xs c f = pure ((xs.filter b).map v) := by
  unfold compC
  rw [chk_pos hl, pure_bind, comp_pure h1 h2]
theorem compC_filter {c : α → W Bool} (b : α → Bool) {xs : List α} (hl : xs.length ≤ 8000000) (h1 : ∀ x ∈ xs, c x = pure (b x)) : compC xs c (fun x => pure x) = pure (xs.filter b) := by
  have := compC_pure (f := fun x => pure x) b (fun x => x) hl h1 fun _ _ _ => rfl
  rwa [List.map_id'] at this
theorem compC_map {f : α → W β} (v : α → β) {xs : List α} (hl : xs.length ≤ 8000000) (h2 : ∀ x ∈ xs, f x = pure (v x)) : compC xs (fun _ => pure true) f = pure (xs.map v) := by
  have := compC_pure (c := fun _ => pure true) (fun _ => true) v hl (fun _ _ => rfl) fun x hx _ => h2 x hx
  rwa [List.filter_eq_self.mpr fun _ _ => rfl] at this
/-- values of a predicate -/
theorem comp_wp {c : α → W Bool} {f : α → W β} {I : List β → Prop} : ∀ {xs : List α} {P : List β → Prop} (Q : List β → List α → Prop), (∀ ys, Q ys [] → P ys) → ∀ (ys : List β), Q ys xs → (∀ ys x xs, Q ys (x :: xs) → (c x).wp fun b => if b = true then (f x).wp fun y => Q (ys ++ [y]) xs else Q ys xs) → (comp xs c f).wp fun zs => P (ys ++ zs)
  | [], P, Q, h0, ys, hq, _ => by
    show P (ys ++ [])
    rw [List.append_nil]
    exact h0 ys hq
  | x :: xs, P, Q, h0, ys, hq, hs => by
    unfold comp
    refine (c x).mono _ _ (fun b hb => ?_) (hs ys x xs hq)
    cases b with
    | true =>
      rw [if_pos rfl] at hb
      refine (f x).mono _ _ (fun y hy => ?_) hb
      have := comp_wp (I := I) Q h0 (ys ++ [y]) hy hs
      refine (comp xs c f).mono _ _ (fun r hr => ?_) this
      show P (ys ++ (y :: r))
      rwa [List.append_assoc] at hr
    | false =>
      rw [if_neg Bool.false_ne_true] at hb
      exact comp_wp (I := I) Q h0 ys hb hs
/-- a filter that is drawn: some sublist -/
theorem compC_sub {c : α → W Bool} {xs : List α} (hl : xs.length ≤ 8000000) (hc : ∀ x ∈ xs, (c x).wp fun _ => True) : (compC xs c fun x => pure x).wp fun ys => ys.Sublist xs := by
  refine ⟨hl, ?_⟩
  show (comp xs c fun x => pure x).wp _
  induction xs with
  | nil => exact List.Sublist.refl _
  | cons x xs ih =>
    unfold comp
    refine (c x).mono _ _ (fun b _ => ?_) (hc x List.mem_cons_self)
    have := ih (by simp at hl; omega) fun y hy => hc y (List.mem_cons_of_mem _ hy)
    cases b with
    | true => exact (comp xs c fun x => pure x).mono _ _ (fun r hr => hr.cons_cons x) this
    | false => exact (comp xs c fun x => pure x).mono _ _ (fun r hr => hr.cons x) this
/-- each item by a predicate -/
theorem compC_each {f : α → W β} {Q : α → β → Prop} {xs : List α} (hl : xs.length ≤ 8000000) (hf : ∀ x ∈ xs, (f x).wp (Q x)) : (compC xs (fun _ => pure true) f).wp fun ys => ys.length = xs.length ∧ ∀ i (h : i < xs.length) (h' : i < ys.length), Q xs[i] ys[i] := by
  refine ⟨hl, ?_⟩
  show (comp xs _ f).wp _
  induction xs with
  | nil => exact ⟨rfl, fun i h => by simp at h⟩
  | cons x xs ih =>
    unfold comp
    refine (f x).mono _ _ (fun y hy => ?_) (hf x List.mem_cons_self)
    refine (comp xs (fun _ => pure true) f).mono _ _ (fun r hr => ?_) (ih (by simp at hl; omega) fun y hy => hf y (List.mem_cons_of_mem _ hy))
    refine ⟨by simp [hr.1], fun i h h' => ?_⟩
    cases i with
    | zero => exact hy
    | succ i => exact hr.2 i (by simpa using h) (by simpa using h')
theorem compC_allP {f : α → W β} {Q : β → Prop} {xs : List α} (hl : xs.length ≤ 8000000) (hf : ∀ x ∈ xs, (f x).wp Q) : (compC xs (fun _ => pure true) f).wp fun ys => ys.length = xs.length ∧ ∀ y ∈ ys, Q y :=
  (compC xs _ f).mono _ _ (fun ys ⟨h1, h2⟩ => ⟨h1, fun y hy => by
    obtain ⟨i, hi, e⟩ := List.mem_iff_getElem.mp hy
    rw [← e]
    exact h2 i (by omega) hi⟩) (compC_each (Q := fun _ => Q) hl hf)
theorem atI_of' {xs : List α} {i : Int} (h0 : 0 ≤ i) (h : i < xs.length) : atI xs i = some (xs[i.toNat]'(by omega)) := by
  exact atI_of (j := i.toNat) (List.getElem?_eq_getElem (by omega)) (by omega)
theorem at_eq {xs : List α} {i : Int} (h0 : 0 ≤ i) (h : i < xs.length) : at' xs i = pure (xs[i.toNat]'(by omega)) := get_of (atI_of' h0 h)
theorem at_getD {xs : List α} {i : Int} (d : α) (h0 : 0 ≤ i) (h : i < xs.length) : at' xs i = pure (xs.getD i.toNat d) := by
  rw [at_eq h0 h, List.getD_eq_getElem?_getD, List.getElem?_eq_getElem (by omega)]
  rfl
theorem set_eq' {xs : List α} {i : Int} {v : α} (h0 : 0 ≤ i) (h : i < xs.length) : setAt xs i v = pure (xs.set i.toNat v) := chk_pos ⟨h0, h⟩
theorem range1_eq {n : Int} (h1 : -1000000 < n) (h2 : n < 1000000) : range1 n = pure (rangeI 0 n) := chk_pos ⟨h1, h2⟩
theorem range2_eq {l n : Int} (h1 : -1000000 < l) (h2 : l < 1000000) (h3 : -1000000 < n) (h4 : n < 1000000) : range2 l n = pure (rangeI l n) := chk_pos ⟨h1, h2, h3, h4⟩
theorem mem_rangeI {l n i : Int} : i ∈ rangeI l n ↔ l ≤ i ∧ i < n := by
  unfold rangeI
  rw [List.mem_map]
  constructor
  · rintro ⟨k, hk, rfl⟩
    have := List.mem_range.mp hk
    omega
  · rintro ⟨h1, h2⟩
    exact ⟨(i - l).toNat, List.mem_range.mpr (by omega), by omega⟩
theorem rangeI_length {l n : Int} : (rangeI l n).length = (n - l).toNat := by simp [rangeI]
theorem rangeI_getElem {l n : Int} {k : Nat} (h : k < (rangeI l n).length) : (rangeI l n)[k] = l + k := by simp [rangeI]
theorem rangeI_lt {l n : Int} : (rangeI l n).Pairwise (· < ·) := by
  unfold rangeI
  refine List.Pairwise.map _ (fun a b h => ?_) List.pairwise_lt_range
  omega
theorem rangeI_empty {l n : Int} (h : n ≤ l) : rangeI l n = [] := by
  have : (rangeI l n).length = 0 := by rw [rangeI_length]; omega
  exact List.length_eq_zero_iff.mp this
theorem rangeI_snoc {l n : Int} (h : l ≤ n) : rangeI l (n + 1) = rangeI l n ++ [n] := by
  unfold rangeI
  rw [show (n + 1 - l).toNat = (n - l).toNat + 1 by omega, List.range_succ, List.map_append]
  simp
  omega
theorem rangeI_cons {l n : Int} (h : l < n) : rangeI l n = l :: rangeI (l + 1) n := by
  unfold rangeI
  rw [show (n - l).toNat = (n - (l + 1)).toNat + 1 by omega, List.range_succ_eq_map, List.map_cons, List.map_map]
  simp
  intro a _
  omega
/-! loops -/
theorem forS_pure {f : α → σ → W σ} (g : α → σ → σ) (I : σ → Prop) : ∀ {xs : List α} {s : σ}, I s → (∀ x ∈ xs, ∀ s, I s → f x s = pure (g x s) ∧ I (g x s)) → forS xs s f = pure (xs.foldl (fun s x => g x s) s)
  | [], s, _, _ => rfl
  | x :: xs, s, hi, h => by
    obtain ⟨h1, h2⟩ := h x List.mem_cons_self s hi
    unfold forS
    rw [h1, pure_bind, forS_pure g I h2 fun y hy => h y (List.mem_cons_of_mem _ hy)]
    rfl
theorem foldl_inv {g : α → σ → σ} (I : σ → Prop) {xs : List α} : ∀ {s : σ}, I s → (∀ x ∈ xs, ∀ s, I s → I (g x s)) → I (xs.foldl (fun s x => g x s) s) := by
  induction xs with
  | nil => exact fun hi _ => hi
  | cons x xs ih => exact fun hi h => ih (h x List.mem_cons_self _ hi) fun y hy => h y (List.mem_cons_of_mem _ hy)
/-- by what is behind and what is left -/
theorem forS_wp {f : α → σ → W σ} (I : List α → List α → σ → Prop) : ∀ {ys xs : List α} {s : σ}, I ys xs s → (∀ ys x xs s, I ys (x :: xs) s → (f x s).wp fun s' => I (ys ++ [x]) xs s') → (forS xs s f).wp fun s' => I (ys ++ xs) [] s'
  | ys, [], s, hi, _ => by
    show I (ys ++ []) [] s
    rwa [List.append_nil]
  | ys, x :: xs, s, hi, h => by
    unfold forS
    refine (f x s).mono _ _ (fun s' hs => ?_) (h ys x xs s hi)
    have := forS_wp I (ys := ys ++ [x]) hs h
    rwa [List.append_assoc] at this
theorem forS_inv {f : α → σ → W σ} (I : σ → Prop) {xs : List α} {s : σ} (h0 : I s) (h : ∀ x ∈ xs, ∀ s, I s → (f x s).wp I) : (forS xs s f).wp I := by
  induction xs generalizing s with
  | nil => exact h0
  | cons x xs ih =>
    unfold forS
    exact (f x s).mono _ _ (fun s' hs => ih hs fun y hy => h y (List.mem_cons_of_mem _ hy)) (h x List.mem_cons_self s h0)
/-- a loop that never leaves -/
theorem forF_inv {f : α → σ → W (Fl σ ρ)} (I : σ → Prop) {xs : List α} {s : σ} {P : Fl σ ρ → Prop} (h0 : I s) (hP : ∀ s, I s → P (.nx s)) (h : ∀ x ∈ xs, ∀ s, I s → (f x s).wp fun | .nx s' => I s' | .rt r => P (.rt r)) : (forF xs s f).wp P := by
  induction xs generalizing s with
  | nil => exact hP s h0
  | cons x xs ih =>
    unfold forF
    refine (f x s).mono _ _ (fun r hr => ?_) (h x List.mem_cons_self s h0)
    cases r with
    | nx s' => exact ih hr fun y hy => h y (List.mem_cons_of_mem _ hy)
    | rt r => exact hr
theorem forF_unit {f : α → Unit → W (Fl Unit ρ)} {xs : List α} (h : ∀ x ∈ xs, f x () = pure (.nx ())) : forF xs () f = pure (.nx ()) := by
  induction xs with
  | nil => rfl
  | cons x xs ih =>
    unfold forF
    rw [h x List.mem_cons_self, pure_bind]
    exact ih fun y hy => h y (List.mem_cons_of_mem _ hy)
theorem forF_pure {f : α → σ → W (Fl σ ρ)} (g : α → σ → σ) (I : σ → Prop) : ∀ {xs : List α} {s : σ}, I s → (∀ x ∈ xs, ∀ s, I s → f x s = pure (.nx (g x s)) ∧ I (g x s)) → forF xs s f = pure (.nx (xs.foldl (fun s x => g x s) s))
  | [], s, _, _ => rfl
  | x :: xs, s, hi, h => by
    obtain ⟨h1, h2⟩ := h x List.mem_cons_self s hi
    unfold forF
    rw [h1, pure_bind]
    exact forF_pure g I h2 fun y hy => h y (List.mem_cons_of_mem _ hy)
/-- while, with a number that falls -/
theorem while_wp {c : σ → W Bool} {f : σ → W σ} (I : Nat → σ → Prop) {P : σ → Prop} (h : ∀ n s, I n s → (c s).wp fun b => if b = true then (f s).wp fun s' => ∃ m, m < n ∧ I m s' else P s) {n : Nat} {s : σ} (h0 : I n s) : (whileS s c f).wp P := by
  suffices ∀ n s, I n s → (whileN (n + 1) s c f).wp P from ⟨n + 1, this n s h0⟩
  have up : ∀ k m s, m ≤ k → (whileN m s c f).wp P → (whileN k s c f).wp P := by
    intro k
    induction k with
    | zero =>
      intro m s hm hw
      have : m = 0 := by omega
      subst this
      exact hw
    | succ k ih =>
      intro m s hm hw
      by_cases e : m = k + 1
      · subst e; exact hw
      · exact whileN_up k s (ih m s (by omega) hw)
  intro n
  induction n using Nat.strongRecOn with
  | ind n ih =>
    intro s hs
    unfold whileN
    refine (c s).mono _ _ (fun b hb => ?_) (h n s hs)
    cases b with
    | true =>
      rw [if_pos rfl] at hb
      exact (f s).mono _ _ (fun s' ⟨m, hm, hI⟩ => up n (m + 1) s' (by omega) (ih m hm s' hI)) hb
    | false => rw [if_neg Bool.false_ne_true] at hb; exact hb
theorem bind_wp {m : W α} {k : α → W β} {P : β → Prop} {Q : α → Prop} (h : m.wp Q) (hk : ∀ a, Q a → (k a).wp P) : (bind m k).wp P := m.mono _ _ hk h
theorem draw_wp {n : Int} {P : Int → Prop} (h0 : 0 < n) (h1 : n ≤ 1000000) (h : ∀ d, 0 ≤ d → d < n → P d) : (draw n).wp P := ⟨⟨h0, h1⟩, h⟩
theorem all_id {xs : List α} {f : α → Bool} (h : ∀ x ∈ xs, f x = true) : (xs.map f).all id = true := by
  rw [List.all_map]
  exact List.all_eq_true.mpr fun x hx => h x hx
@[simp] theorem all_true {xs : List α} : (xs.map fun _ => true).all id = true := all_id fun _ _ => rfl
@[simp] theorem all_true' {xs : List α} : (xs.all fun _ => true) = true := List.all_eq_true.mpr fun _ _ => rfl
theorem all_map_id {xs : List α} {f : α → Bool} : (xs.map f).all id = xs.all f := by rw [List.all_map]; rfl
theorem any_map_id {xs : List α} {f : α → Bool} : (xs.map f).any id = xs.any f := by rw [List.any_map]; rfl
theorem cut_from {xs : List α} {k : Nat} : cut xs (some (k : Int)) none = xs.drop k := by
  unfold cut
  rw [HT.sIx_none, HT.sIx_nat]
  by_cases h : k ≤ xs.length
  · rw [Nat.min_eq_left h, List.take_of_length_le (by rw [List.length_drop]; exact Nat.le_refl _)]
  · rw [Nat.min_eq_right (by omega), List.drop_of_length_le (Nat.le_refl _), List.drop_of_length_le (by omega)]
    simp
theorem cut_1 {xs : List α} : cut xs (some 1) none = xs.drop 1 := cut_from (k := 1)
theorem cut_to {xs : List α} {k : Nat} : cut xs none (some (k : Int)) = xs.take k := by
  unfold cut
  rw [HT.sIx_none, HT.sIx_nat, Nat.sub_zero, List.drop_zero, ← List.take_eq_take_min]
theorem cut_all {xs : List α} : cut xs none none = xs := by
  unfold cut
  rw [HT.sIx_none, HT.sIx_none]
  simp
/-- neighbours -/
theorem zip_next {R : α → α → Bool} {xs : List α} (h : xs.Pairwise fun a b => R a b = true) : ∀ p ∈ xs.zip (xs.drop 1), R p.1 p.2 = true := by
  intro p hp
  obtain ⟨i, hi, e⟩ := List.mem_iff_getElem.mp hp
  rw [List.length_zip, List.length_drop] at hi
  rw [List.getElem_zip] at e
  subst e
  show R (xs[i]'(by omega)) ((xs.drop 1)[i]'(by rw [List.length_drop]; omega)) = true
  rw [List.getElem_drop]
  exact List.pairwise_iff_getElem.mp h i (1 + i) (by omega) (by omega) (by omega)
/-! sorted lists are told by their members -/
theorem lt_uniq {R : α → α → Prop} (anti : ∀ a b, R a b → R b a → False) {xs ys : List α} (h1 : xs.Pairwise R) (h2 : ys.Pairwise R) (hm : ∀ a, a ∈ xs ↔ a ∈ ys) : xs = ys := by
  have irr : ∀ a, ¬ R a a := fun a h => anti a a h h
  have nd : ∀ {l : List α}, l.Pairwise R → l.Nodup := fun {l} h => List.Pairwise.imp (S := fun a b => a ≠ b) (fun {a b} r e => by subst e; exact irr a r) h
  exact List.Perm.eq_of_pairwise (le := R) (fun a b _ _ r1 r2 => (anti a b r1 r2).elim) h1 h2 ((List.perm_ext_iff_of_nodup (nd h1) (nd h2)).mpr hm)
theorem sortL_of {ms ns : List Int} (h : ms.Pairwise (· < ·)) (p : ms.Perm ns) : sortL ns = ms := (sortI_uniq p (h.imp fun h => by omega)).symm
theorem sortL_self {ms : List Int} (h : ms.Pairwise (· ≤ ·)) : sortL ms = ms := (sortI_uniq (List.Perm.refl _) h).symm
theorem sortL_len {ns : List Int} : (sortL ns).length = ns.length := (sortL_perm ns).length_eq
end W
end HM
end
section
/-! W, plain 2: pairs, webs, counts, pieces -/
namespace HM
open PySem PySem.Spec PyProof.Rows L2 RZ
abbrev Pr := Int × Int
def ltPr : Pr → Pr → Bool := W.ltP W.ltI W.ltI
theorem ltPr_iff {a b : Pr} : ltPr a b = true ↔ a.1 < b.1 ∨ (a.1 = b.1 ∧ a.2 < b.2) := by
  unfold ltPr W.ltP W.ltI
  by_cases h : a.1 = b.1 <;> simp [h]
theorem ltPr_anti (a b : Pr) (h1 : ltPr a b = true) (h2 : ltPr b a = true) : False := by
  rw [ltPr_iff] at h1 h2
  omega
def PairOk (n : Int) (p : Pr) : Prop := 0 ≤ p.1 ∧ p.1 < p.2 ∧ p.2 < n
structure Pairs (n : Int) (ps : List Pr) : Prop where
  ok : ∀ p ∈ ps, PairOk n p
  lt : ps.Pairwise fun a b => ltPr a b = true
theorem Pairs.sub {n : Int} {ps qs : List Pr} (h : Pairs n qs) (s : ps.Sublist qs) : Pairs n ps := ⟨fun p hp => h.ok p (s.subset hp), h.lt.sublist s⟩
theorem Pairs.filter {n : Int} {qs : List Pr} (h : Pairs n qs) (b : Pr → Bool) : Pairs n (qs.filter b) := h.sub List.filter_sublist
theorem pairs_uniq {n : Int} {ps qs : List Pr} (h : Pairs n ps) (h2 : Pairs n qs) (hm : ∀ p, p ∈ ps ↔ p ∈ qs) : ps = qs := W.lt_uniq ltPr_anti h.lt h2.lt hm
theorem Pairs.nodup {n : Int} {ps : List Pr} (h : Pairs n ps) : ps.Nodup := List.Pairwise.imp (S := fun a b => a ≠ b) (fun {a b} r e => by subst e; exact ltPr_anti a a r r) h.lt
def allP (n : Int) : List Pr := (W.rangeI 0 n).flatMap fun i => (W.rangeI (i + 1) n).map fun j => (i, j)
theorem mem_allP {n : Int} {p : Pr} : p ∈ allP n ↔ PairOk n p := by
  unfold allP PairOk
  rw [List.mem_flatMap]
  constructor
  · rintro ⟨i, hi, hp⟩
    obtain ⟨j, hj, rfl⟩ := List.mem_map.mp hp
    rw [W.mem_rangeI] at hi hj
    simp only
    omega
  · rintro ⟨h1, h2, h3⟩
    exact ⟨p.1, W.mem_rangeI.mpr ⟨h1, by omega⟩, List.mem_map.mpr ⟨p.2, W.mem_rangeI.mpr ⟨by omega, h3⟩, rfl⟩⟩
theorem flatMap_lt {α β : Type} {R : α → α → Prop} {S : β → β → Prop} {f : α → List β} : ∀ {xs : List α}, xs.Pairwise R → (∀ x ∈ xs, (f x).Pairwise S) → (∀ x y a b, R x y → a ∈ f x → b ∈ f y → S a b) → (xs.flatMap f).Pairwise S
  | [], _, _, _ => List.Pairwise.nil
  | x :: xs, h1, h2, h3 => by
    rw [List.flatMap_cons, List.pairwise_append]
    rw [List.pairwise_cons] at h1
    refine ⟨h2 x List.mem_cons_self, flatMap_lt h1.2 (fun y hy => h2 y (List.mem_cons_of_mem _ hy)) h3, fun a ha b hb => ?_⟩
    obtain ⟨y, hy, hb⟩ := List.mem_flatMap.mp hb
    exact h3 x y a b (h1.1 y hy) ha hb
theorem allP_ok (n : Int) : Pairs n (allP n) := ⟨fun p hp => mem_allP.mp hp, by
  unfold allP
  refine flatMap_lt (R := (· < ·)) W.rangeI_lt (fun i _ => List.Pairwise.map _ (fun a b h => ?_) W.rangeI_lt) fun i j a b hij ha hb => ?_
  · exact ltPr_iff.mpr (.inr ⟨rfl, h⟩)
  · obtain ⟨x, _, rfl⟩ := List.mem_map.mp ha
    obtain ⟨y, _, rfl⟩ := List.mem_map.mp hb
    exact ltPr_iff.mpr (.inl hij)⟩
theorem pairs_filter {n : Int} {ps : List Pr} (h : Pairs n ps) : (allP n).filter (fun p => W.mem p ps) = ps := by
  refine pairs_uniq ((allP_ok n).filter _) h fun p => ?_
  rw [List.mem_filter, W.mem_eq, mem_allP]
  exact ⟨fun h => h.2, fun hp => ⟨h.ok p hp, hp⟩⟩
theorem flatMap_len {α β : Type} {f : α → List β} {k : Nat} : ∀ {xs : List α}, (∀ x ∈ xs, (f x).length ≤ k) → (xs.flatMap f).length ≤ xs.length * k
  | [], _ => by simp
  | x :: xs, h => by
    rw [List.flatMap_cons, List.length_append, List.length_cons, Nat.succ_mul]
    have := h x List.mem_cons_self
    have := flatMap_len (f := f) (xs := xs) fun y hy => h y (List.mem_cons_of_mem _ hy)
    omega
theorem allP_len {n : Int} (h : n ≤ 10) : (allP n).length ≤ 100 := by
  unfold allP
  have h1 : ∀ i ∈ W.rangeI 0 n, ((W.rangeI (i + 1) n).map fun j => ((i, j) : Pr)).length ≤ 10 := fun i hi => by
    rw [List.length_map, W.rangeI_length]
    have := W.mem_rangeI.mp hi
    omega
  have h2 := flatMap_len h1
  have h3 : (W.rangeI 0 n).length ≤ 10 := by rw [W.rangeI_length]; omega
  have : (W.rangeI 0 n).length * 10 ≤ 10 * 10 := Nat.mul_le_mul_right _ h3
  omega
theorem Pairs.len {n : Int} {ps : List Pr} (h : Pairs n ps) (hn : n ≤ 10) : ps.length ≤ 100 := by
  rw [← pairs_filter h]
  exact Nat.le_trans (List.length_filter_le _ _) (allP_len hn)
abbrev WebT := Unit × Int × List Pr
structure IsWeb (w : WebT) : Prop where
  lo : 1 ≤ w.2.1
  hi : w.2.1 ≤ 10
  ps : Pairs w.2.1 w.2.2
/-! counts -/
def hasP (i : Int) (p : Pr) : Bool := W.mem i [p.1, p.2]
theorem hasP_iff {i : Int} {p : Pr} : hasP i p = true ↔ i = p.1 ∨ i = p.2 := by simp [hasP]
def deg (ps : List Pr) (i : Int) : Int := ((ps.filter (hasP i)).length : Nat)
def cnt (n : Int) (ps : List Pr) : List Int := (W.rangeI 0 n).map (deg ps)
theorem cnt_len {n : Int} {ps : List Pr} : (cnt n ps).length = n.toNat := by unfold cnt; rw [List.length_map, W.rangeI_length]; omega
theorem cnt_get {n : Int} {ps : List Pr} {i : Int} (h0 : 0 ≤ i) (h : i < n) (hi : i.toNat < (cnt n ps).length) : (cnt n ps)[i.toNat] = deg ps i := by
  simp only [cnt, List.getElem_map, W.rangeI_getElem]
  congr 1
  omega
theorem deg_cons (p : Pr) (ps : List Pr) (i : Int) : deg (p :: ps) i = deg ps i + (if hasP i p = true then 1 else 0) := by
  unfold deg
  rw [List.filter_cons]
  by_cases h : hasP i p = true
  · rw [if_pos h, if_pos h, List.length_cons]; omega
  · rw [if_neg h, if_neg h]; omega
theorem deg_append (ps qs : List Pr) (i : Int) : deg (ps ++ qs) i = deg ps i + deg qs i := by
  unfold deg
  rw [List.filter_append, List.length_append]
  omega
def ind (b : Bool) : Int := if b = true then 1 else 0
theorem sum_map_add {α : Type} (f g : α → Int) : ∀ xs : List α, (xs.map fun x => f x + g x).sum = (xs.map f).sum + (xs.map g).sum
  | [] => rfl
  | x :: xs => by
    rw [List.map_cons, List.map_cons, List.map_cons, List.sum_cons, List.sum_cons, List.sum_cons, sum_map_add f g xs]
    omega
theorem sum_ind_one (x : Int) : ∀ {lot : List Int}, lot.Nodup → (lot.map fun i => ind (decide (i = x))).sum = ind (W.mem x lot)
  | [], _ => rfl
  | i :: lot, h => by
    rw [List.nodup_cons] at h
    rw [List.map_cons, List.sum_cons, sum_ind_one x h.2]
    by_cases e : i = x
    · subst e
      simp [ind, W.mem, h.1]
    · have e' : ¬ x = i := fun z => e z.symm
      simp [ind, W.mem, e, e']
theorem lot_sum {n : Int} {lot : List Int} (hl : lot.Nodup) : ∀ {ps : List Pr}, (∀ p ∈ ps, PairOk n p) → (lot.map (deg ps)).sum = (ps.map fun p => ind (W.mem p.1 lot) + ind (W.mem p.2 lot)).sum
  | [], _ => by
    have : ∀ lot : List Int, (lot.map (deg [])).sum = 0 := fun lot => by
      induction lot with
      | nil => rfl
      | cons x l ih => rw [List.map_cons, List.sum_cons, ih]; rfl
    rw [this]
    rfl
  | p :: ps, h => by
    have e : (lot.map (deg (p :: ps))).sum = (lot.map (deg ps)).sum + (lot.map fun i => ind (decide (i = p.1)) + ind (decide (i = p.2))).sum := by
      rw [← sum_map_add]
      congr 1
      refine List.map_congr_left fun i _ => ?_
      rw [deg_cons]
      have hp := h p List.mem_cons_self
      have : ¬ p.1 = p.2 := by have := hp.2.1; omega
      by_cases e1 : i = p.1
      · subst e1
        have h2 : hasP p.1 p = true := hasP_iff.mpr (.inl rfl)
        simp [ind, h2, this]
      · by_cases e2 : i = p.2
        · subst e2
          have h2 : hasP p.2 p = true := hasP_iff.mpr (.inr rfl)
          simp [ind, h2, e1]
        · have h2 : ¬ hasP i p = true := fun z => (hasP_iff.mp z).elim e1 e2
          simp [ind, h2, e1, e2]
    rw [e, sum_map_add, sum_ind_one _ hl, sum_ind_one _ hl, List.map_cons, List.sum_cons, lot_sum hl fun q hq => h q (List.mem_cons_of_mem _ hq)]
    omega
theorem cnt_sum {n : Int} {ps : List Pr} (h : ∀ p ∈ ps, PairOk n p) : (cnt n ps).sum = 2 * (ps.length : Int) := by
  unfold cnt
  have nd : (W.rangeI 0 n).Nodup := List.Pairwise.imp (S := fun a b => a ≠ b) (fun {a b} r e => by omega) W.rangeI_lt
  rw [lot_sum nd h]
  have : ∀ qs : List Pr, (∀ p ∈ qs, PairOk n p) → (qs.map fun p => ind (W.mem p.1 (W.rangeI 0 n)) + ind (W.mem p.2 (W.rangeI 0 n))).sum = 2 * (qs.length : Int) := fun qs hq => by
    induction qs with
    | nil => rfl
    | cons p qs ih =>
      rw [List.map_cons, List.sum_cons, ih fun q h => hq q (List.mem_cons_of_mem _ h), List.length_cons]
      have hp := hq p List.mem_cons_self
      have m1 : W.mem p.1 (W.rangeI 0 n) = true := by rw [W.mem_eq]; exact W.mem_rangeI.mpr ⟨hp.1, by have := hp.2; omega⟩
      have m2 : W.mem p.2 (W.rangeI 0 n) = true := by rw [W.mem_eq]; exact W.mem_rangeI.mpr ⟨by have := hp; unfold PairOk at this; omega, hp.2.2⟩
      rw [m1, m2]
      simp only [ind, if_true]
      omega
  exact this ps h
/-! who is met -/
def nb (n : Int) (ps : List Pr) (i : Int) : List Int := (W.rangeI 0 n).filter fun o => W.mem (min i o, max i o) ps
theorem mem_nb {n : Int} {ps : List Pr} (h : ∀ p ∈ ps, PairOk n p) {i o : Int} : o ∈ nb n ps i ↔ (i, o) ∈ ps ∨ (o, i) ∈ ps := by
  unfold nb
  rw [List.mem_filter, W.mem_eq, W.mem_rangeI]
  constructor
  · rintro ⟨_, h2⟩
    by_cases e : i ≤ o
    · rw [Int.min_eq_left e, Int.max_eq_right e] at h2; exact .inl h2
    · rw [Int.min_eq_right (by omega), Int.max_eq_left (by omega)] at h2; exact .inr h2
  · rintro (h2 | h2)
    · have := h _ h2
      unfold PairOk at this
      simp only at this
      rw [Int.min_eq_left (by omega), Int.max_eq_right (by omega)]
      exact ⟨by omega, h2⟩
    · have := h _ h2
      unfold PairOk at this
      simp only at this
      rw [Int.min_eq_right (by omega), Int.max_eq_left (by omega)]
      exact ⟨by omega, h2⟩
theorem nb_lt {n : Int} {ps : List Pr} {i : Int} : (nb n ps i).Pairwise (· < ·) := W.rangeI_lt.sublist List.filter_sublist
theorem met_eq {n : Int} {ps : List Pr} (h : Pairs n ps) (i : Int) : W.sortL ((ps.filter (hasP i)).map fun p => p.1 + p.2 - i) = nb n ps i := by
  refine W.sortL_of nb_lt ((List.perm_ext_iff_of_nodup ?_ ?_).mpr fun o => ?_)
  · exact List.Pairwise.imp (S := fun a b => a ≠ b) (fun {a b} r e => by omega) nb_lt
  · refine List.pairwise_map.mpr (List.Pairwise.imp_of_mem (R := fun a b => a ≠ b) (fun {p q} hp hq hne e => hne ?_) (h.nodup.sublist List.filter_sublist))
    have p1 := hasP_iff.mp (List.mem_filter.mp hp).2
    have q1 := hasP_iff.mp (List.mem_filter.mp hq).2
    have p2 := h.ok p (List.mem_filter.mp hp).1
    have q2 := h.ok q (List.mem_filter.mp hq).1
    unfold PairOk at p2 q2
    exact Prod.ext (by omega) (by omega)
  · rw [mem_nb h.ok, List.mem_map]
    constructor
    · rintro (h1 | h1)
      · exact ⟨_, List.mem_filter.mpr ⟨h1, hasP_iff.mpr (.inl rfl)⟩, by simp only; omega⟩
      · exact ⟨_, List.mem_filter.mpr ⟨h1, hasP_iff.mpr (.inr rfl)⟩, by simp only; omega⟩
    · rintro ⟨p, hp, e⟩
      obtain ⟨hm, hi⟩ := List.mem_filter.mp hp
      rcases hasP_iff.mp hi with e1 | e1
      · exact .inl (by rw [show o = p.2 by omega, e1]; exact hm)
      · exact .inr (by rw [show o = p.1 by omega, e1]; exact hm)
theorem nb_len {n : Int} {ps : List Pr} (h : Pairs n ps) (i : Int) : ((nb n ps i).length : Int) = deg ps i := by
  rw [← met_eq h, W.sortL_len, List.length_map]
  rfl
/-! hanging together -/
inductive Conn (ps : List Pr) : Int → Int → Prop
  | refl (a : Int) : Conn ps a a
  | step {a b c : Int} : Conn ps a b → ((b, c) ∈ ps ∨ (c, b) ∈ ps) → Conn ps a c
theorem Conn.trans {ps : List Pr} {a b c : Int} (h : Conn ps a b) (k : Conn ps b c) : Conn ps a c := by
  induction k with
  | refl => exact h
  | step _ e ih => exact .step ih e
theorem Conn.symm {ps : List Pr} {a b : Int} (h : Conn ps a b) : Conn ps b a := by
  induction h with
  | refl => exact .refl _
  | step _ e ih => exact (Conn.step (.refl _) (e.elim .inr .inl)).trans ih
theorem Conn.mono {ps qs : List Pr} {a b : Int} (s : ∀ p ∈ ps, p ∈ qs) (h : Conn ps a b) : Conn qs a b := by
  induction h with
  | refl => exact .refl _
  | step _ e ih => exact .step ih (e.elim (fun e => .inl (s _ e)) fun e => .inr (s _ e))
abbrev at0 (h : List Int) (i : Int) : Int := h.getD i.toNat 0
structure LabI (n : Int) (ps : List Pr) (h : List Int) : Prop where
  len : h.length = n.toNat
  cn : ∀ i, 0 ≤ i → i < n → Conn ps i (at0 h i)
  lo : ∀ i, 0 ≤ i → i < n → 0 ≤ at0 h i
  le : ∀ i, 0 ≤ i → i < n → at0 h i ≤ i
structure Lab (n : Int) (ps : List Pr) (h : List Int) : Prop extends LabI n ps h where
  eq : ∀ p ∈ ps, at0 h p.1 = at0 h p.2
theorem Lab.conn {n : Int} {ps : List Pr} {h : List Int} (l : Lab n ps h) {a b : Int} (c : Conn ps a b) : at0 h a = at0 h b := by
  induction c with
  | refl => rfl
  | step _ e ih => exact e.elim (fun e => ih.trans (l.eq _ e)) fun e => ih.trans (l.eq _ e).symm
theorem list_ext0 {n : Nat} {h h' : List Int} (l : h.length = n) (l' : h'.length = n) (e : ∀ i : Int, 0 ≤ i → i < n → at0 h i = at0 h' i) : h = h' := by
  apply List.ext_getElem (by omega)
  intro i h1 h2
  have := e (i : Int) (by omega) (by omega)
  simpa [at0, List.getD_eq_getElem?_getD, h1, h2] using this
theorem lab_uniq {n : Int} {ps : List Pr} {h h' : List Int} (hn : 0 ≤ n) (l : Lab n ps h) (l' : Lab n ps h') : h = h' := by
  refine list_ext0 l.len l'.len fun i h0 h1 => ?_
  have h1 : i < n := by omega
  have a := l'.conn (l.cn i h0 h1)
  have b := l.conn (l'.cn i h0 h1)
  have c := l'.le _ (l.lo i h0 h1) (by have := l.le i h0 h1; omega)
  have d := l.le _ (l'.lo i h0 h1) (by have := l'.le i h0 h1; omega)
  omega
theorem at0_map {h : List Int} {f : Int → Int} {i : Int} (h0 : 0 ≤ i) (hi : i < h.length) : at0 (h.map f) i = f (at0 h i) := by
  have : i.toNat < h.length := by omega
  simp [at0, List.getD_eq_getElem?_getD, this]
theorem at0_set {h : List Int} {i j : Int} {v : Int} (h0 : 0 ≤ i) (hi : i < h.length) (hj : 0 ≤ j) : at0 (h.set i.toNat v) j = if j = i then v else at0 h j := by
  have h1 : i.toNat < h.length := by omega
  by_cases e : j = i
  · subst e
    simp [at0, List.getD_eq_getElem?_getD, h1]
  · have : i.toNat ≠ j.toNat := by omega
    rw [if_neg e]
    simp only [at0, List.getD_eq_getElem?_getD, List.getElem?_set_ne this]
theorem at0_range {n i : Int} (h0 : 0 ≤ i) (h : i < n) : at0 (W.rangeI 0 n) i = i := by
  have h1 : i.toNat < (W.rangeI 0 n).length := by rw [W.rangeI_length]; omega
  simp only [at0, List.getD_eq_getElem?_getD, List.getElem?_eq_getElem h1, Option.getD_some, W.rangeI_getElem]
  omega
theorem lab_nil {n : Int} : Lab n [] (W.rangeI 0 n) := ⟨⟨by rw [W.rangeI_length]; omega, fun i h0 h => by rw [at0_range h0 h]; exact .refl _, fun i h0 h => by rw [at0_range h0 h]; exact h0, fun i h0 h => by rw [at0_range h0 h]; omega⟩, fun p hp => nomatch hp⟩
/-- one pair more -/
def joinL (h : List Int) (p : Pr) : List Int := h.map fun x => if x = max (at0 h p.1) (at0 h p.2) then min (at0 h p.1) (at0 h p.2) else x
theorem lab_join {n : Int} {ps : List Pr} {h : List Int} {p : Pr} (l : Lab n ps h) (hp : PairOk n p) (hn : ∀ q ∈ ps, PairOk n q) : Lab n (ps ++ [p]) (joinL h p) := by
  obtain ⟨p0, p1, p2⟩ := hp
  have hlen : (h.length : Int) = n := by rw [l.len]; omega
  have sub : ∀ q ∈ ps, q ∈ ps ++ [p] := fun q hq => List.mem_append_left _ hq
  have new : Conn (ps ++ [p]) p.1 p.2 := .step (.refl _) (.inl (List.mem_append_right _ (List.mem_singleton.mpr rfl)))
  have e1 := (l.cn p.1 p0 (by omega)).mono sub
  have e2 := (l.cn p.2 (by omega) p2).mono sub
  have both : Conn (ps ++ [p]) (at0 h p.1) (at0 h p.2) := e1.symm.trans (new.trans e2)
  have l1 := l.lo p.1 p0 (by omega)
  have l2 := l.lo p.2 (by omega) p2
  have val : ∀ i, 0 ≤ i → i < n → at0 (joinL h p) i = if at0 h i = max (at0 h p.1) (at0 h p.2) then min (at0 h p.1) (at0 h p.2) else at0 h i := fun i h0 h1 => by
    unfold joinL
    rw [at0_map h0 (by omega)]
  refine ⟨⟨by unfold joinL; rw [List.length_map, l.len], fun i h0 h1 => ?_, fun i h0 h1 => ?_, fun i h0 h1 => ?_⟩, fun q hq => ?_⟩
  · rw [val i h0 h1]
    have ei := (l.cn i h0 h1).mono sub
    by_cases e : at0 h i = max (at0 h p.1) (at0 h p.2)
    · rw [if_pos e]
      rw [e] at ei
      by_cases z : at0 h p.1 ≤ at0 h p.2
      · rw [Int.max_eq_right z] at ei; rw [Int.min_eq_left z]; exact ei.trans both.symm
      · rw [Int.max_eq_left (by omega)] at ei; rw [Int.min_eq_right (by omega)]; exact ei.trans both
    · rw [if_neg e]; exact ei
  · rw [val i h0 h1]
    have := l.lo i h0 h1
    split <;> omega
  · rw [val i h0 h1]
    have := l.le i h0 h1
    split <;> omega
  · rcases List.mem_append.mp hq with hq | hq
    · have hok := hn q hq
      unfold PairOk at hok
      rw [val q.1 (by omega) (by omega), val q.2 (by omega) (by omega), l.eq q hq]
    · rw [List.mem_singleton.mp hq, val p.1 p0 (by omega), val p.2 (by omega) p2]
      by_cases z : at0 h p.1 ≤ at0 h p.2
      · rw [Int.max_eq_right z, Int.min_eq_left z]; simp
      · rw [Int.max_eq_left (by omega), Int.min_eq_right (by omega)]; simp
def labels (n : Int) (ps : List Pr) : List Int := ps.foldl joinL (W.rangeI 0 n)
theorem labels_ok {n : Int} {ps : List Pr} (h : ∀ q ∈ ps, PairOk n q) : Lab n ps (labels n ps) := by
  have : ∀ (qs rs : List Pr) (l : List Int), (∀ q ∈ rs ++ qs, PairOk n q) → Lab n rs l → Lab n (rs ++ qs) (qs.foldl joinL l) := fun qs => by
    induction qs with
    | nil => intro rs l _ hl; simpa using hl
    | cons q qs ih =>
      intro rs l hq hl
      have h2 := lab_join hl (hq q (List.mem_append_right _ List.mem_cons_self)) fun r hr => hq r (List.mem_append_left _ hr)
      have := ih (rs ++ [q]) (joinL l q) (by rw [List.append_assoc]; exact hq) h2
      rw [List.append_assoc] at this
      exact this
  exact this ps [] _ (by simpa using h) lab_nil
/-- the pieces by labels -/
def pcs (n : Int) (h : List Int) : List (List Int) := (W.setL h).map fun l => (W.rangeI 0 n).filter fun i => decide (at0 h i = l)
end HM
end
section
/-! W, plain 3: what is shown; degrees of the contrary; pieces of a web and of its contrary -/
namespace HM
open PySem PySem.Spec PyProof.Rows L2 RZ
theorem shw_list {α : Type} {e : α → PyData} {xs : List α} (h : ∀ a ∈ xs, Sm (e a) 20 50000) (hl : xs.length ≤ 20) : Shw (eL e xs) :=
  Sm.shw (k := 21) (n := 1000020) ((sm_list (smAll_map h)).mono (by omega) (by have : xs.length * (50000 + 1) ≤ 20 * 50001 := Nat.mul_le_mul_right _ hl; omega))
theorem sm_T {α : Type} {e : α → PyData} {xs : List α} {k n m : Nat} (h : ∀ a ∈ xs, Sm (e a) k n) (hl : xs.length ≤ m) : Sm (eT e xs) (k + 1) (m * (n + 1)) :=
  (sm_tup (smAll_map h)).mono (by omega) (Nat.mul_le_mul_right _ hl)
theorem sm_L {α : Type} {e : α → PyData} {xs : List α} {k n m : Nat} (h : ∀ a ∈ xs, Sm (e a) k n) (hl : xs.length ≤ m) : Sm (eL e xs) (k + 1) (m * (n + 1)) :=
  (sm_list (smAll_map h)).mono (by omega) (Nat.mul_le_mul_right _ hl)
theorem sm_ints {xs : List Int} {m : Nat} (h : ∀ x ∈ xs, -1000000 < x ∧ x < 1000000) (hl : xs.length ≤ m) : Sm (eT eI xs) 1 m := (sm_T (e := eI) (k := 0) (n := 0) (fun x hx => sm_int (h x hx).1 (h x hx).2) hl).mono (by omega) (by omega)
theorem sm_intsL {xs : List Int} {m : Nat} (h : ∀ x ∈ xs, -1000000 < x ∧ x < 1000000) (hl : xs.length ≤ m) : Sm (eL eI xs) 1 m := (sm_L (e := eI) (k := 0) (n := 0) (fun x hx => sm_int (h x hx).1 (h x hx).2) hl).mono (by omega) (by omega)
theorem sm_P2 {α β : Type} {e : α → PyData} {f : β → PyData} {p : α × β} {k n k2 n2 : Nat} (h : Sm (e p.1) k n) (h2 : Sm (f p.2) k2 n2) : Sm (eP2 e f p) (max k k2 + 1) (n + n2 + 2) := (sm_tup (sm_cons h (sm_cons h2 sm_nil))).mono (by omega) (by omega)
theorem sm_P3 {α β γ : Type} {e : α → PyData} {f : β → PyData} {g : γ → PyData} {p : α × β × γ} {k n k2 n2 k3 n3 : Nat} (h : Sm (e p.1) k n) (h2 : Sm (f p.2.1) k2 n2) (h3 : Sm (g p.2.2) k3 n3) : Sm (eP3 e f g p) (max k (max k2 k3) + 1) (n + n2 + n3 + 3) := (sm_tup (sm_cons h (sm_cons h2 (sm_cons h3 sm_nil)))).mono (by omega) (by omega)
theorem sm_pr {n : Int} {p : Pr} (hn : n ≤ 1000) (h : PairOk n p) : Sm (eP2 eI eI p) 1 2 := by
  unfold PairOk at h
  exact (sm_P2 (e := eI) (f := eI) (sm_int (by omega) (by omega)) (sm_int (by omega) (by omega))).mono (by omega) (by omega)
abbrev eWeb : WebT → PyData := eP3 (eW "web") eI (eT (eP2 eI eI))
theorem sm_web {w : WebT} (h : IsWeb w) : Sm (eWeb w) 20 2000 := by
  have h1 := h.lo
  have h2 := h.hi
  have hl := h.ps.len h.hi
  have a := sm_T (e := eP2 eI eI) (k := 1) (n := 2) (m := 100) (fun p hp => sm_pr (show w.2.1 ≤ 1000 by omega) (h.ps.ok p hp)) hl
  have b : Sm (eI w.2.1) 0 0 := sm_int (by omega) (by omega)
  have c : Sm (eW "web" w.1) 0 1000 := sm_str (by decide +kernel) (by decide +kernel)
  exact (sm_P3 c b a).mono (by omega) (by omega)
theorem shw_web {w : WebT} (h : IsWeb w) : Shw (eWeb w) := (sm_web h).shw
theorem deg_le {ps : List Pr} {i : Int} : 0 ≤ deg ps i ∧ deg ps i ≤ ps.length := by
  unfold deg
  have := List.length_filter_le (hasP i) ps
  omega
theorem sm_cnt {n : Int} {ps : List Pr} (hn : n ≤ 10) (hl : ps.length ≤ 100) : Sm (eT eI (cnt n ps)) 20 20 := by
  refine (sm_ints (m := 10) (fun x hx => ?_) (by rw [cnt_len]; omega)).mono (by omega) (by omega)
  obtain ⟨i, _, rfl⟩ := List.mem_map.mp hx
  have := deg_le (ps := ps) (i := i)
  omega
theorem sm_lot {n : Int} {xs : List Int} (h : ∀ x ∈ xs, 0 ≤ x ∧ x < n) (hn : n ≤ 1000) (hl : xs.length ≤ 100) : Sm (eT eI xs) 20 100 :=
  (sm_ints (m := 100) (fun x hx => by have := h x hx; omega) hl).mono (by omega) (by omega)
theorem sm_prs {n : Int} {ps : List Pr} (hn : n ≤ 1000) (h : ∀ p ∈ ps, PairOk n p) (hl : ps.length ≤ 100) : Sm (eT (eP2 eI eI) ps) 20 300 := (sm_T (e := eP2 eI eI) (k := 1) (n := 2) (m := 100) (fun p hp => sm_pr hn (h p hp)) hl).mono (by omega) (by omega)
/-! the contrary's degrees -/
theorem filter_two {α : Type} (b h : α → Bool) : ∀ l : List α, ((l.filter b).filter h).length + ((l.filter fun x => !b x).filter h).length = (l.filter h).length
  | [] => rfl
  | x :: l => by
    have := filter_two b h l
    cases hb : b x <;> cases hh : h x <;> simp [List.filter_cons, hb, hh] <;> simp at this <;> omega
theorem nb_all {n i : Int} (h0 : 0 ≤ i) (h1 : i < n) : ((nb n (allP n) i).length : Int) = n - 1 := by
  have e : nb n (allP n) i = (W.rangeI 0 n).erase i := by
    have nd : (W.rangeI 0 n).Nodup := List.Pairwise.imp (S := fun a b => a ≠ b) (fun {a b} r e => by omega) W.rangeI_lt
    rw [List.Nodup.erase_eq_filter nd]
    refine List.filter_congr fun o ho => ?_
    have := W.mem_rangeI.mp ho
    by_cases q : o = i
    · subst q
      have : ¬ (min o o, max o o) ∈ allP n := fun z => by have := (mem_allP.mp z).2.1; simp only at this; omega
      simp [W.mem, this] at *
      exact this
    · have : (min i o, max i o) ∈ allP n := mem_allP.mpr ⟨by simp only; omega, by simp only; omega, by simp only; omega⟩
      simp [W.mem, this, q]
  rw [e, List.length_erase_of_mem (W.mem_rangeI.mpr ⟨h0, h1⟩), W.rangeI_length]
  omega
theorem deg_contrary {n i : Int} {ps : List Pr} (h : Pairs n ps) (h0 : 0 ≤ i) (h1 : i < n) : deg ps i + deg ((allP n).filter fun p => !W.mem p ps) i = n - 1 := by
  have a := filter_two (fun p => W.mem p ps) (hasP i) (allP n)
  rw [pairs_filter h] at a
  have b := nb_all h0 h1
  rw [nb_len (allP_ok n)] at b
  unfold deg at b ⊢
  omega
/-! pieces -/
theorem mem_labels {n : Int} {h : List Int} {l : Int} (hl : h.length = n.toNat) : l ∈ h ↔ ∃ i, 0 ≤ i ∧ i < n ∧ at0 h i = l := by
  constructor
  · intro hm
    obtain ⟨k, hk, e⟩ := List.mem_iff_getElem.mp hm
    refine ⟨k, by omega, by omega, ?_⟩
    simp only [at0, Int.toNat_natCast, List.getD_eq_getElem?_getD, List.getElem?_eq_getElem hk, Option.getD_some, e]
  · rintro ⟨i, i0, i1, e⟩
    have hk : i.toNat < h.length := by omega
    rw [← e]
    simp only [at0, List.getD_eq_getElem?_getD, List.getElem?_eq_getElem hk, Option.getD_some]
    exact List.getElem_mem hk
theorem setL_one {h : List Int} (h1 : ∀ x ∈ h, ∀ y ∈ h, x = y) : (W.setL h).length ≤ 1 := by
  have a := setL_lt h
  match hs : W.setL h, a with
  | [], _ => simp
  | [x], _ => simp
  | x :: y :: r, a =>
    have m1 : x ∈ h := (mem_setL x h).mp (by rw [hs]; simp)
    have m2 : y ∈ h := (mem_setL y h).mp (by rw [hs]; simp)
    have e := h1 x m1 y m2
    rw [List.pairwise_cons] at a
    have := a.1 y (by simp)
    omega
/-- a web or its contrary hangs together -/
theorem one_piece {n : Int} {ps qs : List Pr} (hp : Pairs n ps) (hq : ∀ p, PairOk n p → p ∈ ps ∨ p ∈ qs) (hq2 : ∀ p ∈ qs, PairOk n p) : (pcs n (labels n ps)).length ≤ 1 ∨ (pcs n (labels n qs)).length ≤ 1 := by
  have lp := labels_ok hp.ok
  have lq := labels_ok hq2
  unfold pcs
  rw [List.length_map, List.length_map]
  by_cases all : ∀ x ∈ labels n ps, ∀ y ∈ labels n ps, x = y
  · exact .inl (setL_one all)
  · right
    have : ∃ a b, 0 ≤ a ∧ a < n ∧ 0 ≤ b ∧ b < n ∧ at0 (labels n ps) a ≠ at0 (labels n ps) b := by
      refine Classical.byContradiction fun z => all fun x hx y hy => ?_
      obtain ⟨a, a0, a1, ea⟩ := (mem_labels lp.len).mp hx
      obtain ⟨b, b0, b1, eb⟩ := (mem_labels lp.len).mp hy
      refine Classical.byContradiction fun ne => z ⟨a, b, a0, a1, b0, b1, by rw [ea, eb]; exact ne⟩
    obtain ⟨a, b, a0, a1, b0, b1, hab⟩ := this
    have far : ∀ x y, 0 ≤ x → x < n → 0 ≤ y → y < n → at0 (labels n ps) x ≠ at0 (labels n ps) y → at0 (labels n qs) x = at0 (labels n qs) y := fun x y x0 x1 y0 y1 h => by
      have hne : x ≠ y := fun e => h (by rw [e])
      by_cases lt : x < y
      · rcases hq (x, y) ⟨x0, lt, y1⟩ with m | m
        · exact absurd (lp.eq _ m) h
        · exact lq.eq _ m
      · rcases hq (y, x) ⟨y0, by simp only; omega, x1⟩ with m | m
        · exact absurd (lp.eq _ m).symm h
        · exact (lq.eq _ m).symm
    refine setL_one fun u hu v hv => ?_
    obtain ⟨x, x0, x1, ex⟩ := (mem_labels lq.len).mp hu
    obtain ⟨y, y0, y1, ey⟩ := (mem_labels lq.len).mp hv
    rw [← ex, ← ey]
    by_cases hxy : at0 (labels n ps) x = at0 (labels n ps) y
    · by_cases ha : at0 (labels n ps) x = at0 (labels n ps) a
      · have hb : at0 (labels n ps) x ≠ at0 (labels n ps) b := fun e => hab (ha.symm.trans e)
        rw [far x b x0 x1 b0 b1 hb, far y b y0 y1 b0 b1 (by rw [← hxy]; exact hb)]
      · rw [far x a x0 x1 a0 a1 ha, far y a y0 y1 a0 a1 (by rw [← hxy]; exact ha)]
    · exact far x y x0 x1 y0 y1 hxy
/-- no pair leaves a piece -/
theorem piece_closed {n : Int} {ps : List Pr} {lot : List Int} (hp : ∀ p ∈ ps, PairOk n p) (hl : lot ∈ pcs n (labels n ps)) : (ps.filter fun p => !decide (W.mem p.1 lot = W.mem p.2 lot)) = [] := by
  have lp := labels_ok hp
  unfold pcs at hl
  obtain ⟨l, _, rfl⟩ := List.mem_map.mp hl
  refine List.filter_eq_nil_iff.mpr fun p hm => ?_
  have hok := hp p hm
  unfold PairOk at hok
  have e := lp.eq p hm
  have m : ∀ x, 0 ≤ x → x < n → (W.mem x ((W.rangeI 0 n).filter fun i => decide (at0 (labels n ps) i = l)) = true ↔ at0 (labels n ps) x = l) := fun x x0 x1 => by
    rw [W.mem_eq, List.mem_filter, W.mem_rangeI]
    simp [x0, x1]
  have e2 : W.mem p.1 ((W.rangeI 0 n).filter fun i => decide (at0 (labels n ps) i = l)) = W.mem p.2 ((W.rangeI 0 n).filter fun i => decide (at0 (labels n ps) i = l)) := by
    rw [Bool.eq_iff_iff, m p.1 (by omega) (by omega), m p.2 (by omega) (by omega), e]
  rw [decide_eq_true e2]
  simp
theorem pcs_lot {n : Int} {h : List Int} {lot : List Int} (hl : lot ∈ pcs n h) : lot.Pairwise (· < ·) ∧ (∀ x ∈ lot, 0 ≤ x ∧ x < n) ∧ lot.length ≤ n.toNat := by
  unfold pcs at hl
  obtain ⟨l, _, rfl⟩ := List.mem_map.mp hl
  refine ⟨W.rangeI_lt.sublist List.filter_sublist, fun x hx => W.mem_rangeI.mp (List.mem_filter.mp hx).1, ?_⟩
  have := List.length_filter_le (fun i => decide (at0 h i = l)) (W.rangeI 0 n)
  rw [W.rangeI_length] at this
  omega
theorem pcs_len {n : Int} {h : List Int} (hl : h.length = n.toNat) : (pcs n h).length ≤ n.toNat := by
  unfold pcs
  rw [List.length_map]
  have : (W.setL h).length ≤ h.length := by
    unfold W.setL
    rw [W.sortL_len]
    have : ∀ xs : List Int, (W.nub xs).length ≤ xs.length := fun xs => by
      induction xs with
      | nil => exact Nat.le_refl _
      | cons x xs ih => unfold W.nub; split <;> simp <;> omega
    exact this h
  omega
theorem sm_pcs {n : Int} {h : List Int} (hn : n ≤ 10) (hl : h.length = n.toNat) : Sm (eL (eT eI) (pcs n h)) 20 2000 := by
  have := pcs_len hl
  refine (sm_L (e := eT eI) (k := 1) (n := 10) (m := 10) (fun lot hlot => ?_) (by omega)).mono (by omega) (by omega)
  have := pcs_lot hlot
  exact sm_ints (fun x hx => by have := this.2.1 x hx; omega) (by omega)
end HM
end
section
/-! W, plain 4: sorted lists of rows; exchanges -/
namespace HM
open PySem PySem.Spec PyProof.Rows L2 RZ
/-! a linear order -/
structure Lin {α : Type} (lt : α → α → Bool) : Prop where
  irr : ∀ a, lt a a = false
  tr : ∀ a b c, lt a b = true → lt b c = true → lt a c = true
  tot : ∀ a b, lt a b = true ∨ a = b ∨ lt b a = true
theorem Lin.anti {α : Type} {lt : α → α → Bool} (h : Lin lt) {a b : α} (h1 : lt a b = true) (h2 : lt b a = true) : False := by
  have := h.tr _ _ _ h1 h2
  rw [h.irr] at this
  cases this
theorem lin_int : Lin W.ltI := ⟨fun a => by simp [W.ltI], fun a b c h1 h2 => by simp [W.ltI] at *; omega, fun a b => by simp [W.ltI]; omega⟩
theorem lin_P {α β : Type} [DecidableEq α] {l : α → α → Bool} {k : β → β → Bool} (h : Lin l) (h2 : Lin k) : Lin (W.ltP l k) := ⟨fun a => by simp [W.ltP, h2.irr], fun a b c p q => by
  unfold W.ltP at *
  by_cases e1 : a.1 = b.1
  · by_cases e2 : b.1 = c.1
    · simp only [e1, e2, if_true] at *; exact h2.tr _ _ _ p q
    · simp only [e1, e2, if_true, if_false] at *; exact q
  · by_cases e2 : b.1 = c.1
    · simp only [e1, ← e2, if_true, if_false] at *; exact p
    · by_cases e3 : a.1 = c.1
      · simp only [e1, e2, if_false] at p q
        rw [e3] at p
        exact (h.anti p q).elim
      · simp only [e1, e2, e3, if_false] at *; exact h.tr _ _ _ p q, fun a b => by
  unfold W.ltP
  by_cases e : a.1 = b.1
  · rcases h2.tot a.2 b.2 with z | z | z
    · exact .inl (by simp [e, z])
    · exact .inr (.inl (Prod.ext e z))
    · exact .inr (.inr (by simp [e, z]))
  · rcases h.tot a.1 b.1 with z | z | z
    · exact .inl (by simp [e, z])
    · exact absurd z e
    · exact .inr (.inr (by simp [Ne.symm e, z]))⟩
theorem sortBy_perm {α : Type} {lt : α → α → Bool} (xs : List α) : (W.sortBy lt xs).Perm xs := List.mergeSort_perm _ _
theorem sortBy_of {α : Type} {lt : α → α → Bool} (h : Lin lt) {xs ys : List α} (hy : ys.Pairwise fun a b => lt a b = true) (p : xs.Perm ys) : W.sortBy lt xs = ys := by
  have s : (W.sortBy lt xs).Pairwise fun a b => (!lt b a) = true := List.pairwise_mergeSort (le := fun a b => !lt b a) (fun a b c h1 h2 => by
    simp only [Bool.not_eq_true'] at *
    rcases h.tot b a with z | z | z
    · rw [z] at h1; cases h1
    · rw [← z]; exact h2
    · cases q : lt c a with
      | false => rfl
      | true => have := h.tr _ _ _ q z; rw [this] at h2; cases h2) (fun a b => by
    cases q : lt b a with
    | false => simp
    | true =>
      cases r : lt a b with
      | false => simp
      | true => exact (h.anti q r).elim) xs
  refine List.Perm.eq_of_pairwise (le := fun a b => (!lt b a) = true) (fun a b _ _ r1 r2 => ?_) s (hy.imp fun {a b} r => ?_) ((sortBy_perm xs).trans p)
  · rcases h.tot a b with z | z | z
    · rw [z] at r2; cases r2
    · exact z
    · rw [z] at r1; cases r1
  · cases q : lt b a with
    | false => rfl
    | true => exact (h.anti r q).elim
theorem lt_nodup {α : Type} {lt : α → α → Bool} (h : Lin lt) {xs : List α} (hx : xs.Pairwise fun a b => lt a b = true) : xs.Nodup := List.Pairwise.imp (S := fun a b => a ≠ b) (fun {a b} r e => by subst e; rw [h.irr] at r; cases r) hx
/-- sorted by members -/
theorem sortBy_mem {α : Type} {lt : α → α → Bool} (h : Lin lt) {xs ys : List α} (hy : ys.Pairwise fun a b => lt a b = true) (hx : xs.Nodup) (hm : ∀ a, a ∈ xs ↔ a ∈ ys) : W.sortBy lt xs = ys :=
  sortBy_of h hy ((List.perm_ext_iff_of_nodup hx (lt_nodup h hy)).mpr hm)
theorem lin_pr : Lin ltPr := lin_P lin_int lin_int
/-! quadruples -/
abbrev Q4 := Int × Int × Int × Int
def ltQ : Q4 → Q4 → Bool := W.ltP W.ltI (W.ltP W.ltI (W.ltP W.ltI W.ltI))
theorem lin_q : Lin ltQ := lin_P lin_int (lin_P lin_int (lin_P lin_int lin_int))
theorem ltQ_iff {a b : Q4} : ltQ a b = true ↔ a.1 < b.1 ∨ a.1 = b.1 ∧ (a.2.1 < b.2.1 ∨ a.2.1 = b.2.1 ∧ (a.2.2.1 < b.2.2.1 ∨ a.2.2.1 = b.2.2.1 ∧ a.2.2.2 < b.2.2.2)) := by
  unfold ltQ W.ltP W.ltI
  by_cases h1 : a.1 = b.1 <;> by_cases h2 : a.2.1 = b.2.1 <;> by_cases h3 : a.2.2.1 = b.2.2.1 <;> simp [h1, h2, h3]
def prOf (x y : Int) : Pr := (min x y, max x y)
theorem prOf_eq {x y z w : Int} : prOf x y = prOf z w ↔ (x = z ∧ y = w) ∨ (x = w ∧ y = z) := by
  unfold prOf
  rw [Prod.ext_iff]
  simp only
  omega
theorem prOf_comm (x y : Int) : prOf x y = prOf y x := prOf_eq.mpr (.inr ⟨rfl, rfl⟩)
def ad (ps : List Pr) (x y : Int) : Bool := W.mem (min x y, max x y) ps
theorem ad_iff {ps : List Pr} {x y : Int} : ad ps x y = true ↔ prOf x y ∈ ps := by
  show (W.mem _ _ = true) ↔ _
  rw [W.mem_eq]
  rfl
theorem ad_comm {ps : List Pr} {x y : Int} : ad ps x y = ad ps y x := by
  rw [Bool.eq_iff_iff, ad_iff, ad_iff, prOf_comm]
theorem ad_irr {n : Int} {ps : List Pr} (h : Pairs n ps) {x : Int} : ad ps x x = false := by
  cases q : ad ps x x with
  | false => rfl
  | true => have := (h.ok _ (ad_iff.mp q)).2.1; simp only [prOf] at this; omega
theorem mem_nb' {n : Int} {ps : List Pr} {x o : Int} : o ∈ nb n ps x ↔ (0 ≤ o ∧ o < n) ∧ ad ps x o = true := by
  unfold nb
  rw [List.mem_filter, W.mem_rangeI]
  rfl
structure Ex (n : Int) (ps : List Pr) (q : Q4) : Prop where
  r1 : 0 ≤ q.1 ∧ q.1 < n
  r2 : 0 ≤ q.2.1 ∧ q.2.1 < n
  r3 : 0 ≤ q.2.2.1 ∧ q.2.2.1 < n
  r4 : 0 ≤ q.2.2.2 ∧ q.2.2.2 < n
  ab : ad ps q.1 q.2.1 = true
  cd : ad ps q.2.2.1 q.2.2.2 = true
  ac : ad ps q.1 q.2.2.1 = false
  bd : ad ps q.2.1 q.2.2.2 = false
  nac : q.1 ≠ q.2.2.1
  nbd : q.2.1 ≠ q.2.2.2
structure Ne4 (q : Q4) : Prop where
  ab : q.1 ≠ q.2.1
  ac : q.1 ≠ q.2.2.1
  ad : q.1 ≠ q.2.2.2
  bc : q.2.1 ≠ q.2.2.1
  bd : q.2.1 ≠ q.2.2.2
  cd : q.2.2.1 ≠ q.2.2.2
theorem Ex.ne {n : Int} {ps : List Pr} {q : Q4} (h : Pairs n ps) (e : Ex n ps q) : Ne4 q := by
  refine ⟨fun z => ?_, e.nac, fun z => ?_, fun z => ?_, e.nbd, fun z => ?_⟩
  · have := e.ab; rw [← z, ad_irr h] at this; cases this
  · have a := e.cd; have b := e.ac; rw [← z, ad_comm, b] at a; cases a
  · have a := e.ab; have b := e.ac; rw [z, b] at a; cases a
  · have := e.cd; rw [← z, ad_irr h] at this; cases this
/-- the symmetries -/
def s1 (q : Q4) : Q4 := (q.2.1, q.1, q.2.2.2, q.2.2.1)
def s2 (q : Q4) : Q4 := (q.2.2.1, q.2.2.2, q.1, q.2.1)
def s3 (q : Q4) : Q4 := (q.2.2.2, q.2.2.1, q.2.1, q.1)
theorem Ex.s1 {n : Int} {ps : List Pr} {q : Q4} (e : Ex n ps q) : Ex n ps (s1 q) := ⟨e.r2, e.r1, e.r4, e.r3, by rw [ad_comm]; exact e.ab, by rw [ad_comm]; exact e.cd, e.bd, e.ac, e.nbd, e.nac⟩
theorem Ex.s2 {n : Int} {ps : List Pr} {q : Q4} (e : Ex n ps q) : Ex n ps (s2 q) := ⟨e.r3, e.r4, e.r1, e.r2, e.cd, e.ab, by rw [ad_comm]; exact e.ac, by rw [ad_comm]; exact e.bd, Ne.symm e.nac, Ne.symm e.nbd⟩
theorem Ex.s3 {n : Int} {ps : List Pr} {q : Q4} (e : Ex n ps q) : Ex n ps (s3 q) := e.s2.s1
def Least (q : Q4) : Prop := q.1 < q.2.1 ∧ q.1 < q.2.2.1 ∧ q.1 < q.2.2.2
/-- the told exchanges -/
def exs (n : Int) (ps : List Pr) : List Q4 :=
  (W.rangeI 0 n).flatMap fun a => ((nb n ps a).filter fun b => decide (a < b)).flatMap fun b => ((W.rangeI (a + 1) n).filter fun c => !decide (c = b) && !W.mem c (nb n ps a)).flatMap fun c =>
    ((nb n ps c).filter fun d => decide (a < d) && (!decide (d = b) && !W.mem d (nb n ps b))).map fun d => (a, b, c, d)
theorem mem_exs {n : Int} {ps : List Pr} (h : Pairs n ps) {q : Q4} : q ∈ exs n ps ↔ Ex n ps q ∧ Least q := by
  obtain ⟨a, b, c, d⟩ := q
  unfold exs
  simp only [List.mem_flatMap, List.mem_map, List.mem_filter, W.mem_rangeI, mem_nb', decide_eq_true_eq, Bool.and_eq_true, Bool.not_eq_true', decide_eq_false_iff_not, Prod.mk.injEq]
  constructor
  · rintro ⟨a', ⟨a0, a1⟩, b', ⟨⟨b0, b1⟩, b2⟩, c', ⟨⟨c0, c1⟩, c2, c3⟩, d', ⟨⟨d0, d1⟩, d2, d3, d4⟩, rfl, rfl, rfl, rfl⟩
    have nc : ad ps a' c' = false := by
      cases q : ad ps a' c' with
      | false => rfl
      | true => rw [W.mem_eq.mpr (mem_nb'.mpr ⟨⟨by omega, c1⟩, q⟩)] at c3; cases c3
    have nd : ad ps b' d' = false := by
      cases q : ad ps b' d' with
      | false => rfl
      | true => rw [W.mem_eq.mpr (mem_nb'.mpr ⟨⟨by omega, d0.2⟩, q⟩)] at d4; cases d4
    exact ⟨⟨⟨a0, a1⟩, b0, ⟨by simp only; omega, c1⟩, d0, b1, d1, nc, nd, by simp only; omega, fun z => d3 z.symm⟩, b2, by simp only; omega, d2⟩
  · rintro ⟨e, l1, l2, l3⟩
    have ne := e.ne h
    refine ⟨a, e.r1, b, ⟨⟨e.r2, e.ab⟩, l1⟩, c, ⟨⟨by simp only at l2; omega, e.r3.2⟩, Ne.symm ne.bc, ?_⟩, d, ⟨⟨e.r4, e.cd⟩, l3, Ne.symm ne.bd, ?_⟩, rfl, rfl, rfl, rfl⟩
    · cases q : W.mem c (nb n ps a) with
      | false => rfl
      | true => have := (mem_nb'.mp (W.mem_eq.mp q)).2; rw [show ad ps a c = false from e.ac] at this; cases this
    · cases q : W.mem d (nb n ps b) with
      | false => rfl
      | true => have := (mem_nb'.mp (W.mem_eq.mp q)).2; rw [show ad ps b d = false from e.bd] at this; cases this
theorem exs_lt {n : Int} {ps : List Pr} : (exs n ps).Pairwise fun a b => ltQ a b = true := by
  unfold exs
  refine List.pairwise_flatMap.mpr ⟨fun a _ => List.pairwise_flatMap.mpr ⟨fun b _ => List.pairwise_flatMap.mpr ⟨fun c _ => ?_, ?_⟩, ?_⟩, ?_⟩
  · refine List.Pairwise.map _ (fun x y hxy => ltQ_iff.mpr ?_) (nb_lt.sublist List.filter_sublist)
    exact .inr ⟨rfl, .inr ⟨rfl, .inr ⟨rfl, hxy⟩⟩⟩
  · refine List.Pairwise.imp (fun {x y} hxy => ?_) (W.rangeI_lt.sublist List.filter_sublist)
    intro q hq r hr
    obtain ⟨_, _, rfl⟩ := List.mem_map.mp hq
    obtain ⟨_, _, rfl⟩ := List.mem_map.mp hr
    exact ltQ_iff.mpr (.inr ⟨rfl, .inr ⟨rfl, .inl hxy⟩⟩)
  · refine List.Pairwise.imp (fun {x y} hxy => ?_) (nb_lt.sublist List.filter_sublist)
    intro q hq r hr
    obtain ⟨_, _, hq⟩ := List.mem_flatMap.mp hq
    obtain ⟨_, _, rfl⟩ := List.mem_map.mp hq
    obtain ⟨_, _, hr⟩ := List.mem_flatMap.mp hr
    obtain ⟨_, _, rfl⟩ := List.mem_map.mp hr
    exact ltQ_iff.mpr (.inr ⟨rfl, .inl hxy⟩)
  · refine List.Pairwise.imp (fun {x y} hxy => ?_) W.rangeI_lt
    intro q hq r hr
    obtain ⟨_, _, hq⟩ := List.mem_flatMap.mp hq
    obtain ⟨_, _, hq⟩ := List.mem_flatMap.mp hq
    obtain ⟨_, _, rfl⟩ := List.mem_map.mp hq
    obtain ⟨_, _, hr⟩ := List.mem_flatMap.mp hr
    obtain ⟨_, _, hr⟩ := List.mem_flatMap.mp hr
    obtain ⟨_, _, rfl⟩ := List.mem_map.mp hr
    exact ltQ_iff.mpr (.inl hxy)
end HM
end
section
/-! W, plain 5: how many exchanges -/
namespace HM
open PySem PySem.Spec PyProof.Rows L2 RZ
def all4 (n : Int) : List Q4 := (W.rangeI 0 n).flatMap fun a => (W.rangeI 0 n).flatMap fun b => (W.rangeI 0 n).flatMap fun c => (W.rangeI 0 n).map fun d => (a, b, c, d)
def In4 (n : Int) (q : Q4) : Prop := (0 ≤ q.1 ∧ q.1 < n) ∧ (0 ≤ q.2.1 ∧ q.2.1 < n) ∧ (0 ≤ q.2.2.1 ∧ q.2.2.1 < n) ∧ (0 ≤ q.2.2.2 ∧ q.2.2.2 < n)
theorem mem_all4 {n : Int} {q : Q4} : q ∈ all4 n ↔ In4 n q := by
  obtain ⟨a, b, c, d⟩ := q
  unfold all4 In4
  simp only [List.mem_flatMap, List.mem_map, W.mem_rangeI, Prod.mk.injEq]
  constructor
  · rintro ⟨a', ha, b', hb, c', hc, d', hd, rfl, rfl, rfl, rfl⟩
    exact ⟨ha, hb, hc, hd⟩
  · rintro ⟨ha, hb, hc, hd⟩
    exact ⟨a, ha, b, hb, c, hc, d, hd, rfl, rfl, rfl, rfl⟩
theorem all4_nodup {n : Int} : (all4 n).Nodup := by
  have nd : (W.rangeI 0 n).Pairwise (· ≠ ·) := W.rangeI_lt.imp fun h => by omega
  unfold all4
  refine List.pairwise_flatMap.mpr ⟨fun a _ => List.pairwise_flatMap.mpr ⟨fun b _ => List.pairwise_flatMap.mpr ⟨fun c _ => ?_, ?_⟩, ?_⟩, ?_⟩
  · exact List.Pairwise.map _ (fun x y hxy e => hxy (by simpa using e)) nd
  · refine nd.imp fun {x y} hxy => ?_
    intro q hq r hr e
    obtain ⟨_, _, rfl⟩ := List.mem_map.mp hq
    obtain ⟨_, _, rfl⟩ := List.mem_map.mp hr
    exact hxy (congrArg (fun q : Q4 => q.2.2.1) e)
  · refine nd.imp fun {x y} hxy => ?_
    intro q hq r hr e
    obtain ⟨_, _, hq⟩ := List.mem_flatMap.mp hq
    obtain ⟨_, _, rfl⟩ := List.mem_map.mp hq
    obtain ⟨_, _, hr⟩ := List.mem_flatMap.mp hr
    obtain ⟨_, _, rfl⟩ := List.mem_map.mp hr
    exact hxy (congrArg (fun q : Q4 => q.2.1) e)
  · refine nd.imp fun {x y} hxy => ?_
    intro q hq r hr e
    obtain ⟨_, _, hq⟩ := List.mem_flatMap.mp hq
    obtain ⟨_, _, hq⟩ := List.mem_flatMap.mp hq
    obtain ⟨_, _, rfl⟩ := List.mem_map.mp hq
    obtain ⟨_, _, hr⟩ := List.mem_flatMap.mp hr
    obtain ⟨_, _, hr⟩ := List.mem_flatMap.mp hr
    obtain ⟨_, _, rfl⟩ := List.mem_map.mp hr
    exact hxy (congrArg (fun q : Q4 => q.1) e)
noncomputable def qn (n : Int) (P : Q4 → Prop) : Nat := ((all4 n).filter fun q => @decide (P q) (Classical.propDecidable _)).length
theorem qn_iff {n : Int} {P Q : Q4 → Prop} (h : ∀ q, In4 n q → (P q ↔ Q q)) : qn n P = qn n Q := by
  unfold qn
  congr 1
  refine List.filter_congr fun q hq => ?_
  have := h q (mem_all4.mp hq)
  by_cases p : P q
  · have := this.mp p; simp [p, this]
  · have : ¬ Q q := fun z => p (this.mpr z)
    simp [p, this]
theorem qn_list {n : Int} {P : Q4 → Prop} {xs : List Q4} (nd : xs.Nodup) (h : ∀ q, q ∈ xs ↔ In4 n q ∧ P q) : xs.length = qn n P := by
  unfold qn
  refine ((List.perm_ext_iff_of_nodup nd (all4_nodup.sublist List.filter_sublist)).mpr fun q => ?_).length_eq
  rw [h, List.mem_filter, mem_all4]
  simp
theorem filter_split {α : Type} (p c : α → Bool) : ∀ l : List α, (l.filter p).length = (l.filter fun x => p x && c x).length + (l.filter fun x => p x && !c x).length
  | [] => rfl
  | x :: l => by
    have := filter_split p c l
    cases hp : p x <;> cases hc : c x <;> simp [List.filter_cons, hp, hc] <;> omega
theorem qn_split {n : Int} {P : Q4 → Prop} (C : Q4 → Prop) : qn n P = qn n (fun q => P q ∧ C q) + qn n (fun q => P q ∧ ¬ C q) := by
  unfold qn
  rw [filter_split _ (fun q => @decide (C q) (Classical.propDecidable _))]
  congr 2
  · refine List.filter_congr fun q _ => ?_
    by_cases p : P q <;> by_cases c : C q <;> simp [p, c]
  · refine List.filter_congr fun q _ => ?_
    by_cases p : P q <;> by_cases c : C q <;> simp [p, c]
theorem qn_map {n : Int} {P : Q4 → Prop} (f : Q4 → Q4) (hf : ∀ q, f (f q) = q) (hi : ∀ q, In4 n q → In4 n (f q)) : qn n P = qn n fun q => P (f q) := by
  have nd : ((all4 n).map f).Nodup := List.Pairwise.map _ (fun x y hxy e => hxy (by have := congrArg f e; rwa [hf, hf] at this)) all4_nodup
  have pm : ((all4 n).map f).Perm (all4 n) := (List.perm_ext_iff_of_nodup nd all4_nodup).mpr fun q => by
    rw [List.mem_map]
    constructor
    · rintro ⟨r, hr, rfl⟩
      exact mem_all4.mpr (hi r (mem_all4.mp hr))
    · intro hq
      exact ⟨f q, mem_all4.mpr (hi q (mem_all4.mp hq)), hf q⟩
  unfold qn
  rw [← (pm.filter _).length_eq, List.filter_map, List.length_map]
  rfl
theorem qn_none {n : Int} {P : Q4 → Prop} (h : ∀ q, ¬ P q) : qn n P = 0 := by
  unfold qn
  rw [List.filter_eq_nil_iff.mpr fun q _ => by simp [h q]]
  rfl
theorem exs_len {n : Int} {ps : List Pr} (h : Pairs n ps) : (exs n ps).length = qn n fun q => Ex n ps q ∧ Least q :=
  qn_list (lt_nodup lin_q exs_lt) fun q => by
    rw [mem_exs h]
    exact ⟨fun ⟨e, l⟩ => ⟨⟨e.r1, e.r2, e.r3, e.r4⟩, e, l⟩, fun ⟨_, e, l⟩ => ⟨e, l⟩⟩
theorem in_s1 {n : Int} {q : Q4} (h : In4 n q) : In4 n (s1 q) := ⟨h.2.1, h.1, h.2.2.2, h.2.2.1⟩
theorem in_s2 {n : Int} {q : Q4} (h : In4 n q) : In4 n (s2 q) := ⟨h.2.2.1, h.2.2.2, h.1, h.2.1⟩
theorem in_s3 {n : Int} {q : Q4} (h : In4 n q) : In4 n (s3 q) := ⟨h.2.2.2, h.2.2.1, h.2.1, h.1⟩
theorem ex_s1 {n : Int} {ps : List Pr} {q : Q4} : Ex n ps (s1 q) ↔ Ex n ps q := ⟨fun h => h.s1, fun h => h.s1⟩
theorem ex_s2 {n : Int} {ps : List Pr} {q : Q4} : Ex n ps (s2 q) ↔ Ex n ps q := ⟨fun h => h.s2, fun h => h.s2⟩
theorem ex_s3 {n : Int} {ps : List Pr} {q : Q4} : Ex n ps (s3 q) ↔ Ex n ps q := ⟨fun h => h.s3, fun h => h.s3⟩
/-- all four ways are told by one -/
theorem qn_four {n : Int} {ps : List Pr} (h : Pairs n ps) : qn n (Ex n ps) = 4 * (exs n ps).length := by
  have e0 := exs_len h
  have a := qn_split (n := n) (P := Ex n ps) Least
  have b := qn_split (n := n) (P := fun q => Ex n ps q ∧ ¬ Least q) fun q => Least (s1 q)
  have c := qn_split (n := n) (P := fun q => (Ex n ps q ∧ ¬ Least q) ∧ ¬ Least (s1 q)) fun q => Least (s2 q)
  have b1 : qn n (fun q => (Ex n ps q ∧ ¬ Least q) ∧ Least (s1 q)) = qn n fun q => Ex n ps q ∧ Least q := by
    rw [qn_map (P := fun q => Ex n ps q ∧ Least q) s1 (fun _ => rfl) fun _ => in_s1]
    refine qn_iff fun q _ => ?_
    rw [ex_s1]
    constructor
    · rintro ⟨⟨e, _⟩, l⟩; exact ⟨e, l⟩
    · rintro ⟨e, l⟩; exact ⟨⟨e, fun z => by unfold Least s1 at *; simp only at *; omega⟩, l⟩
  have c1 : qn n (fun q => ((Ex n ps q ∧ ¬ Least q) ∧ ¬ Least (s1 q)) ∧ Least (s2 q)) = qn n fun q => Ex n ps q ∧ Least q := by
    rw [qn_map (P := fun q => Ex n ps q ∧ Least q) s2 (fun _ => rfl) fun _ => in_s2]
    refine qn_iff fun q _ => ?_
    rw [ex_s2]
    constructor
    · rintro ⟨⟨⟨e, _⟩, _⟩, l⟩; exact ⟨e, l⟩
    · rintro ⟨e, l⟩; exact ⟨⟨⟨e, fun z => by unfold Least s2 at *; simp only at *; omega⟩, fun z => by unfold Least s1 s2 at *; simp only at *; omega⟩, l⟩
  have d1 : qn n (fun q => ((Ex n ps q ∧ ¬ Least q) ∧ ¬ Least (s1 q)) ∧ ¬ Least (s2 q)) = qn n fun q => Ex n ps q ∧ Least q := by
    rw [qn_map (P := fun q => Ex n ps q ∧ Least q) s3 (fun _ => rfl) fun _ => in_s3]
    refine qn_iff fun q _ => ?_
    rw [ex_s3]
    constructor
    · rintro ⟨⟨⟨e, x⟩, y⟩, z⟩
      obtain ⟨n1, n2, n3, n4, n5, n6⟩ := e.ne h
      refine ⟨e, ?_⟩
      unfold Least s1 s2 s3 at *
      simp only at *
      omega
    · rintro ⟨e, l⟩
      refine ⟨⟨⟨e, fun z => ?_⟩, fun z => ?_⟩, fun z => ?_⟩ <;> unfold Least at * <;> simp only [s1, s2, s3] at * <;> omega
  omega
theorem qn_half {n : Int} {ps : List Pr} (h : Pairs n ps) : qn n (fun q => Ex n ps q ∧ q.1 < q.2.2.2) = 2 * (exs n ps).length := by
  have a := qn_split (n := n) (P := Ex n ps) fun q => q.1 < q.2.2.2
  have b : qn n (fun q => Ex n ps q ∧ ¬ q.1 < q.2.2.2) = qn n fun q => Ex n ps q ∧ q.1 < q.2.2.2 := by
    rw [qn_map (P := fun q => Ex n ps q ∧ q.1 < q.2.2.2) s3 (fun _ => rfl) fun _ => in_s3]
    refine qn_iff fun q _ => ?_
    rw [ex_s3]
    constructor
    · rintro ⟨e, l⟩
      have := (e.ne h).ad
      exact ⟨e, by simp only [s3]; omega⟩
    · rintro ⟨e, l⟩
      exact ⟨e, by simp only [s3] at l; omega⟩
  have := qn_four h
  omega
/-- who met the one, not the other -/
def own (n : Int) (ps : List Pr) (x y : Int) : List Int := (nb n ps x).filter fun o => !decide (o = y) && !W.mem o (nb n ps y)
theorem mem_own {n : Int} {ps : List Pr} {x y o : Int} : o ∈ own n ps x y ↔ (0 ≤ o ∧ o < n) ∧ ad ps x o = true ∧ o ≠ y ∧ ad ps y o = false := by
  unfold own
  rw [List.mem_filter, mem_nb']
  have : W.mem o (nb n ps y) = false ↔ ¬ ((0 ≤ o ∧ o < n) ∧ ad ps y o = true) := by
    rw [← mem_nb', ← W.mem_eq]
    simp
  simp only [Bool.and_eq_true, Bool.not_eq_true', decide_eq_false_iff_not, this]
  constructor
  · rintro ⟨⟨r, a⟩, b, c⟩
    refine ⟨r, a, b, ?_⟩
    cases q : ad ps y o with
    | false => rfl
    | true => exact absurd ⟨r, q⟩ c
  · rintro ⟨r, a, b, c⟩
    exact ⟨⟨r, a⟩, b, fun z => by rw [c] at z; exact absurd z.2 (by simp)⟩
theorem len_const {α β : Type} {f : α → List β} {k : Nat} : ∀ {xs : List α}, (∀ x ∈ xs, (f x).length = k) → (xs.flatMap f).length = xs.length * k
  | [], _ => by simp
  | x :: xs, h => by
    rw [List.flatMap_cons, List.length_append, h x List.mem_cons_self, len_const fun y hy => h y (List.mem_cons_of_mem _ hy), List.length_cons, Nat.add_mul]
    omega
theorem len_sum {α β : Type} {f : α → List β} {g : α → Int} : ∀ {xs : List α}, (∀ x ∈ xs, ((f x).length : Int) = g x) → ((xs.flatMap f).length : Int) = (xs.map g).sum
  | [], _ => by simp
  | x :: xs, h => by
    rw [List.flatMap_cons, List.length_append, List.map_cons, List.sum_cons, ← h x List.mem_cons_self, ← len_sum fun y hy => h y (List.mem_cons_of_mem _ hy)]
    omega
/-- the products of who met one of two alone: twice the told exchanges -/
theorem products {n : Int} {ps : List Pr} (h : Pairs n ps) : ((allP n).map fun p => ((own n ps p.1 p.2).length : Int) * ((own n ps p.2 p.1).length : Int)).sum = 2 * ((exs n ps).length : Int) := by
  have nd : ∀ x y, (own n ps x y).Pairwise (· ≠ ·) := fun x y => (nb_lt.sublist List.filter_sublist).imp fun h => by omega
  have nod : ((allP n).flatMap fun p => (own n ps p.1 p.2).flatMap fun b => (own n ps p.2 p.1).map fun c => ((p.1, b, c, p.2) : Q4)).Nodup := by
    refine List.pairwise_flatMap.mpr ⟨fun p _ => List.pairwise_flatMap.mpr ⟨fun b _ => ?_, ?_⟩, ?_⟩
    · exact List.Pairwise.map _ (fun x y hxy e => hxy (congrArg (fun q : Q4 => q.2.2.1) e)) (nd _ _)
    · refine (nd _ _).imp fun {x y} hxy => ?_
      intro q hq r hr e
      obtain ⟨_, _, rfl⟩ := List.mem_map.mp hq
      obtain ⟨_, _, rfl⟩ := List.mem_map.mp hr
      exact hxy (congrArg (fun q : Q4 => q.2.1) e)
    · refine List.Pairwise.imp (fun {x y} hxy => ?_) (allP_ok n).nodup
      intro q hq r hr e
      obtain ⟨_, _, hq⟩ := List.mem_flatMap.mp hq
      obtain ⟨_, _, rfl⟩ := List.mem_map.mp hq
      obtain ⟨_, _, hr⟩ := List.mem_flatMap.mp hr
      obtain ⟨_, _, rfl⟩ := List.mem_map.mp hr
      exact hxy (Prod.ext (congrArg (fun q : Q4 => q.1) e) (congrArg (fun q : Q4 => q.2.2.2) e))
  have mem : ∀ q, q ∈ ((allP n).flatMap fun p => (own n ps p.1 p.2).flatMap fun b => (own n ps p.2 p.1).map fun c => ((p.1, b, c, p.2) : Q4)) ↔ In4 n q ∧ (Ex n ps q ∧ q.1 < q.2.2.2) := fun q => by
    obtain ⟨a, b, c, d⟩ := q
    simp only [List.mem_flatMap, List.mem_map, mem_own, Prod.mk.injEq]
    constructor
    · rintro ⟨p, hp, b', ⟨b0, b1, b2, b3⟩, c', ⟨c0, c1, c2, c3⟩, rfl, rfl, rfl, rfl⟩
      have hp := mem_allP.mp hp
      unfold PairOk at hp
      exact ⟨⟨by simp only; omega, b0, c0, by simp only; omega⟩, ⟨by simp only; omega, b0, c0, by simp only; omega, b1, by rw [ad_comm]; exact c1, c3, by rw [ad_comm]; exact b3, Ne.symm c2, b2⟩, hp.2.1⟩
    · rintro ⟨_, e, l⟩
      exact ⟨(a, d), mem_allP.mpr ⟨e.r1.1, l, e.r4.2⟩, b, ⟨e.r2, e.ab, e.nbd, by rw [ad_comm]; exact e.bd⟩, c, ⟨e.r3, by rw [ad_comm]; exact e.cd, Ne.symm e.nac, e.ac⟩, rfl, rfl, rfl, rfl⟩
  have e := qn_list nod mem
  rw [qn_half h] at e
  have s := len_sum (xs := allP n) (f := fun p => (own n ps p.1 p.2).flatMap fun b => (own n ps p.2 p.1).map fun c => ((p.1, b, c, p.2) : Q4)) (g := fun p => ((own n ps p.1 p.2).length : Int) * ((own n ps p.2 p.1).length : Int)) fun p _ => by
    rw [len_const (k := (own n ps p.2 p.1).length) fun b _ => List.length_map _]
    push_cast
    rfl
  rw [← s, e]
  push_cast
  rfl
end HM
end
section
/-! W, plain 6: what an exchange leads to; contraries, renamed webs -/
namespace HM
open PySem PySem.Spec PyProof.Rows L2 RZ
theorem prOf_ok {n x y : Int} (hx : 0 ≤ x ∧ x < n) (hy : 0 ≤ y ∧ y < n) (h : x ≠ y) : PairOk n (prOf x y) := by
  unfold PairOk prOf
  simp only
  omega
def chg (n : Int) (ps : List Pr) (q : Q4) : List Pr := (allP n).filter fun p => (W.mem p ps && !W.mem p [prOf q.1 q.2.1, prOf q.2.2.1 q.2.2.2]) || W.mem p [prOf q.1 q.2.2.1, prOf q.2.1 q.2.2.2]
theorem chg_ok {n : Int} {ps : List Pr} {q : Q4} : Pairs n (chg n ps q) := (allP_ok n).filter _
theorem mem_chg {n : Int} {ps : List Pr} {q : Q4} (h : Pairs n ps) (e : Ex n ps q) {p : Pr} : p ∈ chg n ps q ↔ (p ∈ ps ∧ p ≠ prOf q.1 q.2.1 ∧ p ≠ prOf q.2.2.1 q.2.2.2) ∨ p = prOf q.1 q.2.2.1 ∨ p = prOf q.2.1 q.2.2.2 := by
  unfold chg
  rw [List.mem_filter, mem_allP]
  simp only [Bool.or_eq_true, Bool.and_eq_true, Bool.not_eq_true', W.mem_eq]
  have m2 : ∀ a b : Pr, W.mem p [a, b] = false ↔ p ≠ a ∧ p ≠ b := fun a b => by
    have : W.mem p [a, b] = true ↔ p = a ∨ p = b := by rw [W.mem_eq]; simp
    cases q : W.mem p [a, b] with
    | false => rw [q] at this; simp at this; simp [this]
    | true => rw [q] at this; simp at this; rcases this with z | z <;> simp [z]
  rw [m2]
  simp only [List.mem_cons, List.not_mem_nil, or_false]
  constructor
  · rintro ⟨_, z⟩; exact z
  · intro z
    refine ⟨?_, z⟩
    rcases z with z | rfl | rfl
    · exact h.ok p z.1
    · exact prOf_ok e.r1 e.r3 e.nac
    · exact prOf_ok e.r2 e.r4 e.nbd
theorem ex_ab {n : Int} {ps : List Pr} {q : Q4} (e : Ex n ps q) : prOf q.1 q.2.1 ∈ ps := ad_iff.mp e.ab
theorem ex_cd {n : Int} {ps : List Pr} {q : Q4} (e : Ex n ps q) : prOf q.2.2.1 q.2.2.2 ∈ ps := ad_iff.mp e.cd
theorem ex_ac {n : Int} {ps : List Pr} {q : Q4} (e : Ex n ps q) : prOf q.1 q.2.2.1 ∉ ps := fun z => by have := ad_iff.mpr z; rw [e.ac] at this; cases this
theorem ex_bd {n : Int} {ps : List Pr} {q : Q4} (e : Ex n ps q) : prOf q.2.1 q.2.2.2 ∉ ps := fun z => by have := ad_iff.mpr z; rw [e.bd] at this; cases this
theorem prNe {x y z w : Int} (h : ¬ ((x = z ∧ y = w) ∨ (x = w ∧ y = z))) : prOf x y ≠ prOf z w := fun e => h (prOf_eq.mp e)
abbrev lft (ps : List Pr) (q : Q4) : List Pr := ps.filter fun p => !W.mem p [prOf q.1 q.2.1, prOf q.2.2.1 q.2.2.2]
theorem mem_lft {ps : List Pr} {q : Q4} {p : Pr} : p ∈ lft ps q ↔ p ∈ ps ∧ p ≠ prOf q.1 q.2.1 ∧ p ≠ prOf q.2.2.1 q.2.2.2 := by
  rw [List.mem_filter]
  have : W.mem p [prOf q.1 q.2.1, prOf q.2.2.1 q.2.2.2] = true ↔ p = prOf q.1 q.2.1 ∨ p = prOf q.2.2.1 q.2.2.2 := by rw [W.mem_eq]; simp
  cases z : W.mem p [prOf q.1 q.2.1, prOf q.2.2.1 q.2.2.2] with
  | false => rw [z] at this; simp at this; simp [this]
  | true => rw [z] at this; simp at this; rcases this with z | z <;> simp [z]
theorem late_nodup {n : Int} {ps : List Pr} {q : Q4} (h : Pairs n ps) (e : Ex n ps q) : (lft ps q ++ [prOf q.1 q.2.2.1, prOf q.2.1 q.2.2.2]).Nodup := by
  obtain ⟨n1, n2, n3, n4, n5, n6⟩ := e.ne h
  refine List.nodup_append.mpr ⟨h.nodup.sublist List.filter_sublist, by simp; exact prNe (by omega), fun a ha b hb => ?_⟩
  rw [mem_lft] at ha
  simp only [List.mem_cons, List.not_mem_nil, or_false] at hb
  rintro rfl
  rcases hb with rfl | rfl
  · exact ex_ac e ha.1
  · exact ex_bd e ha.1
theorem chg_perm {n : Int} {ps : List Pr} {q : Q4} (h : Pairs n ps) (e : Ex n ps q) : (lft ps q ++ [prOf q.1 q.2.2.1, prOf q.2.1 q.2.2.2]).Perm (chg n ps q) :=
  (List.perm_ext_iff_of_nodup (late_nodup h e) chg_ok.nodup).mpr fun p => by
    rw [mem_chg h e, List.mem_append, mem_lft]
    simp
theorem chg_sort {n : Int} {ps : List Pr} {q : Q4} (h : Pairs n ps) (e : Ex n ps q) : W.sortBy ltPr (lft ps q ++ [prOf q.1 q.2.2.1, prOf q.2.1 q.2.2.2]) = chg n ps q := sortBy_of lin_pr chg_ok.lt (chg_perm h e)
theorem old_perm {n : Int} {ps : List Pr} {q : Q4} (h : Pairs n ps) (e : Ex n ps q) : (lft ps q ++ [prOf q.1 q.2.1, prOf q.2.2.1 q.2.2.2]).Perm ps := by
  obtain ⟨n1, n2, n3, n4, n5, n6⟩ := e.ne h
  refine (List.perm_ext_iff_of_nodup (List.nodup_append.mpr ⟨h.nodup.sublist List.filter_sublist, by simp; exact prNe (by omega), fun a ha b hb => ?_⟩) h.nodup).mpr fun p => ?_
  · rw [mem_lft] at ha
    simp only [List.mem_cons, List.not_mem_nil, or_false] at hb
    rintro rfl
    rcases hb with z | z
    · exact ha.2.1 z
    · exact ha.2.2 z
  · rw [List.mem_append, mem_lft]
    simp only [List.mem_cons, List.not_mem_nil, or_false]
    constructor
    · rintro (z | rfl | rfl)
      · exact z.1
      · exact ex_ab e
      · exact ex_cd e
    · intro z
      by_cases a : p = prOf q.1 q.2.1
      · exact .inr (.inl a)
      · by_cases b : p = prOf q.2.2.1 q.2.2.2
        · exact .inr (.inr b)
        · exact .inl ⟨z, a, b⟩
theorem deg_perm {ps qs : List Pr} (p : ps.Perm qs) (i : Int) : deg ps i = deg qs i := by
  unfold deg
  rw [(p.filter _).length_eq]
theorem hasP_of {i x y : Int} : hasP i (prOf x y) = true ↔ i = x ∨ i = y := by
  rw [hasP_iff]
  unfold prOf
  simp only
  omega
theorem deg_chg {n : Int} {ps : List Pr} {q : Q4} (h : Pairs n ps) (e : Ex n ps q) (i : Int) : deg (chg n ps q) i = deg ps i := by
  obtain ⟨n1, n2, n3, n4, n5, n6⟩ := e.ne h
  rw [← deg_perm (chg_perm h e), ← deg_perm (old_perm h e), deg_append, deg_append, deg_cons, deg_cons, deg_cons, deg_cons]
  simp only [hasP_of]
  by_cases a : i = q.1
  · subst a; simp [n1, n2, n3]
  · by_cases b : i = q.2.1
    · subst b; simp [Ne.symm n1, n4, n5]
    · by_cases c : i = q.2.2.1
      · subst c; simp [Ne.symm n2, Ne.symm n4, n6]
      · by_cases d : i = q.2.2.2
        · subst d; simp [Ne.symm n3, Ne.symm n5, Ne.symm n6]
        · simp [a, b, c, d]
theorem cnt_chg {n : Int} {ps : List Pr} {q : Q4} (h : Pairs n ps) (e : Ex n ps q) : cnt n (chg n ps q) = cnt n ps := by
  unfold cnt
  exact List.map_congr_left fun i _ => deg_chg h e i
theorem chg_s1 {n : Int} {ps : List Pr} {q : Q4} (h : Pairs n ps) (e : Ex n ps q) : chg n ps (s1 q) = chg n ps q := pairs_uniq chg_ok chg_ok fun p => by
  rw [mem_chg h e, mem_chg h e.s1]
  simp only [s1, prOf_comm q.2.1 q.1, prOf_comm q.2.2.2 q.2.2.1]
  constructor
  · rintro (z | z | z)
    · exact .inl z
    · exact .inr (.inr z)
    · exact .inr (.inl z)
  · rintro (z | z | z)
    · exact .inl z
    · exact .inr (.inr z)
    · exact .inr (.inl z)
theorem chg_s2 {n : Int} {ps : List Pr} {q : Q4} (h : Pairs n ps) (e : Ex n ps q) : chg n ps (s2 q) = chg n ps q := pairs_uniq chg_ok chg_ok fun p => by
  rw [mem_chg h e, mem_chg h e.s2]
  simp only [s2, prOf_comm q.2.2.1 q.1, prOf_comm q.2.2.2 q.2.1]
  constructor
  · rintro (z | z)
    · exact .inl ⟨z.1, z.2.2, z.2.1⟩
    · exact .inr z
  · rintro (z | z)
    · exact .inl ⟨z.1, z.2.2, z.2.1⟩
    · exact .inr z
theorem chg_s3 {n : Int} {ps : List Pr} {q : Q4} (h : Pairs n ps) (e : Ex n ps q) : chg n ps (s3 q) = chg n ps q := by
  have := chg_s1 h e.s2
  rw [chg_s2 h e] at this
  exact this
def sw (q : Q4) : Q4 := (q.1, q.2.2.1, q.2.1, q.2.2.2)
theorem ex_back {n : Int} {ps : List Pr} {q : Q4} (h : Pairs n ps) (e : Ex n ps q) : Ex n (chg n ps q) (sw q) := by
  obtain ⟨n1, n2, n3, n4, n5, n6⟩ := e.ne h
  have no : ∀ {x y : Int}, prOf x y ∉ chg n ps q → ad (chg n ps q) x y = false := fun {x y} z => by
    cases r : ad (chg n ps q) x y with
    | false => rfl
    | true => exact absurd (ad_iff.mp r) z
  refine ⟨e.r1, e.r3, e.r2, e.r4, ad_iff.mpr ((mem_chg h e).mpr (.inr (.inl rfl))), ad_iff.mpr ((mem_chg h e).mpr (.inr (.inr rfl))), no fun z => ?_, no fun z => ?_, n1, n6⟩
  · rcases (mem_chg h e).mp z with z | z | z
    · exact z.2.1 rfl
    · exact prNe (by simp only [sw]; omega) z
    · exact prNe (by simp only [sw]; omega) z
  · rcases (mem_chg h e).mp z with z | z | z
    · exact z.2.2 rfl
    · exact prNe (by simp only [sw]; omega) z
    · exact prNe (by simp only [sw]; omega) z
theorem chg_back {n : Int} {ps : List Pr} {q : Q4} (h : Pairs n ps) (e : Ex n ps q) : chg n (chg n ps q) (sw q) = ps := pairs_uniq chg_ok h fun p => by
  obtain ⟨n1, n2, n3, n4, n5, n6⟩ := e.ne h
  rw [mem_chg chg_ok (ex_back h e), mem_chg h e]
  simp only [sw]
  constructor
  · rintro (⟨z | z | z, a, b⟩ | rfl | rfl)
    · exact z.1
    · exact absurd z a
    · exact absurd z b
    · exact ex_ab e
    · exact ex_cd e
  · intro z
    by_cases a : p = prOf q.1 q.2.1
    · exact .inr (.inl a)
    · by_cases b : p = prOf q.2.2.1 q.2.2.2
      · exact .inr (.inr b)
      · exact .inl ⟨.inl ⟨z, a, b⟩, fun c => ex_ac e (c ▸ z), fun c => ex_bd e (c ▸ z)⟩
/-! the contrary -/
abbrev con (n : Int) (ps : List Pr) : List Pr := (allP n).filter fun p => !W.mem p ps
theorem con_ok {n : Int} {ps : List Pr} : Pairs n (con n ps) := (allP_ok n).filter _
theorem ad_con {n : Int} {ps : List Pr} {x y : Int} (hx : 0 ≤ x ∧ x < n) (hy : 0 ≤ y ∧ y < n) (h : x ≠ y) : ad (con n ps) x y = !ad ps x y := by
  rw [Bool.eq_iff_iff, ad_iff, List.mem_filter, mem_allP]
  simp only [prOf_ok hx hy h, true_and]
  rfl
theorem ex_con {n : Int} {ps : List Pr} {q : Q4} (h : Pairs n ps) : Ex n (con n ps) (sw q) ↔ Ex n ps q := by
  constructor
  · intro e
    obtain ⟨n1, n2, n3, n4, n5, n6⟩ := e.ne con_ok
    have a := ad_con (ps := ps) e.r1 e.r2 n1
    have b := ad_con (ps := ps) e.r3 e.r4 n6
    have c := ad_con (ps := ps) e.r1 e.r3 n2
    have d := ad_con (ps := ps) e.r2 e.r4 n5
    rw [e.ab] at a; rw [e.cd] at b; rw [e.ac] at c; rw [e.bd] at d
    simp only [sw] at *
    exact ⟨e.r1, e.r3, e.r2, e.r4, by simpa using c.symm, by simpa using d.symm, by simpa using a.symm, by simpa using b.symm, n1, n6⟩
  · intro e
    obtain ⟨n1, n2, n3, n4, n5, n6⟩ := e.ne h
    exact ⟨e.r1, e.r3, e.r2, e.r4, (ad_con e.r1 e.r3 n2).trans (by rw [e.ac]; rfl), (ad_con e.r2 e.r4 n5).trans (by rw [e.bd]; rfl), (ad_con e.r1 e.r2 n1).trans (by rw [e.ab]; rfl), (ad_con e.r3 e.r4 n6).trans (by rw [e.cd]; rfl), n1, n6⟩
theorem exs_con {n : Int} {ps : List Pr} (h : Pairs n ps) : W.sortBy ltQ ((exs n ps).map sw) = exs n (con n ps) := by
  refine sortBy_mem lin_q exs_lt (List.Pairwise.map _ (fun x y hxy e => hxy (by have := congrArg sw e; exact this)) (lt_nodup lin_q exs_lt)) fun q => ?_
  rw [mem_exs con_ok, List.mem_map]
  constructor
  · rintro ⟨r, hr, rfl⟩
    obtain ⟨e, l⟩ := (mem_exs h).mp hr
    exact ⟨(ex_con h).mpr e, by unfold Least sw at *; simp only; omega⟩
  · rintro ⟨e, l⟩
    have e2 : Ex n ps (sw q) := (ex_con h).mp e
    exact ⟨sw q, (mem_exs h).mpr ⟨e2, by unfold Least sw at *; simp only; omega⟩, rfl⟩
/-! the told one of four -/
def told (q : Q4) : Q4 := [s1 q, s2 q, s3 q].foldl (fun a y => if ltQ y a then y else a) q
theorem ltQ_first {x y : Q4} (h : x.1 ≠ y.1) : ltQ x y = decide (x.1 < y.1) := by
  rw [Bool.eq_iff_iff, ltQ_iff]
  simp [h]
theorem told_of {q : Q4} (h : Ne4 q) : (told q = q ∨ told q = s1 q ∨ told q = s2 q ∨ told q = s3 q) ∧ Least (told q) := by
  obtain ⟨n1, n2, n3, n4, n5, n6⟩ := h
  obtain ⟨a, b, c, d⟩ := q
  simp only at *
  unfold told
  simp only [List.foldl_cons, List.foldl_nil]
  have e1 : ltQ (s1 (a, b, c, d)) (a, b, c, d) = decide (b < a) := ltQ_first (by simpa [s1] using Ne.symm n1)
  rw [e1]
  by_cases h1 : b < a
  · simp only [h1, decide_true, if_true]
    rw [show ltQ (s2 (a, b, c, d)) (s1 (a, b, c, d)) = decide (c < b) from ltQ_first (by simpa [s1, s2] using Ne.symm n4)]
    by_cases h2 : c < b
    · simp only [h2, decide_true, if_true]
      rw [show ltQ (s3 (a, b, c, d)) (s2 (a, b, c, d)) = decide (d < c) from ltQ_first (by simpa [s3, s2] using Ne.symm n6)]
      by_cases h3 : d < c
      · simp only [h3, decide_true, if_true]
        exact ⟨by simp, by unfold Least s3; simp only; omega⟩
      · simp only [h3, decide_false, if_false, Bool.false_eq_true]
        exact ⟨by simp, by unfold Least s2; simp only; omega⟩
    · simp only [h2, decide_false, if_false, Bool.false_eq_true]
      rw [show ltQ (s3 (a, b, c, d)) (s1 (a, b, c, d)) = decide (d < b) from ltQ_first (by simpa [s3, s1] using Ne.symm n5)]
      by_cases h3 : d < b
      · simp only [h3, decide_true, if_true]
        exact ⟨by simp, by unfold Least s3; simp only; omega⟩
      · simp only [h3, decide_false, if_false, Bool.false_eq_true]
        exact ⟨by simp, by unfold Least s1; simp only; omega⟩
  · simp only [h1, decide_false, if_false, Bool.false_eq_true]
    rw [show ltQ (s2 (a, b, c, d)) (a, b, c, d) = decide (c < a) from ltQ_first (by simpa [s2] using Ne.symm n2)]
    by_cases h2 : c < a
    · simp only [h2, decide_true, if_true]
      rw [show ltQ (s3 (a, b, c, d)) (s2 (a, b, c, d)) = decide (d < c) from ltQ_first (by simpa [s3, s2] using Ne.symm n6)]
      by_cases h3 : d < c
      · simp only [h3, decide_true, if_true]
        exact ⟨by simp, by unfold Least s3; simp only; omega⟩
      · simp only [h3, decide_false, if_false, Bool.false_eq_true]
        exact ⟨by simp, by unfold Least s2; simp only; omega⟩
    · simp only [h2, decide_false, if_false, Bool.false_eq_true]
      rw [show ltQ (s3 (a, b, c, d)) (a, b, c, d) = decide (d < a) from ltQ_first (by simpa [s3] using Ne.symm n3)]
      by_cases h3 : d < a
      · simp only [h3, decide_true, if_true]
        exact ⟨by simp, by unfold Least s3; simp only; omega⟩
      · simp only [h3, decide_false, if_false, Bool.false_eq_true]
        exact ⟨by simp, by unfold Least; simp only; omega⟩
theorem told_least {q : Q4} (h : Ne4 q) (l : Least q) : told q = q := by
  obtain ⟨z | z | z | z, l2⟩ := told_of h
  · exact z
  all_goals
    rw [z] at l2
    exfalso
    simp only [Least, s1, s2, s3] at l2 l
    omega
theorem told_same {x y : Q4} (hx : Ne4 x) (hy : Ne4 y) (h : told x = told y) : y = x ∨ y = s1 x ∨ y = s2 x ∨ y = s3 x := by
  obtain ⟨a, _⟩ := told_of hx
  obtain ⟨b, _⟩ := told_of hy
  rw [h] at a
  rcases b with b | b | b | b <;> rcases a with a | a | a | a <;> rw [b] at a
  · exact .inl a
  · exact .inr (.inl a)
  · exact .inr (.inr (.inl a))
  · exact .inr (.inr (.inr a))
  · exact .inr (.inl (congrArg s1 a))
  · exact .inl (congrArg s1 a)
  · exact .inr (.inr (.inr (congrArg s1 a)))
  · exact .inr (.inr (.inl (congrArg s1 a)))
  · exact .inr (.inr (.inl (congrArg s2 a)))
  · exact .inr (.inr (.inr (congrArg s2 a)))
  · exact .inl (congrArg s2 a)
  · exact .inr (.inl (congrArg s2 a))
  · exact .inr (.inr (.inr (congrArg s3 a)))
  · exact .inr (.inr (.inl (congrArg s3 a)))
  · exact .inr (.inl (congrArg s3 a))
  · exact .inl (congrArg s3 a)
theorem ne_s1 {q : Q4} (h : Ne4 q) : Ne4 (s1 q) := ⟨Ne.symm h.ab, h.bd, h.bc, h.ad, h.ac, Ne.symm h.cd⟩
theorem ne_s2 {q : Q4} (h : Ne4 q) : Ne4 (s2 q) := ⟨h.cd, Ne.symm h.ac, Ne.symm h.bc, Ne.symm h.ad, Ne.symm h.bd, h.ab⟩
theorem ne_s3 {q : Q4} (h : Ne4 q) : Ne4 (s3 q) := ne_s1 (ne_s2 h)
/-- one of the four ways is least -/
theorem told_orb {x y : Q4} (hx : Ne4 x) (h : y = x ∨ y = s1 x ∨ y = s2 x ∨ y = s3 x) : told y = told x := by
  have hy : Ne4 y := by
    rcases h with rfl | rfl | rfl | rfl
    · exact hx
    · exact ne_s1 hx
    · exact ne_s2 hx
    · exact ne_s3 hx
  obtain ⟨a, la⟩ := told_of hx
  obtain ⟨b, lb⟩ := told_of hy
  obtain ⟨n1, n2, n3, n4, n5, n6⟩ := hx
  rcases h with rfl | rfl | rfl | rfl <;> rcases b with b | b | b | b <;> rcases a with a | a | a | a <;> rw [a] at la ⊢ <;> rw [b] at lb ⊢ <;> first | rfl | (exfalso; simp only [Least, s1, s2, s3] at la lb; omega)
/-! renamed -/
structure Ren (n : Int) (f : Int → Int) : Prop where
  rng : ∀ x, 0 ≤ x → x < n → 0 ≤ f x ∧ f x < n
  inj : ∀ x y, 0 ≤ x → x < n → 0 ≤ y → y < n → f x = f y → x = y
  sur : ∀ y, 0 ≤ y → y < n → ∃ x, 0 ≤ x ∧ x < n ∧ f x = y
theorem ren_of {n : Int} {xs : List Int} (h : xs.Perm (W.rangeI 0 n)) (h0 : 0 ≤ n) : Ren n (at0 xs) := by
  have len : xs.length = n.toNat := by rw [h.length_eq, W.rangeI_length]; omega
  have get : ∀ x, 0 ≤ x → x < n → ∃ h : x.toNat < xs.length, at0 xs x = xs[x.toNat] := fun x x0 x1 => ⟨by omega, by
    have : x.toNat < xs.length := by omega
    simp only [at0, List.getD_eq_getElem?_getD, List.getElem?_eq_getElem this, Option.getD_some]⟩
  have nd : xs.Nodup := h.nodup_iff.mpr (List.Pairwise.imp (S := fun a b => a ≠ b) (fun {a b} r e => by omega) W.rangeI_lt)
  refine ⟨fun x x0 x1 => ?_, fun x y x0 x1 y0 y1 e => ?_, fun y y0 y1 => ?_⟩
  · obtain ⟨hx, e⟩ := get x x0 x1
    rw [e]
    exact W.mem_rangeI.mp (h.mem_iff.mp (List.getElem_mem hx))
  · obtain ⟨hx, ex⟩ := get x x0 x1
    obtain ⟨hy, ey⟩ := get y y0 y1
    rw [ex, ey] at e
    have := (List.getElem_inj nd).mp e
    omega
  · have : y ∈ xs := h.mem_iff.mpr (W.mem_rangeI.mpr ⟨y0, y1⟩)
    obtain ⟨k, hk, e⟩ := List.mem_iff_getElem.mp this
    refine ⟨k, by omega, by omega, ?_⟩
    obtain ⟨_, e2⟩ := get k (by omega) (by omega)
    rw [e2]
    simpa using e
def nam (n : Int) (ps : List Pr) (f : Int → Int) : List Pr := (allP n).filter fun p => W.mem p (ps.map fun p => prOf (f p.1) (f p.2))
theorem nam_ok {n : Int} {ps : List Pr} {f : Int → Int} : Pairs n (nam n ps f) := (allP_ok n).filter _
theorem mem_nam {n : Int} {ps : List Pr} {f : Int → Int} (h : Pairs n ps) (r : Ren n f) {p : Pr} : p ∈ nam n ps f ↔ p ∈ ps.map fun p => prOf (f p.1) (f p.2) := by
  unfold nam
  rw [List.mem_filter, mem_allP, W.mem_eq]
  refine ⟨fun z => z.2, fun z => ⟨?_, z⟩⟩
  obtain ⟨q, hq, rfl⟩ := List.mem_map.mp z
  obtain ⟨a, b, c⟩ := h.ok q hq
  exact prOf_ok (r.rng _ a (by omega)) (r.rng _ (by omega) c) fun e => by have := r.inj _ _ a (by omega) (by omega) c e; omega
theorem pr_ren {n : Int} {ps : List Pr} {f : Int → Int} (h : Pairs n ps) (r : Ren n f) {p : Pr} (hp : p ∈ ps) {x y : Int} (hx : 0 ≤ x ∧ x < n) (hy : 0 ≤ y ∧ y < n) : prOf (f p.1) (f p.2) = prOf (f x) (f y) ↔ p = prOf x y := by
  obtain ⟨a, b, c⟩ := h.ok p hp
  rw [prOf_eq]
  constructor
  · rintro (⟨e1, e2⟩ | ⟨e1, e2⟩)
    · have := r.inj _ _ a (by omega) hx.1 hx.2 e1
      have := r.inj _ _ (by omega) c hy.1 hy.2 e2
      unfold prOf
      exact Prod.ext (by simp only; omega) (by simp only; omega)
    · have := r.inj _ _ a (by omega) hy.1 hy.2 e1
      have := r.inj _ _ (by omega) c hx.1 hx.2 e2
      unfold prOf
      exact Prod.ext (by simp only; omega) (by simp only; omega)
  · intro e
    have e1 : p.1 = min x y := congrArg (·.1) e
    have e2 : p.2 = max x y := congrArg (·.2) e
    by_cases z : x ≤ y
    · exact .inl ⟨by rw [e1, Int.min_eq_left z], by rw [e2, Int.max_eq_right z]⟩
    · exact .inr ⟨by rw [e1, Int.min_eq_right (by omega)], by rw [e2, Int.max_eq_left (by omega)]⟩
theorem nam_sort {n : Int} {ps : List Pr} {f : Int → Int} (h : Pairs n ps) (r : Ren n f) : W.sortBy ltPr (ps.map fun p => prOf (f p.1) (f p.2)) = nam n ps f := by
  refine sortBy_mem lin_pr nam_ok.lt ?_ fun p => (mem_nam h r).symm
  refine List.pairwise_map.mpr (List.Pairwise.imp_of_mem (fun {a b} ha hb hab e => hab ?_) h.nodup)
  obtain ⟨x, y, z⟩ := h.ok b hb
  have := (pr_ren h r ha ⟨x, by omega⟩ ⟨by omega, z⟩).mp e
  rw [this]
  unfold prOf
  exact Prod.ext (by simp only; omega) (by simp only; omega)
theorem ad_nam {n : Int} {ps : List Pr} {f : Int → Int} (h : Pairs n ps) (r : Ren n f) {x y : Int} (hx : 0 ≤ x ∧ x < n) (hy : 0 ≤ y ∧ y < n) : ad (nam n ps f) (f x) (f y) = ad ps x y := by
  rw [Bool.eq_iff_iff, ad_iff, ad_iff, mem_nam h r, List.mem_map]
  constructor
  · rintro ⟨p, hp, e⟩
    rw [← (pr_ren h r hp hx hy).mp e]
    exact hp
  · intro z
    exact ⟨_, z, (pr_ren h r z hx hy).mpr rfl⟩
def f4 (f : Int → Int) (q : Q4) : Q4 := (f q.1, f q.2.1, f q.2.2.1, f q.2.2.2)
theorem ex_nam {n : Int} {ps : List Pr} {f : Int → Int} (h : Pairs n ps) (r : Ren n f) {q : Q4} (i : In4 n q) : Ex n (nam n ps f) (f4 f q) ↔ Ex n ps q := by
  obtain ⟨i1, i2, i3, i4⟩ := i
  have a := ad_nam h r i1 i2
  have b := ad_nam h r i3 i4
  have c := ad_nam h r i1 i3
  have d := ad_nam h r i2 i4
  constructor
  · intro e
    exact ⟨i1, i2, i3, i4, by rw [← a]; exact e.ab, by rw [← b]; exact e.cd, by rw [← c]; exact e.ac, by rw [← d]; exact e.bd, fun z => e.nac (congrArg f z), fun z => e.nbd (congrArg f z)⟩
  · intro e
    exact ⟨r.rng _ i1.1 i1.2, r.rng _ i2.1 i2.2, r.rng _ i3.1 i3.2, r.rng _ i4.1 i4.2, a.trans e.ab, b.trans e.cd, c.trans e.ac, d.trans e.bd, fun z => e.nac (r.inj _ _ i1.1 i1.2 i3.1 i3.2 z), fun z => e.nbd (r.inj _ _ i2.1 i2.2 i4.1 i4.2 z)⟩
theorem Ex.in4 {n : Int} {ps : List Pr} {q : Q4} (e : Ex n ps q) : In4 n q := ⟨e.r1, e.r2, e.r3, e.r4⟩
theorem f4_inj {n : Int} {f : Int → Int} (r : Ren n f) {p q : Q4} (i : In4 n p) (j : In4 n q) (e : f4 f p = f4 f q) : p = q := by
  obtain ⟨i1, i2, i3, i4⟩ := i
  obtain ⟨j1, j2, j3, j4⟩ := j
  have e1 := r.inj _ _ i1.1 i1.2 j1.1 j1.2 (congrArg (·.1) e)
  have e2 := r.inj _ _ i2.1 i2.2 j2.1 j2.2 (congrArg (·.2.1) e)
  have e3 := r.inj _ _ i3.1 i3.2 j3.1 j3.2 (congrArg (·.2.2.1) e)
  have e4 := r.inj _ _ i4.1 i4.2 j4.1 j4.2 (congrArg (·.2.2.2) e)
  exact Prod.ext e1 (Prod.ext e2 (Prod.ext e3 e4))
theorem exs_nam {n : Int} {ps : List Pr} {f : Int → Int} (h : Pairs n ps) (r : Ren n f) : W.sortBy ltQ ((exs n ps).map fun q => told (f4 f q)) = exs n (nam n ps f) := by
  refine sortBy_mem lin_q exs_lt ?_ fun q => ?_
  · refine List.pairwise_map.mpr (List.Pairwise.imp_of_mem (fun {a b} ha hb hab e => hab ?_) (lt_nodup lin_q exs_lt))
    obtain ⟨ea, la⟩ := (mem_exs h).mp ha
    obtain ⟨eb, lb⟩ := (mem_exs h).mp hb
    have na := ((ex_nam h r ea.in4).mpr ea).ne nam_ok
    have nb := ((ex_nam h r eb.in4).mpr eb).ne nam_ok
    have key : b = a ∨ b = s1 a ∨ b = s2 a ∨ b = s3 a := by
      rcases told_same na nb e with z | z | z | z
      · exact .inl (f4_inj r eb.in4 ea.in4 z)
      · exact .inr (.inl (f4_inj r eb.in4 ea.s1.in4 z))
      · exact .inr (.inr (.inl (f4_inj r eb.in4 ea.s2.in4 z)))
      · exact .inr (.inr (.inr (f4_inj r eb.in4 ea.s3.in4 z)))
    rcases key with z | z | z | z
    · exact z.symm
    all_goals
      rw [z] at lb
      exfalso
      simp only [Least, s1, s2, s3] at la lb
      omega
  · rw [mem_exs nam_ok, List.mem_map]
    constructor
    · rintro ⟨a, ha, rfl⟩
      obtain ⟨ea, la⟩ := (mem_exs h).mp ha
      have e := (ex_nam h r ea.in4).mpr ea
      obtain ⟨z, l⟩ := told_of (e.ne nam_ok)
      refine ⟨?_, l⟩
      rcases z with z | z | z | z <;> rw [z]
      · exact e
      · exact e.s1
      · exact e.s2
      · exact e.s3
    · rintro ⟨e, l⟩
      obtain ⟨a, a0, a1, ea⟩ := r.sur _ e.r1.1 e.r1.2
      obtain ⟨b, b0, b1, eb⟩ := r.sur _ e.r2.1 e.r2.2
      obtain ⟨c, c0, c1, ec⟩ := r.sur _ e.r3.1 e.r3.2
      obtain ⟨d, d0, d1, ed⟩ := r.sur _ e.r4.1 e.r4.2
      have eq : q = f4 f (a, b, c, d) := Prod.ext ea.symm (Prod.ext eb.symm (Prod.ext ec.symm ed.symm))
      have i : In4 n (a, b, c, d) := ⟨⟨a0, a1⟩, ⟨b0, b1⟩, ⟨c0, c1⟩, ⟨d0, d1⟩⟩
      rw [eq] at e
      have ex := (ex_nam h r i).mp e
      obtain ⟨z, lz⟩ := told_of (ex.ne h)
      have ez : Ex n ps (told (a, b, c, d)) := by
        rcases z with z | z | z | z <;> rw [z]
        · exact ex
        · exact ex.s1
        · exact ex.s2
        · exact ex.s3
      refine ⟨told (a, b, c, d), (mem_exs h).mpr ⟨ez, lz⟩, ?_⟩
      have nq := e.ne nam_ok
      rw [← eq] at nq
      rw [told_orb nq (by
        rw [eq]
        rcases z with z | z | z | z <;> rw [z]
        · exact .inl rfl
        · exact .inr (.inl rfl)
        · exact .inr (.inr (.inl rfl))
        · exact .inr (.inr (.inr rfl)))]
      exact told_least nq l
/-! persons who met all, or none -/
theorem deg_pos {n : Int} {ps : List Pr} {x y : Int} (h : ad ps x y = true) : 1 ≤ deg ps x := by
  unfold deg
  have : prOf x y ∈ ps.filter (hasP x) := List.mem_filter.mpr ⟨ad_iff.mp h, hasP_of.mpr (.inl rfl)⟩
  have := List.length_pos_of_mem this
  omega
theorem deg_mid {n : Int} {ps : List Pr} {x y z : Int} (h : Pairs n ps) (hx : 0 ≤ x ∧ x < n) (hz : 0 ≤ z ∧ z < n) (a : ad ps x y = true) (b : ad ps x z = false) (ne : x ≠ z) : deg ps x ≠ 0 ∧ deg ps x ≠ n - 1 := by
  have p := deg_pos (n := n) a
  have q := deg_pos (n := n) (ps := con n ps) (x := x) (y := z) (by rw [ad_con hx hz ne, b]; rfl)
  have s : deg ps x + deg (con n ps) x = n - 1 := deg_contrary h hx.1 hx.2
  exact ⟨by omega, by omega⟩
theorem ex_mid {n : Int} {ps : List Pr} {q : Q4} (h : Pairs n ps) (e : Ex n ps q) {x : Int} (hx : x = q.1 ∨ x = q.2.1 ∨ x = q.2.2.1 ∨ x = q.2.2.2) : deg ps x ≠ 0 ∧ deg ps x ≠ n - 1 := by
  rcases hx with rfl | rfl | rfl | rfl
  · exact deg_mid h e.r1 e.r3 e.ab e.ac e.nac
  · exact deg_mid h e.r2 e.r4 (by rw [ad_comm]; exact e.ab) e.bd e.nbd
  · exact deg_mid h e.r3 e.r1 e.cd (by rw [ad_comm]; exact e.ac) (Ne.symm e.nac)
  · exact deg_mid h e.r4 e.r2 (by rw [ad_comm]; exact e.cd) (by rw [ad_comm]; exact e.bd) (Ne.symm e.nbd)
end HM
end
section
/-! W, plain 7: loops that gather; how long; what is shown of exchanges -/
namespace HM
open PySem PySem.Spec PyProof.Rows L2 RZ
namespace W
variable {α β γ σ ρ : Type}
theorem forS_app {f : α → List β → W (List β)} (g : α → List β) (B : Nat) : ∀ {xs : List α} {s : List β}, (∀ x ∈ xs, ∀ s : List β, s.length + (g x).length ≤ B → f x s = pure (s ++ g x)) → s.length + (xs.flatMap g).length ≤ B → forS xs s f = pure (s ++ xs.flatMap g)
  | [], s, _, _ => by unfold forS; simp
  | x :: xs, s, hf, hB => by
    rw [List.flatMap_cons, List.length_append] at hB
    unfold forS
    rw [hf x List.mem_cons_self s (by omega), pure_bind, forS_app g B (fun y hy => hf y (List.mem_cons_of_mem _ hy)) (by rw [List.length_append]; omega), List.flatMap_cons, List.append_assoc]
theorem ite_and {b c : Bool} : ite b (pure c) (pure false) = pure (b && c) := by cases b <;> rfl
theorem ite_or {b c : Bool} : ite b (pure true) (pure c) = pure (b || c) := by cases b <;> rfl
theorem forS_add {f : α → Int → W Int} (g : α → Int) : ∀ {xs : List α} {s : Int}, (∀ x ∈ xs, ∀ s, f x s = pure (s + g x)) → forS xs s f = pure (s + (xs.map g).sum)
  | [], s, _ => by unfold forS; simp
  | x :: xs, s, hf => by
    unfold forS
    rw [hf x List.mem_cons_self s, pure_bind, forS_add g fun y hy => hf y (List.mem_cons_of_mem _ hy), List.map_cons, List.sum_cons, Int.add_assoc]
end W
theorem filter_flat {α β : Type} {p : α → Bool} {g : α → List β} : ∀ xs : List α, (xs.filter p).flatMap g = xs.flatMap fun x => if p x = true then g x else []
  | [] => rfl
  | x :: xs => by
    rw [List.filter_cons, List.flatMap_cons]
    by_cases h : p x = true
    · rw [if_pos h, if_pos h, List.flatMap_cons, filter_flat xs]
    · rw [if_neg h, if_neg h, filter_flat xs]; rfl
theorem at_nb {n : Int} {ps : List Pr} {a : Int} (h0 : 0 ≤ a) (h1 : a < n) : W.at' ((W.rangeI 0 n).map (nb n ps)) a = W.pure (nb n ps a) := by
  rw [W.at_eq h0 (by rw [List.length_map, W.rangeI_length]; omega), List.getElem_map, W.rangeI_getElem]
  congr 2
  omega
theorem nb_len10 {n : Int} {ps : List Pr} {i : Int} (h : n ≤ 10) : (nb n ps i).length ≤ 10 := by
  have := List.length_filter_le (fun o => W.mem (min i o, max i o) ps) (W.rangeI 0 n)
  rw [W.rangeI_length] at this
  show (List.filter _ _).length ≤ _
  omega
theorem flat_le {α β : Type} {f : α → List β} {k : Nat} : ∀ {xs : List α}, (∀ x ∈ xs, (f x).length ≤ k) → (xs.flatMap f).length ≤ xs.length * k
  | [], _ => by simp
  | x :: xs, h => by
    rw [List.flatMap_cons, List.length_append, List.length_cons, Nat.add_mul]
    have := h x List.mem_cons_self
    have := flat_le (xs := xs) fun y hy => h y (List.mem_cons_of_mem _ hy)
    omega
theorem all4_len {n : Int} (h : n ≤ 10) : (all4 n).length ≤ 10000 := by
  have r : (W.rangeI 0 n).length ≤ 10 := by rw [W.rangeI_length]; omega
  have up : ∀ k, (W.rangeI 0 n).length * k ≤ 10 * k := fun k => Nat.mul_le_mul_right _ r
  unfold all4
  refine Nat.le_trans (flat_le (k := 1000) fun a _ => Nat.le_trans (flat_le (k := 100) fun b _ => Nat.le_trans (flat_le (k := 10) fun c _ => by rw [List.length_map]; exact r) ?_) ?_) ?_
  · exact up 10
  · exact up 100
  · exact up 1000
theorem exs_le {n : Int} {ps : List Pr} (h : Pairs n ps) (hn : n ≤ 10) : (exs n ps).length ≤ 2500 := by
  have a := qn_four h
  have b : qn n (Ex n ps) ≤ (all4 n).length := List.length_filter_le _ _
  have := all4_len hn
  omega
theorem sm_q4 {n : Int} {q : Q4} (hn : n ≤ 1000) (h : In4 n q) : Sm (eP4 eI eI eI eI q) 1 4 := by
  obtain ⟨h1, h2, h3, h4⟩ := h
  exact (sm_tup (sm_cons (sm_int (i := q.1) (by omega) (by omega)) (sm_cons (sm_int (i := q.2.1) (by omega) (by omega)) (sm_cons (sm_int (i := q.2.2.1) (by omega) (by omega)) (sm_cons (sm_int (i := q.2.2.2) (by omega) (by omega)) sm_nil))))).mono (by omega) (by omega)
theorem exs_in {n : Int} {ps : List Pr} (h : Pairs n ps) {q : Q4} (hq : q ∈ exs n ps) : Ex n ps q ∧ Least q := (mem_exs h).mp hq
theorem sm_exs {n : Int} {ps : List Pr} (h : Pairs n ps) (hn : n ≤ 10) : Sm (eL (eP4 eI eI eI eI) (exs n ps)) 20 12500 :=
  (sm_L (e := eP4 eI eI eI eI) (k := 1) (n := 4) (m := 2500) (fun q hq => sm_q4 (show n ≤ 1000 by omega) (exs_in h hq).1.in4) (exs_le h hn)).mono (by omega) (by omega)
end HM
end
section
/-! W, plain 8: any data: what laws bend; looks -/
namespace HM
open PySem PySem.Spec PyProof.Rows L2 RZ
mutual
/-- small data: ints, short words, rows of fewer than m things; a dict without entries where dk, lists where lk -/
def Nc (m : Nat) (dk lk : Bool) : PyData → Bool
  | .none => true
  | .bool _ => true
  | .int i => decide (-(1000 * (m : Int)) < i) && decide (i < 1000 * (m : Int))
  | .str z => decide (z.cps.size ≤ 100) && z.cps.toList.all (fun c => decide (c < 16 ^ 8))
  | .list xs => lk && decide (xs.length < m) && NcAll m dk lk xs
  | .tuple xs => decide (xs.length < m) && NcAll m dk lk xs
  | .dict kvs => dk && kvs.isEmpty
def NcAll (m : Nat) (dk lk : Bool) : List PyData → Bool
  | [] => true
  | x :: xs => Nc m dk lk x && NcAll m dk lk xs
end
section
variable {m : Nat} {dk lk : Bool} {k n : Nat} {d : PyData} {xs ys : List PyData}
theorem ncAll_iff : ∀ {xs : List PyData}, NcAll m dk lk xs = true ↔ ∀ x ∈ xs, Nc m dk lk x = true
  | [] => by simp [NcAll]
  | x :: xs => by simp only [NcAll, Bool.and_eq_true, List.mem_cons, forall_eq_or_imp, ncAll_iff]
theorem nc_tup : Nc m dk lk (.tuple xs) = true ↔ xs.length < m ∧ ∀ x ∈ xs, Nc m dk lk x = true := by simp only [Nc, Bool.and_eq_true, decide_eq_true_eq, ncAll_iff]
theorem nc_lst : Nc m dk lk (.list xs) = true ↔ lk = true ∧ xs.length < m ∧ ∀ x ∈ xs, Nc m dk lk x = true := by simp only [Nc, Bool.and_eq_true, decide_eq_true_eq, ncAll_iff, and_assoc]
mutual
theorem nc_mono {m' : Nat} {dk' lk' : Bool} (hm : m ≤ m') (h1 : dk = true → dk' = true) (h2 : lk = true → lk' = true) : ∀ d : PyData, Nc m dk lk d = true → Nc m' dk' lk' d = true
  | .none, h => h
  | .bool _, h => h
  | .int _, h => by
    simp only [Nc, Bool.and_eq_true, decide_eq_true_eq] at h ⊢
    omega
  | .str _, h => by simpa only [Nc] using h
  | .list xs, h => by
    simp only [Nc, Bool.and_eq_true, decide_eq_true_eq] at h ⊢
    exact ⟨⟨h2 h.1.1, by omega⟩, ncAll_mono hm h1 h2 xs h.2⟩
  | .tuple xs, h => by
    simp only [Nc, Bool.and_eq_true, decide_eq_true_eq] at h ⊢
    exact ⟨by omega, ncAll_mono hm h1 h2 xs h.2⟩
  | .dict _, h => by
    simp only [Nc, Bool.and_eq_true] at h ⊢
    exact ⟨h1 h.1, h.2⟩
theorem ncAll_mono {m' : Nat} {dk' lk' : Bool} (hm : m ≤ m') (h1 : dk = true → dk' = true) (h2 : lk = true → lk' = true) : ∀ xs : List PyData, NcAll m dk lk xs = true → NcAll m' dk' lk' xs = true
  | [], h => h
  | x :: xs, h => by
    simp only [NcAll, Bool.and_eq_true] at h ⊢
    exact ⟨nc_mono hm h1 h2 x h.1, ncAll_mono hm h1 h2 xs h.2⟩
end
mutual
theorem nc_sh (hm : m ≤ 1000) : ∀ d : PyData, Nc m dk lk d = true → d.showable = true ∧ d.leavesShort 13 = true ∧ (dk = false → d.hasDict = false) ∧ (lk = false → NoL d)
  | .none, _ => ⟨by simp [PyData.showable], by simp [PyData.leavesShort], fun _ => by simp [PyData.hasDict], fun _ => by simp [NoL]⟩
  | .bool _, _ => ⟨by simp [PyData.showable], by simp [PyData.leavesShort], fun _ => by simp [PyData.hasDict], fun _ => by simp [NoL]⟩
  | .int i, h => by
    simp only [Nc, Bool.and_eq_true, decide_eq_true_eq] at h
    have s := sm_int (i := i) (by omega) (by omega)
    exact ⟨s.sh, s.lv, fun _ => by simp [PyData.hasDict], fun _ => by simp [NoL]⟩
  | .str z, h => by
    simp only [Nc, Bool.and_eq_true] at h
    exact ⟨by simp [PyData.showable], by simpa only [PyData.leavesShort] using h.2, fun _ => by simp [PyData.hasDict], fun _ => by simp [NoL]⟩
  | .list xs, h => by
    simp only [Nc, Bool.and_eq_true] at h
    obtain ⟨a, b, c, e⟩ := ncAll_sh hm xs h.2
    exact ⟨by simpa only [PyData.showable] using a, by simpa only [PyData.leavesShort] using b, fun z => by simpa only [PyData.hasDict] using c z, fun z => by rw [z] at h; simp at h⟩
  | .tuple xs, h => by
    simp only [Nc, Bool.and_eq_true] at h
    obtain ⟨a, b, c, e⟩ := ncAll_sh hm xs h.2
    exact ⟨by simpa only [PyData.showable] using a, by simpa only [PyData.leavesShort] using b, fun z => by simpa only [PyData.hasDict] using c z, fun z => by simpa only [NoL] using e z⟩
  | .dict [], h => ⟨by simp [PyData.showable, PyData.showableKv], by simp [PyData.leavesShort, PyData.leavesShortKv], fun z => by simp [Nc, z] at h, fun _ => by simp [NoL]⟩
  | .dict (_ :: _), h => by simp [Nc] at h
theorem ncAll_sh (hm : m ≤ 1000) : ∀ xs : List PyData, NcAll m dk lk xs = true → PyData.showableAll xs = true ∧ PyData.leavesShortAll 13 xs = true ∧ (dk = false → PyData.hasDictAll xs = false) ∧ (lk = false → NoLs xs)
  | [], _ => ⟨by simp [PyData.showableAll], by simp [PyData.leavesShortAll], fun _ => by simp [PyData.hasDictAll], fun _ => by simp [NoLs]⟩
  | x :: xs, h => by
    simp only [NcAll, Bool.and_eq_true] at h
    obtain ⟨a, b, c, e⟩ := nc_sh hm x h.1
    obtain ⟨a2, b2, c2, e2⟩ := ncAll_sh hm xs h.2
    exact ⟨by simp [PyData.showableAll, a, a2], by simp [PyData.leavesShortAll, b, b2], fun z => by simp [PyData.hasDictAll, c z, c2 z], fun z => by simp only [NoLs]; exact ⟨e z, e2 z⟩⟩
end
/-- .. not deeper than k, of no more than n things -/
structure Ni (m : Nat) (dk lk : Bool) (k n : Nat) (d : PyData) : Prop where
  nc : Nc m dk lk d = true
  dp : d.depth ≤ k
  bk : d.bulk ≤ n
structure NiAll (m : Nat) (dk lk : Bool) (k n : Nat) (xs : List PyData) : Prop where
  nc : ∀ x ∈ xs, Nc m dk lk x = true
  dp : PyData.depthAll xs ≤ k
  bk : PyData.bulkAll xs ≤ n
theorem Ni.mono {m' k' n' : Nat} {dk' lk' : Bool} (h : Ni m dk lk k n d) (h1 : dk = true → dk' = true) (h2 : lk = true → lk' = true) (hm : m ≤ m' := by omega) (hk : k ≤ k' := by omega) (hn : n ≤ n' := by omega) : Ni m' dk' lk' k' n' d :=
  ⟨nc_mono hm h1 h2 d h.nc, Nat.le_trans h.dp hk, Nat.le_trans h.bk hn⟩
theorem Ni.shw (h : Ni m dk lk k n d) (hd : (dk && lk) = false) (hm : m ≤ 1000 := by omega) (hk : k ≤ 60 := by omega) (hn : n ≤ 100000 := by omega) : Shw d := by
  obtain ⟨a, b, c, e⟩ := nc_sh hm d h.nc
  refine ⟨a, ?_, Nat.le_trans h.dp hk, PyData.shown_fits_bulk (by decide) (by decide) b (by have := h.bk; omega)⟩
  cases dk with
  | false => exact .inl (c rfl)
  | true => exact .inr (e (by simpa using hd))
theorem bulkAll_append : ∀ xs ys : List PyData, PyData.bulkAll (xs ++ ys) = PyData.bulkAll xs + PyData.bulkAll ys
  | [], ys => by simp [PyData.bulkAll]
  | x :: xs, ys => by simp only [List.cons_append, PyData.bulkAll, bulkAll_append xs ys]; omega
theorem bulkAll_len : ∀ xs : List PyData, xs.length ≤ PyData.bulkAll xs
  | [] => by simp
  | x :: xs => by simp only [PyData.bulkAll, List.length_cons]; have := bulkAll_len xs; omega
theorem bulk_mem : ∀ {xs : List PyData} {x : PyData}, x ∈ xs → x.bulk + 1 ≤ PyData.bulkAll xs
  | y :: xs, x, h => by
    simp only [PyData.bulkAll]
    rcases List.mem_cons.mp h with rfl | h
    · omega
    · have := bulk_mem h; omega
theorem depth_mem : ∀ {xs : List PyData} {x : PyData}, x ∈ xs → x.depth ≤ PyData.depthAll xs
  | y :: xs, x, h => by
    simp only [PyData.depthAll]
    rcases List.mem_cons.mp h with rfl | h
    · omega
    · have := depth_mem h; omega
theorem depthAll_le : ∀ {xs : List PyData}, (∀ x ∈ xs, x.depth ≤ k) → PyData.depthAll xs ≤ k
  | [], _ => by simp [PyData.depthAll]
  | x :: xs, h => by
    simp only [PyData.depthAll]
    have := h x List.mem_cons_self
    have := depthAll_le (xs := xs) fun y hy => h y (List.mem_cons_of_mem _ hy)
    omega
theorem bulkAll_sub : ∀ {xs ys : List PyData}, xs.Sublist ys → PyData.bulkAll xs ≤ PyData.bulkAll ys
  | _, _, .slnil => Nat.le_refl _
  | _, _, .cons a h => by simp only [PyData.bulkAll]; have := bulkAll_sub h; omega
  | _, _, .cons₂ a h => by simp only [PyData.bulkAll]; have := bulkAll_sub h; omega
theorem NiAll.nil : NiAll m dk lk k n [] := ⟨fun _ h => (nomatch h), by simp [PyData.depthAll], by simp [PyData.bulkAll]⟩
theorem NiAll.sub {k : Nat} (h : NiAll m dk lk k n ys) (s : xs.Sublist ys) : NiAll m dk lk k n xs := ⟨fun x hx => h.nc x (s.subset hx), depthAll_le fun x hx => Nat.le_trans (depth_mem (s.subset hx)) h.dp, Nat.le_trans (bulkAll_sub s) h.bk⟩
theorem NiAll.cons {n' : Nat} (h : Ni m dk lk k n d) (hs : NiAll m dk lk k n' xs) : NiAll m dk lk k (n + 1 + n') (d :: xs) :=
  ⟨fun x hx => (List.mem_cons.mp hx).elim (fun e => by rw [e]; exact h.nc) (hs.nc x), by simp only [PyData.depthAll]; have := h.dp; have := hs.dp; omega, by simp only [PyData.bulkAll]; have := h.bk; have := hs.bk; omega⟩
theorem NiAll.one (h : Ni m dk lk k n d) : NiAll m dk lk k (n + 1) [d] := ⟨fun x hx => by rw [List.mem_singleton.mp hx]; exact h.nc, depthAll_le fun x hx => by rw [List.mem_singleton.mp hx]; exact h.dp, by simp only [PyData.bulkAll]; have := h.bk; omega⟩
theorem NiAll.append {n' : Nat} (h : NiAll m dk lk k n xs) (hs : NiAll m dk lk k n' ys) : NiAll m dk lk k (n + n') (xs ++ ys) :=
  ⟨fun x hx => (List.mem_append.mp hx).elim (h.nc x) (hs.nc x), depthAll_le fun x hx => (List.mem_append.mp hx).elim (fun z => Nat.le_trans (depth_mem z) h.dp) fun z => Nat.le_trans (depth_mem z) hs.dp, by rw [bulkAll_append]; have := h.bk; have := hs.bk; omega⟩
theorem NiAll.perm (h : NiAll m dk lk k n ys) (p : xs.Perm ys) : NiAll m dk lk k n xs := ⟨fun x hx => h.nc x (p.mem_iff.mp hx), depthAll_le fun x hx => Nat.le_trans (depth_mem (p.mem_iff.mp hx)) h.dp, by
  have : PyData.bulkAll xs = PyData.bulkAll ys := by
    have f : ∀ zs : List PyData, PyData.bulkAll zs = (zs.map fun z => z.bulk + 1).sum := fun zs => by
      induction zs with
      | nil => simp [PyData.bulkAll]
      | cons z zs ih => simp only [PyData.bulkAll, List.map_cons, List.sum_cons, ih]
    rw [f, f]
    exact (p.map _).sum_nat
  rw [this]; exact h.bk⟩
theorem NiAll.mono {m' k' n' : Nat} {dk' lk' : Bool} (h : NiAll m dk lk k n xs) (h1 : dk = true → dk' = true) (h2 : lk = true → lk' = true) (hm : m ≤ m' := by omega) (hk : k ≤ k' := by omega) (hn : n ≤ n' := by omega) : NiAll m' dk' lk' k' n' xs :=
  ⟨fun x hx => nc_mono hm h1 h2 x (h.nc x hx), Nat.le_trans h.dp hk, Nat.le_trans h.bk hn⟩
theorem NiAll.mem {x : PyData} (h : NiAll m dk lk k n xs) (hx : x ∈ xs) : Ni m dk lk k n x := ⟨h.nc x hx, Nat.le_trans (depth_mem hx) h.dp, by have := bulk_mem hx; have := h.bk; omega⟩
theorem NiAll.tup (h : NiAll m dk lk k n xs) (hl : xs.length < m) : Ni m dk lk (k + 1) n (.tuple xs) := ⟨nc_tup.mpr ⟨hl, h.nc⟩, by simp only [PyData.depth]; have := h.dp; omega, by simp only [PyData.bulk]; exact h.bk⟩
theorem NiAll.lst (h : NiAll m dk true k n xs) (hl : xs.length < m) : Ni m dk true (k + 1) n (.list xs) := ⟨nc_lst.mpr ⟨rfl, hl, h.nc⟩, by simp only [PyData.depth]; have := h.dp; omega, by simp only [PyData.bulk]; exact h.bk⟩
theorem Ni.ofTup {k : Nat} (h : Ni m dk lk k n (.tuple xs)) : xs.length < m ∧ 0 < k ∧ NiAll m dk lk (k - 1) n xs := by
  have a := nc_tup.mp h.nc
  have b := h.dp
  have c := h.bk
  simp only [PyData.depth] at b
  simp only [PyData.bulk] at c
  exact ⟨a.1, by omega, a.2, by omega, c⟩
theorem ni_int {i : Int} (h1 : -(1000 * (m : Int)) < i := by omega) (h2 : i < 1000 * (m : Int) := by omega) : Ni m dk lk k n (.int i) := ⟨by simp only [Nc, Bool.and_eq_true, decide_eq_true_eq]; exact ⟨h1, h2⟩, by simp [PyData.depth], by simp [PyData.bulk]⟩
theorem ni_bool {b : Bool} : Ni m dk lk k n (.bool b) := ⟨by simp [Nc], by simp [PyData.depth], by simp [PyData.bulk]⟩
theorem ni_none : Ni m dk lk k n .none := ⟨by simp [Nc], by simp [PyData.depth], by simp [PyData.bulk]⟩
theorem ni_dict {k n : Nat} : Ni m true lk (k + 1) n (.dict []) := ⟨by simp [Nc], by simp [PyData.depth, PyData.depthKv], by simp [PyData.bulk, PyData.bulkKv]⟩
theorem ni_str {z : Str} (h : (decide (z.cps.size ≤ 100) && z.cps.toList.all (fun c => decide (c < 16 ^ 8))) = true) (hn : 100 ≤ n) : Ni m dk lk k n (.str z) := ⟨by simpa only [Nc] using h, by simp [PyData.depth], by
  simp only [Bool.and_eq_true, decide_eq_true_eq] at h
  simp only [PyData.bulk]
  omega⟩
end
/-! ### looks -/
theorem allO_some {α : Type} : ∀ xs : List α, W.allO (fun a => some a) xs = some xs
  | [] => rfl
  | x :: xs => by simp [W.allO, allO_some xs]
theorem anyT_tup {xs : List PyData} : W.anyT (fun a => some a) (.tuple xs) = some xs := allO_some xs
theorem seqA_tup {xs : List PyData} : W.seqA (.tuple xs) = some xs := rfl
theorem seqA_lst {xs : List PyData} : W.seqA (.list xs) = some xs := rfl
def isI (lo hi : Int) : PyData → Bool
  | .int i => decide (lo ≤ i) && decide (i ≤ hi)
  | _ => false
theorem isI_iff {lo hi : Int} {d : PyData} : isI lo hi d = true ↔ ∃ i, d = .int i ∧ lo ≤ i ∧ i ≤ hi := by
  cases d <;> simp [isI]
def isPr (n : Int) : PyData → Bool
  | .tuple [.int a, .int b] => decide (0 ≤ a) && decide (a < b) && decide (b < n)
  | _ => false
theorem isPr_iff {n : Int} {d : PyData} : isPr n d = true ↔ ∃ p : Pr, d = eP2 eI eI p ∧ PairOk n p := by
  constructor
  · intro h
    unfold isPr at h
    split at h
    · rename_i a b
      simp only [Bool.and_eq_true, decide_eq_true_eq] at h
      exact ⟨(a, b), rfl, h.1.1, h.1.2, h.2⟩
    · cases h
  · rintro ⟨p, rfl, h0, h1, h2⟩
    simp [isPr, h0, h1, h2]
theorem isPr_all {n : Int} : ∀ {xs : List PyData}, xs.all (isPr n) = true → ∃ ps : List Pr, xs = ps.map (eP2 eI eI) ∧ ∀ p ∈ ps, PairOk n p
  | [], _ => ⟨[], rfl, fun _ h => nomatch h⟩
  | x :: xs, h => by
    simp only [List.all_cons, Bool.and_eq_true] at h
    obtain ⟨p, rfl, hp⟩ := isPr_iff.mp h.1
    obtain ⟨ps, rfl, hps⟩ := isPr_all h.2
    exact ⟨p :: ps, rfl, fun q hq => (List.mem_cons.mp hq).elim (fun e => by rw [e]; exact hp) (hps q)⟩
theorem all_isPr {n : Int} {ps : List Pr} (h : ∀ p ∈ ps, PairOk n p) : (ps.map (eP2 eI eI)).all (isPr n) = true := by
  rw [List.all_map]
  exact List.all_eq_true.mpr fun p hp => isPr_iff.mpr ⟨p, rfl, h p hp⟩
theorem allO_prs : ∀ ps : List Pr, W.allO (W.anyP (W.two W.anyI W.anyI)) (ps.map (eP2 eI eI)) = some ps
  | [] => rfl
  | p :: ps => by
    rw [List.map_cons, W.allO, allO_prs ps]
    simp [W.anyP, W.two, W.anyI]
def upA (xs : List PyData) : Bool := (xs.zip (xs.drop 1)).all fun p => PySem.W.dataLt p.1 p.2
theorem up_pair : ∀ {ps : List Pr}, ((ps.zip (ps.drop 1)).all fun p => ltPr p.1 p.2) = true ↔ ps.Pairwise fun a b => ltPr a b = true
  | [] => by simp
  | [p] => by simp
  | p :: q :: ps => by
    have ih := up_pair (ps := q :: ps)
    simp only [List.drop_one, List.tail_cons, List.zip_cons_cons, List.all_cons, Bool.and_eq_true] at ih ⊢
    rw [ih]
    constructor
    · rintro ⟨h1, h2⟩
      refine List.pairwise_cons.mpr ⟨fun x hx => ?_, h2⟩
      rcases List.mem_cons.mp hx with rfl | hx
      · exact h1
      · have := (List.pairwise_cons.mp h2).1 x hx
        rw [ltPr_iff] at *
        omega
    · intro h
      exact ⟨(List.pairwise_cons.mp h).1 q List.mem_cons_self, (List.pairwise_cons.mp h).2⟩
theorem upA_map {ps : List Pr} : upA (ps.map (eP2 eI eI)) = true ↔ ps.Pairwise fun a b => ltPr a b = true := by
  rw [← up_pair]
  unfold upA
  rw [← List.map_drop, List.zip_map, List.all_map]
  have : ((fun p : PyData × PyData => PySem.W.dataLt p.1 p.2) ∘ Prod.map (eP2 eI eI) (eP2 eI eI)) = fun p : Pr × Pr => ltPr p.1 p.2 := by
    funext p
    show PySem.W.dataLt (.tuple [.int p.1.1, .int p.1.2]) (.tuple [.int p.2.1, .int p.2.2]) = _
    rw [PySem.W.dataLt_ii]
    by_cases h : ltPr p.1 p.2 = true
    · rw [h]; exact decide_eq_true (ltPr_iff.mp h)
    · rw [Bool.not_eq_true] at h
      rw [h]
      exact decide_eq_false fun z => by rw [ltPr_iff.mpr z] at h; cases h
  rw [this]
/-- a rising tuple of pairs -/
def isPrs (n : Int) : PyData → Bool
  | .tuple xs => xs.all (isPr n) && upA xs
  | _ => false
theorem isPrs_iff {n : Int} {d : PyData} : isPrs n d = true ↔ ∃ ps : List Pr, d = eT (eP2 eI eI) ps ∧ Pairs n ps := by
  constructor
  · intro h
    cases d <;> simp only [isPrs, Bool.and_eq_true, reduceCtorEq] at h
    obtain ⟨ps, rfl, hp⟩ := isPr_all h.1
    exact ⟨ps, rfl, hp, upA_map.mp h.2⟩
  · rintro ⟨ps, rfl, h⟩
    simp only [isPrs, Bool.and_eq_true]
    exact ⟨all_isPr h.ok, upA_map.mpr h.lt⟩
def isWb : PyData → Bool
  | .tuple [.str z, .int n, e] => decide (z = "web") && decide (1 ≤ n) && decide (n ≤ 10) && isPrs n e
  | _ => false
abbrev eWb : WebT → PyData := eP3 (eW "web") eI (eT (eP2 eI eI))
theorem isWb_iff {d : PyData} : isWb d = true ↔ ∃ w : WebT, d = eWb w ∧ IsWeb w := by
  constructor
  · intro h
    unfold isWb at h
    split at h
    · rename_i z n e
      simp only [Bool.and_eq_true, decide_eq_true_eq] at h
      obtain ⟨ps, rfl, hp⟩ := isPrs_iff.mp h.2
      exact ⟨((), n, ps), by rw [h.1.1.1], h.1.1.2, h.1.2, hp⟩
    · cases h
  · rintro ⟨w, rfl, h⟩
    simp [isWb, h.lo, h.hi, isPrs_iff.mpr ⟨_, rfl, h.ps⟩]
def isCts : PyData → Bool
  | .tuple xs => decide (1 ≤ xs.length) && decide (xs.length ≤ 10) && xs.all (isI 0 40)
  | _ => false

section
variable {α : Type} {x y z : α}
theorem at2_0 : W.at' [x, y] 0 = W.pure x := W.get_of rfl
theorem at2_1 : W.at' [x, y] 1 = W.pure y := W.get_of rfl
theorem at3_0 : W.at' [x, y, z] 0 = W.pure x := W.get_of rfl
theorem at3_1 : W.at' [x, y, z] 1 = W.pure y := W.get_of rfl
theorem at3_2 : W.at' [x, y, z] 2 = W.pure z := W.get_of rfl
end
theorem isI_two {n : Int} {x y : PyData} : (isI 0 (n - 1) x && isI 0 (n - 1) y) = true → ∃ a b, x = .int a ∧ y = .int b ∧ 0 ≤ a ∧ a < n ∧ 0 ≤ b ∧ b < n := fun h => by
  rw [Bool.and_eq_true] at h
  obtain ⟨a, rfl, h1, h2⟩ := isI_iff.mp h.1
  obtain ⟨b, rfl, h3, h4⟩ := isI_iff.mp h.2
  exact ⟨a, b, rfl, rfl, h1, by omega, h3, by omega⟩
theorem isPr_two {n : Int} {x y : PyData} (h : (isI 0 (n - 1) x && isI 0 (n - 1) y) = false) : isPr n (.tuple [x, y]) = false := by
  cases q : isPr n (.tuple [x, y]) with
  | false => rfl
  | true =>
    obtain ⟨p, e, h0, h1, h2⟩ := isPr_iff.mp q
    simp only [PyData.tuple.injEq, List.cons.injEq, and_true] at e
    obtain ⟨rfl, rfl⟩ := e
    simp only [isI, Bool.and_eq_false_iff, decide_eq_false_iff_not] at h
    omega
theorem cmp_ints {a b : Int} : CmpA (.int a) (.int b) := ⟨by simp [PySem.W.alike], by simp, by simp [PyData.depth]⟩
theorem cmp_prs {p q : Pr} : CmpA (eP2 eI eI p) (eP2 eI eI q) := ⟨by simp [PySem.W.alike, PySem.W.alikeAll], by simp, by simp [PyData.depth, PyData.depthAll]⟩
/-- .. by this law's own sorting -/
theorem setP_pairs {ps : List Pr} : (W.setP ps = ps) ↔ ps.Pairwise fun a b => ltPr a b = true := ⟨fun h => by rw [← h]; exact setP_lt ps, fun h => (setP_uniq h fun _ => Iff.rfl).symm⟩
theorem flat_prs (ps : List Pr) : Flat (.list (ps.map (eP2 eI eI))) := by
  have := flatK (ek_L (ek_P2 ek_int ek_int)) (dk_L (dk_P2 dk_int dk_int)) (by decide) ps
  exact this
theorem eqv_prs (ps qs : List Pr) : PyData.eqv (.list (ps.map (eP2 eI eI))) (.list (qs.map (eP2 eI eI))) = decide (ps = qs) := (ek_L (ek_P2 ek_int ek_int)).eq ps qs
theorem flat_strZ (z : Str) : Flat (.str z) := ⟨by simp [PyData.plain], by simp [PyData.depth]⟩
theorem eqv_str (y z : Str) : PyData.eqv (.str y) (.str z) = decide (y = z) := by
  simp only [PyData.eqv]
  by_cases h : y = z <;> simp [h]

/-! ### bent data: a dict somewhere or a list somewhere, not both -/
theorem cut_mid {α : Type} {xs : List α} {k l : Nat} (hk : k ≤ xs.length) (hl : l ≤ xs.length) : W.cut xs (some (k : Int)) (some (l : Int)) = (xs.drop k).take (l - k) := by
  unfold W.cut
  rw [HT.sIx_nat, HT.sIx_nat, Nat.min_eq_left hk, Nat.min_eq_left hl]
def Bd (m k n : Nat) (r : PyData) : Prop := Ni m true false k n r ∨ Ni m false true k n r
section
variable {m k n : Nat} {dk lk : Bool} {xs : List PyData} {r : PyData}
theorem Bd.shw (h : Bd m k n r) (hm : m ≤ 1000 := by omega) (hk : k ≤ 60 := by omega) (hn : n ≤ 100000 := by omega) : Shw r := h.elim (fun h => h.shw rfl) fun h => h.shw rfl
theorem Bd.of (h : Ni m false false k n r) : Bd m k n r := .inl (h.mono (fun _ => rfl) (fun z => by cases z) (Nat.le_refl _) (Nat.le_refl _) (Nat.le_refl _))
theorem Bd.mono {m' k' n' : Nat} (h : Bd m k n r) (hm : m ≤ m' := by omega) (hk : k ≤ k' := by omega) (hn : n ≤ n' := by omega) : Bd m' k' n' r := h.imp (fun h => h.mono (fun _ => rfl) (fun z => z) hm hk hn) fun h => h.mono (fun z => z) (fun _ => rfl) hm hk hn
theorem Ni.up {m' k' n' : Nat} (h : Ni m dk lk k n r) (hm : m ≤ m' := by omega) (hk : k ≤ k' := by omega) (hn : n ≤ n' := by omega) : Ni m' dk lk k' n' r := h.mono (fun z => z) (fun z => z) hm hk hn
theorem NiAll.up {m' k' n' : Nat} (h : NiAll m dk lk k n xs) (hm : m ≤ m' := by omega) (hk : k ≤ k' := by omega) (hn : n ≤ n' := by omega) : NiAll m' dk lk k' n' xs := h.mono (fun z => z) (fun z => z) hm hk hn
theorem bt_drop (h : NiAll m dk lk k n xs) (a : Nat) : NiAll m dk lk k n (xs.take a ++ xs.drop (a + 1)) := h.sub (by
  have e : (xs.take a ++ xs.drop (a + 1)).Sublist (xs.take a ++ xs.drop a) := List.Sublist.append (List.Sublist.refl _) (List.drop_sublist_drop_left xs (Nat.le_succ a))
  rwa [List.take_append_drop] at e)
theorem bt_take (h : NiAll m dk lk k n xs) (a : Nat) : NiAll m dk lk k n (xs.take a) := h.sub (List.take_sublist _ _)
theorem bt_from (h : NiAll m dk lk k n xs) (a : Nat) : NiAll m dk lk k n (xs.drop a) := h.sub (List.drop_sublist _ _)
theorem bt_dup (h : NiAll m dk lk k n xs) (a : Nat) : NiAll m dk lk k (n + n + n) (xs.take a ++ (xs.drop a).take 1 ++ xs.drop a) := ((bt_take h a).append ((bt_from h a).sub (List.take_sublist _ _))).append (bt_from h a)
theorem bt_put {n' : Nat} (h : NiAll m dk lk k n xs) (hr : Ni m dk lk k n' r) (a : Nat) : NiAll m dk lk k (n + (n' + 1)) (xs.take a ++ [r] ++ xs.drop (a + 1)) := by
  have p : (xs.take a ++ [r] ++ xs.drop (a + 1)).Perm ((xs.take a ++ xs.drop (a + 1)) ++ [r]) := by
    rw [List.append_assoc, List.append_assoc]
    exact List.Perm.append_left _ List.perm_append_comm
  exact NiAll.perm ((bt_drop h a).append (NiAll.one hr)) p
theorem bd_put {n' : Nat} (h : NiAll m false false k n xs) (hl : xs.length < m) (hr : Bd m k n' r) {a : Nat} (ha : a < xs.length) : Bd m (k + 1) (n + (n' + 1)) (.tuple (xs.take a ++ [r] ++ xs.drop (a + 1))) := by
  have e : (xs.take a ++ [r] ++ xs.drop (a + 1)).length < m := by simp; omega
  rcases hr with hr | hr
  · exact .inl ((bt_put (h.mono (fun _ => rfl) (fun z => z) (Nat.le_refl _) (Nat.le_refl _) (Nat.le_refl _)) hr a).tup e)
  · exact .inr ((bt_put (h.mono (fun z => z) (fun _ => rfl) (Nat.le_refl _) (Nat.le_refl _) (Nat.le_refl _)) hr a).tup e)
theorem bd_lst (h : NiAll m false false k n xs) (hl : xs.length < m) : Bd m (k + 1) n (.list xs) := .inr ((h.mono (fun z => z) (fun _ => rfl) (Nat.le_refl _) (Nat.le_refl _) (Nat.le_refl _)).lst hl)
end
/-- the text of a small int -/
theorem str_small {i : Int} (h1 : -1000000 < i) (h2 : i < 1000000) : i.natAbs.log2 < 1920 ∧ (decide ((PySem.Str.ofString (toString i)).cps.size ≤ 100) && (PySem.Str.ofString (toString i)).cps.toList.all (fun c => decide (c < 16 ^ 8))) = true := by
  have s := sm_int (i := i) h1 h2
  have sh := s.sh
  have lv := s.lv
  simp only [PyData.showable, decide_eq_true_eq] at sh
  simp only [PyData.leavesShort, decide_eq_true_eq, PyData.shown] at lv
  refine ⟨sh, ?_⟩
  rw [Bool.and_eq_true, decide_eq_true_eq]
  have e : (PySem.Str.ofString (toString i)).cps.size ≤ 13 := of_decide_eq_true lv
  refine ⟨by omega, ?_⟩
  rw [PySem.Str.ofString_eq_toList]
  simp only [List.all_map]
  refine List.all_eq_true.mpr fun c _ => ?_
  have : c.toNat < 16 ^ 8 := by
    have := c.toNat_val
    have h := c.val.toNat_lt
    show c.val.toNat < _
    omega
  exact decide_eq_true this

theorem nc_int {m : Nat} {dk lk : Bool} {i : Int} : Nc m dk lk (.int i) = true ↔ -(1000 * (m : Int)) < i ∧ i < 1000 * (m : Int) := by simp only [Nc, Bool.and_eq_true, decide_eq_true_eq]

mutual
/-- no bool in it -/
def NoB : PyData → Bool
  | .bool _ => false
  | .list xs => NoBs xs
  | .tuple xs => NoBs xs
  | _ => true
def NoBs : List PyData → Bool
  | [] => true
  | x :: xs => NoB x && NoBs xs
end
theorem noB_all : ∀ {xs : List PyData}, NoBs xs = true ↔ ∀ x ∈ xs, NoB x = true
  | [] => by simp [NoBs]
  | x :: xs => by simp only [NoBs, Bool.and_eq_true, List.mem_cons, forall_eq_or_imp, noB_all]

theorem allP_lens : ∀ k : Fin 11, (allP (k.val : Int)).length = k.val * (k.val - 1) / 2 := by decide +kernel
theorem Pairs.lens {n : Int} {ps : List Pr} (h : Pairs n ps) (h0 : 0 ≤ n) (hn : n ≤ 10) : ps.length ≤ n.toNat * (n.toNat - 1) / 2 := by
  rw [← pairs_filter h]
  have := allP_lens ⟨n.toNat, by omega⟩
  simp only at this
  rw [show ((n.toNat : Nat) : Int) = n by omega] at this
  rw [← this]
  exact List.length_filter_le _ _
theorem Pairs.len45 {n : Int} {ps : List Pr} (h : Pairs n ps) (h0 : 0 ≤ n) (hn : n ≤ 10) : ps.length ≤ 45 := by
  refine Nat.le_trans (h.lens h0 hn) ?_
  have a : n.toNat * (n.toNat - 1) ≤ 10 * 9 := Nat.mul_le_mul (by omega) (by omega)
  omega
theorem Pairs.len28 {n : Int} {ps : List Pr} (h : Pairs n ps) (h0 : 0 ≤ n) (hn : n ≤ 8) : ps.length ≤ 28 := by
  refine Nat.le_trans (h.lens h0 (by omega)) ?_
  have a : n.toNat * (n.toNat - 1) ≤ 8 * 7 := Nat.mul_le_mul (by omega) (by omega)
  omega
theorem Pairs.len15 {n : Int} {ps : List Pr} (h : Pairs n ps) (h0 : 0 ≤ n) (hn : n ≤ 6) : ps.length ≤ 15 := by
  refine Nat.le_trans (h.lens h0 (by omega)) ?_
  have a : n.toNat * (n.toNat - 1) ≤ 6 * 5 := Nat.mul_le_mul (by omega) (by omega)
  omega

/-! the monad's laws, not by computing (for the kernel's sake) -/
theorem pbN {α β : Type} {a : α} {k : α → W β} : W.bind (W.pure a) k = k a := W.ext' fun P => Iff.rfl
theorem baN {α β γ : Type} {m : W α} {k : α → W β} {l : β → W γ} : W.bind (W.bind m k) l = W.bind m fun a => W.bind (k a) l := W.ext' fun P => Iff.rfl
end HM
end
section
/-! W, plain 9: how many pieces; bridges, forests, rings; a search for pieces -/
namespace HM
open PySem PySem.Spec PyProof.Rows L2 RZ
/-- how many pieces -/
def ncp (n : Int) (ps : List Pr) : Nat := (W.setL (labels n ps)).length
theorem pcs_ncp {n : Int} {ps : List Pr} : (pcs n (labels n ps)).length = ncp n ps := by unfold pcs ncp; rw [List.length_map]
section
variable {n : Int} {ps qs : List Pr} {p : Pr}
theorem lab_congr (hn : 0 ≤ n) (h : ∀ q ∈ ps, PairOk n q) (e : ∀ q, q ∈ ps ↔ q ∈ qs) : labels n ps = labels n qs := by
  have h2 : ∀ q ∈ qs, PairOk n q := fun q hq => h q ((e q).mpr hq)
  have l := labels_ok h2
  refine lab_uniq hn (labels_ok h) ⟨⟨l.len, fun i h0 h1 => (l.cn i h0 h1).mono fun q hq => (e q).mpr hq, l.lo, l.le⟩, fun q hq => l.eq q ((e q).mp hq)⟩
theorem ncp_congr (hn : 0 ≤ n) (h : ∀ q ∈ ps, PairOk n q) (e : ∀ q, q ∈ ps ↔ q ∈ qs) : ncp n ps = ncp n qs := by unfold ncp; rw [lab_congr hn h e]
theorem conn_lab (h : ∀ q ∈ ps, PairOk n q) {a b : Int} (a0 : 0 ≤ a) (a1 : a < n) (b0 : 0 ≤ b) (b1 : b < n) : Conn ps a b ↔ at0 (labels n ps) a = at0 (labels n ps) b := by
  have l := labels_ok h
  refine ⟨fun c => l.conn c, fun e => ?_⟩
  have c1 := l.cn a a0 a1
  have c2 := l.cn b b0 b1
  rw [e] at c1
  exact c1.trans c2.symm
/-- a set of labels, each once -/
theorem setL_perm {h ls : List Int} (nd : ls.Nodup) (m : ∀ x, x ∈ ls ↔ x ∈ h) : (W.setL h).length = ls.length :=
  ((List.perm_ext_iff_of_nodup (List.Pairwise.imp (S := fun a b => a ≠ b) (fun {a b} r e => by omega) (setL_lt h)) nd).mpr fun x => by rw [mem_setL, m]).length_eq
theorem setL_nodup (h : List Int) : (W.setL h).Nodup := List.Pairwise.imp (S := fun a b => a ≠ b) (fun {a b} r e => by omega) (setL_lt h)
theorem labels_snoc : labels n (ps ++ [p]) = joinL (labels n ps) p := by unfold labels; rw [List.foldl_append]; rfl
/-- a pair more: one piece less, if its persons did not hang together -/
theorem ncp_join (h : ∀ q ∈ ps, PairOk n q) (hp : PairOk n p) : ncp n (ps ++ [p]) + (if at0 (labels n ps) p.1 = at0 (labels n ps) p.2 then 0 else 1) = ncp n ps := by
  have l := labels_ok h
  obtain ⟨p0, p1, p2⟩ := hp
  have hlen : ((labels n ps).length : Int) = n := by rw [l.len]; omega
  have mem : ∀ i, 0 ≤ i → i < n → at0 (labels n ps) i ∈ labels n ps := fun i h0 h1 => (mem_labels l.len).mpr ⟨i, h0, h1, rfl⟩
  have m1 := mem p.1 p0 (by omega)
  have m2 := mem p.2 (by omega) p2
  unfold ncp
  rw [labels_snoc]
  generalize labels n ps = hs at *
  by_cases e : at0 hs p.1 = at0 hs p.2
  · rw [if_pos e]
    have : joinL hs p = hs := by
      unfold joinL
      rw [e]
      have : ∀ x ∈ hs, (if x = max (at0 hs p.2) (at0 hs p.2) then min (at0 hs p.2) (at0 hs p.2) else x) = id x := fun x _ => by
        rw [Int.max_self, Int.min_self]
        split
        · rename_i z; exact z.symm
        · rfl
      rw [List.map_congr_left this, List.map_id]
    rw [this]
    omega
  · rw [if_neg e]
    let u := max (at0 hs p.1) (at0 hs p.2)
    let v := min (at0 hs p.1) (at0 hs p.2)
    have uv : v ≠ u := by show min _ _ ≠ max _ _; omega
    have mu : u ∈ hs := by
      show max _ _ ∈ hs
      by_cases z : at0 hs p.1 ≤ at0 hs p.2
      · rw [Int.max_eq_right z]; exact m2
      · rw [Int.max_eq_left (by omega)]; exact m1
    have mv : v ∈ hs := by
      show min _ _ ∈ hs
      by_cases z : at0 hs p.1 ≤ at0 hs p.2
      · rw [Int.min_eq_left z]; exact m1
      · rw [Int.min_eq_right (by omega)]; exact m2
    have a : (W.setL (joinL hs p)).length = ((W.setL hs).erase u).length := setL_perm ((setL_nodup hs).erase u) fun x => by
      rw [(setL_nodup hs).mem_erase_iff, mem_setL]
      constructor
      · rintro ⟨x1, x2⟩
        exact List.mem_map.mpr ⟨x, x2, if_neg x1⟩
      · intro hx
        obtain ⟨y, hy, rfl⟩ := List.mem_map.mp hx
        by_cases z : y = u
        · rw [if_pos z]; exact ⟨uv, mv⟩
        · rw [if_neg z]; exact ⟨z, hy⟩
    have b := List.length_erase_of_mem (show u ∈ W.setL hs from (mem_setL u hs).mpr mu)
    have c : 0 < (W.setL hs).length := List.length_pos_of_mem ((mem_setL u hs).mpr mu)
    omega
theorem ncp_nil (hn : 0 ≤ n) : ncp n [] = n.toNat := by
  unfold ncp
  have : (W.rangeI 0 n).length = n.toNat := by rw [W.rangeI_length]; omega
  rw [← this]
  exact setL_perm (List.Pairwise.imp (S := fun a b => a ≠ b) (fun {a b} r e => by omega) W.rangeI_lt) fun x => Iff.rfl
/-- at least so many -/
theorem ncp_ge (hn : 0 ≤ n) : ∀ {ps : List Pr}, (∀ q ∈ ps, PairOk n q) → n.toNat ≤ ncp n ps + ps.length := fun {ps} => by
  have key : ∀ (qs rs : List Pr), (∀ q ∈ rs ++ qs, PairOk n q) → ncp n rs ≤ ncp n (rs ++ qs) + qs.length := fun qs => by
    induction qs with
    | nil => intro rs _; simp
    | cons q qs ih =>
      intro rs h
      have a := ncp_join (n := n) (ps := rs) (p := q) (fun r hr => h r (List.mem_append_left _ hr)) (h q (List.mem_append_right _ List.mem_cons_self))
      have b := ih (rs ++ [q]) (by rw [List.append_assoc]; exact h)
      rw [List.append_assoc] at b
      rw [List.length_cons]
      have c : (rs ++ ([q] ++ qs)) = rs ++ q :: qs := by simp
      rw [c] at b
      split at a <;> omega
  intro h
  have := key ps [] (by simpa using h)
  rw [ncp_nil hn, List.nil_append] at this
  exact this
/-- all hang together -/
theorem ncp_one (hn : 1 ≤ n) (h : ∀ q ∈ ps, PairOk n q) (c : ∀ a, 0 ≤ a → a < n → Conn ps 0 a) : ncp n ps = 1 := by
  unfold ncp
  have l := labels_ok h
  have : (W.setL (labels n ps)).length = [at0 (labels n ps) 0].length := setL_perm (by simp) fun x => by
    rw [List.mem_singleton, mem_labels l.len]
    constructor
    · rintro rfl; exact ⟨0, by omega, by omega, rfl⟩
    · rintro ⟨i, h0, h1, rfl⟩
      exact (l.conn (c i h0 h1)).symm
  exact this
theorem ncp_pos (hn : 1 ≤ n) (h : ∀ q ∈ ps, PairOk n q) : 1 ≤ ncp n ps := by
  unfold ncp
  have l := labels_ok h
  exact List.length_pos_of_mem ((mem_setL _ _).mpr ((mem_labels l.len).mpr ⟨0, by omega, by omega, rfl⟩))
/-- of one piece: all hang together -/
theorem conn_of_one (hn : 1 ≤ n) (h : ∀ q ∈ ps, PairOk n q) (e : ncp n ps = 1) {a b : Int} (a0 : 0 ≤ a) (a1 : a < n) (b0 : 0 ≤ b) (b1 : b < n) : Conn ps a b := by
  rw [conn_lab h a0 a1 b0 b1]
  have l := labels_ok h
  unfold ncp at e
  obtain ⟨x, hx⟩ := List.length_eq_one_iff.mp e
  have m : ∀ i, 0 ≤ i → i < n → at0 (labels n ps) i = x := fun i h0 h1 => by
    have := (mem_setL (at0 (labels n ps) i) _).mpr ((mem_labels l.len).mpr ⟨i, h0, h1, rfl⟩)
    rw [hx] at this
    exact List.mem_singleton.mp this
  rw [m a a0 a1, m b b0 b1]
/-- without the pair p -/
def wout (ps : List Pr) (p : Pr) : List Pr := ps.filter fun q => !decide (q = p)
theorem mem_wout {q : Pr} : q ∈ wout ps p ↔ q ∈ ps ∧ q ≠ p := by unfold wout; rw [List.mem_filter]; simp
def brs (n : Int) (ps : List Pr) : List Pr := ps.filter fun p => decide (ncp n ps < ncp n (wout ps p))

theorem wout_len (nd : ps.Nodup) (hp : p ∈ ps) : (wout ps p).length + 1 = ps.length := by
  have e : wout ps p = ps.erase p := by
    rw [nd.erase_eq_filter]
    unfold wout
    congr 1
    funext q
    by_cases h : q = p <;> simp [h]
  rw [e, List.length_erase_of_mem hp]
  have := List.length_pos_of_mem hp
  omega
/-- a forest: each pair is a bridge -/
theorem forest_brs (hn : 0 ≤ n) (nd : ps.Nodup) (h : ∀ q ∈ ps, PairOk n q) (e : ncp n ps + ps.length = n.toNat) : brs n ps = ps := by
  unfold brs
  rw [List.filter_eq_self]
  intro p hp
  have a := ncp_ge hn (ps := wout ps p) fun q hq => h q (mem_wout.mp hq).1
  have b := wout_len nd hp
  exact decide_eq_true (by omega)
theorem conn_alone {a b : Int} (h : ∀ q ∈ ps, q.1 ≠ a ∧ q.2 ≠ a) (c : Conn ps a b) : b = a := by
  induction c with
  | refl => rfl
  | step _ e ih =>
    subst ih
    rcases e with e | e
    · exact absurd rfl (h _ e).1
    · exact absurd rfl (h _ e).2
/-- one more person, met by one -/
theorem forest_step {a b : Int} (h : ∀ q ∈ ps, PairOk n q) (a0 : 0 ≤ a) (a1 : a < n) (b0 : 0 ≤ b) (b1 : b < n) (ne : a ≠ b) (al : ∀ q ∈ ps, q.1 ≠ a ∧ q.2 ≠ a) (hp : PairOk n (prOf a b)) : ncp n (ps ++ [prOf a b]) + 1 = ncp n ps := by
  have j := ncp_join h hp
  have d : ¬ at0 (labels n ps) a = at0 (labels n ps) b := fun e => ne (conn_alone al ((conn_lab h a0 a1 b0 b1).mpr e)).symm
  have d2 : ¬ at0 (labels n ps) (prOf a b).1 = at0 (labels n ps) (prOf a b).2 := by
    unfold prOf
    by_cases z : a ≤ b
    · rw [Int.min_eq_left z, Int.max_eq_right z]; exact d
    · rw [Int.min_eq_right (by omega), Int.max_eq_left (by omega)]; exact fun e => d e.symm
  rw [if_neg d2] at j
  exact j
/-! rings -/
theorem at0_inj {xs : List Int} (nd : xs.Nodup) {i j : Int} (i0 : 0 ≤ i) (i1 : i < xs.length) (j0 : 0 ≤ j) (j1 : j < xs.length) (e : at0 xs i = at0 xs j) : i = j := by
  have hi : i.toNat < xs.length := by omega
  have hj : j.toNat < xs.length := by omega
  simp only [at0, List.getD_eq_getElem?_getD, List.getElem?_eq_getElem hi, List.getElem?_eq_getElem hj, Option.getD_some] at e
  have := (List.getElem_inj nd).mp e
  omega
theorem conn_pr {a b : Int} (h : prOf a b ∈ ps) : Conn ps a b := by
  unfold prOf at h
  by_cases z : a ≤ b
  · rw [Int.min_eq_left z, Int.max_eq_right z] at h; exact .step (.refl _) (.inl h)
  · rw [Int.min_eq_right (by omega), Int.max_eq_left (by omega)] at h; exact .step (.refl _) (.inr h)
/-- the ring's pair from the place i on -/
def rpr (xs : List Int) (n : Int) (i : Int) : Pr := prOf (at0 xs i) (at0 xs ((i + 1) % n))
theorem next_mod {i n : Int} (h0 : 0 ≤ i) (h1 : i < n) : (i + 1) % n = if i + 1 = n then 0 else i + 1 := by
  by_cases h : i + 1 = n
  · rw [if_pos h, h, Int.emod_self]
  · rw [if_neg h, Int.emod_eq_of_lt (by omega) (by omega)]
theorem rpr_inj {xs : List Int} (hl : (xs.length : Int) = n) (nd : xs.Nodup) (h3 : 3 ≤ n) {i j : Int} (i0 : 0 ≤ i) (i1 : i < n) (j0 : 0 ≤ j) (j1 : j < n) (e : rpr xs n i = rpr xs n j) : i = j := by
  have a : 0 ≤ (i + 1) % n ∧ (i + 1) % n < n := ⟨Int.emod_nonneg _ (by omega), Int.emod_lt_of_pos _ (by omega)⟩
  have b : 0 ≤ (j + 1) % n ∧ (j + 1) % n < n := ⟨Int.emod_nonneg _ (by omega), Int.emod_lt_of_pos _ (by omega)⟩
  rcases prOf_eq.mp e with z | z
  · exact at0_inj nd i0 (by omega) j0 (by omega) z.1
  · have z1 := at0_inj nd i0 (by omega) b.1 (by omega) z.1
    have z2 := at0_inj nd a.1 (by omega) j0 (by omega) z.2
    rw [next_mod i0 i1] at z2
    rw [next_mod j0 j1] at z1
    split at z1 <;> split at z2 <;> omega
theorem ring_conn {xs : List Int} {Q : List Pr} (hl : (xs.length : Int) = n) (h3 : 3 ≤ n) (j : Int) (j0 : 0 ≤ j) (j1 : j < n) (hQ : ∀ i, 0 ≤ i → i < n → i ≠ j → rpr xs n i ∈ Q) : ∀ i, 0 ≤ i → i < n → Conn Q (at0 xs 0) (at0 xs i) := by
  have st : ∀ i, 0 ≤ i → i + 1 < n → i ≠ j → Conn Q (at0 xs i) (at0 xs (i + 1)) := fun i h0 h1 h2 => by
    have := hQ i h0 (by omega) h2
    unfold rpr at this
    rw [next_mod h0 (by omega), if_neg (by omega)] at this
    exact conn_pr this
  have up : ∀ k : Nat, (k : Int) ≤ j → Conn Q (at0 xs 0) (at0 xs k) := fun k => by
    induction k with
    | zero => intro _; exact .refl _
    | succ k ih =>
      intro h
      have := st k (by omega) (by omega) (by omega)
      have e : ((k + 1 : Nat) : Int) = (k : Int) + 1 := by omega
      rw [e]
      exact (ih (by omega)).trans this
  have down : j ≠ n - 1 → ∀ k : Nat, j < n - 1 - k → Conn Q (at0 xs 0) (at0 xs (n - 1 - k)) := fun hj k => by
    induction k with
    | zero =>
      intro _
      have := hQ (n - 1) (by omega) (by omega) (by omega)
      unfold rpr at this
      rw [next_mod (by omega) (by omega), if_pos (by omega)] at this
      have c := (conn_pr this).symm
      have e : n - 1 - ((0 : Nat) : Int) = n - 1 := by omega
      rw [e]
      exact c
    | succ k ih =>
      intro h
      have c := ih (by omega)
      have := st (n - 1 - (k + 1 : Nat)) (by omega) (by omega) (by omega)
      have e : n - 1 - ((k + 1 : Nat) : Int) + 1 = n - 1 - (k : Int) := by omega
      rw [e] at this
      exact c.trans this.symm
  intro i i0 i1
  by_cases h : i ≤ j
  · have := up i.toNat (by omega)
    rwa [show ((i.toNat : Nat) : Int) = i by omega] at this
  · have := down (by omega) (n - 1 - i).toNat (by omega)
    rwa [show n - 1 - (((n - 1 - i).toNat : Nat) : Int) = i by omega] at this
/-- a web that holds a ring of all its persons has one piece, without any one pair, too -/
theorem ring_one {xs : List Int} (hn : 3 ≤ n) (hl : (xs.length : Int) = n) (pm : xs.Perm (W.rangeI 0 n)) (h : ∀ q ∈ ps, PairOk n q) (hr : ∀ i, 0 ≤ i → i < n → rpr xs n i ∈ ps) (p : Pr) : ncp n (wout ps p) = 1 := by
  have nd : xs.Nodup := pm.nodup_iff.mpr (List.Pairwise.imp (S := fun a b => a ≠ b) (fun {a b} r e => by omega) W.rangeI_lt)
  obtain ⟨j, j0, j1, hj⟩ : ∃ j, 0 ≤ j ∧ j < n ∧ ∀ i, 0 ≤ i → i < n → i ≠ j → rpr xs n i ≠ p := by
    by_cases z : ∃ j, 0 ≤ j ∧ j < n ∧ rpr xs n j = p
    · obtain ⟨j, a, b, c⟩ := z
      exact ⟨j, a, b, fun i i0 i1 ne e => ne (rpr_inj hl nd hn i0 i1 a b (e.trans c.symm))⟩
    · exact ⟨0, by omega, by omega, fun i i0 i1 _ e => z ⟨i, i0, i1, e⟩⟩
  have c := ring_conn (Q := wout ps p) hl hn j j0 j1 fun i i0 i1 ne => mem_wout.mpr ⟨hr i i0 i1, hj i i0 i1 ne⟩
  have all : ∀ a, 0 ≤ a → a < n → Conn (wout ps p) (at0 xs 0) a := fun a a0 a1 => by
    have : a ∈ xs := pm.mem_iff.mpr (W.mem_rangeI.mpr ⟨a0, a1⟩)
    obtain ⟨k, hk, rfl⟩ := List.mem_iff_getElem.mp this
    have := c (k : Int) (by omega) (by omega)
    simpa [at0, List.getD_eq_getElem?_getD, hk] using this
  exact ncp_one (by omega) (fun q hq => h q (mem_wout.mp hq).1) fun a a0 a1 => (all 0 (by omega) (by omega)).symm.trans (all a a0 a1)
theorem ring_one' {xs : List Int} (hn : 3 ≤ n) (hl : (xs.length : Int) = n) (pm : xs.Perm (W.rangeI 0 n)) (h : ∀ q ∈ ps, PairOk n q) (hr : ∀ i, 0 ≤ i → i < n → rpr xs n i ∈ ps) : ncp n ps = 1 := by
  have e := ring_one hn hl pm h hr (0, 0)
  rw [ncp_congr (qs := wout ps (0, 0)) (by omega) h fun q => ⟨fun hq => mem_wout.mpr ⟨hq, fun z => by subst z; have := h _ hq; unfold PairOk at this; simp at this⟩, fun hq => (mem_wout.mp hq).1⟩]
  exact e
theorem ring_brs {xs : List Int} (hn : 3 ≤ n) (hl : (xs.length : Int) = n) (pm : xs.Perm (W.rangeI 0 n)) (h : ∀ q ∈ ps, PairOk n q) (hr : ∀ i, 0 ≤ i → i < n → rpr xs n i ∈ ps) : brs n ps = [] := by
  unfold brs
  rw [List.filter_eq_nil_iff]
  intro p _
  rw [ring_one hn hl pm h hr p, ring_one' hn hl pm h hr]
  simp
end

/-! ### programs that give just one value -/
theorem is_bind {α β : Type} {m : W α} {v : α} {k : α → W β} {P : β → Prop} (h : m.wp (· = v)) (hk : (k v).wp P) : (W.bind m k).wp P := m.mono _ _ (fun a e => by subst e; exact hk) h
theorem comp_is {α β : Type} {c : α → W Bool} {f : α → W β} (b : α → Bool) (v : α → β) : ∀ {xs : List α}, (∀ x ∈ xs, (c x).wp (· = b x)) → (∀ x ∈ xs, b x = true → (f x).wp (· = v x)) → (W.comp xs c f).wp (· = (xs.filter b).map v)
  | [], _, _ => rfl
  | x :: xs, h1, h2 => by
    have ih := comp_is b v (xs := xs) (fun y hy => h1 y (List.mem_cons_of_mem _ hy)) fun y hy => h2 y (List.mem_cons_of_mem _ hy)
    unfold W.comp
    refine is_bind (h1 x List.mem_cons_self) ?_
    cases q : b x with
    | true =>
      rw [W.ite_t, List.filter_cons, if_pos q]
      refine is_bind (h2 x List.mem_cons_self q) (is_bind ih ?_)
      exact rfl
    | false =>
      rw [W.ite_f, List.filter_cons, if_neg (by rw [q]; exact Bool.false_ne_true)]
      exact ih
theorem compC_is {α β : Type} {c : α → W Bool} {f : α → W β} (b : α → Bool) (v : α → β) {xs : List α} (hl : xs.length ≤ 8000000) (h1 : ∀ x ∈ xs, (c x).wp (· = b x)) (h2 : ∀ x ∈ xs, b x = true → (f x).wp (· = v x)) : (W.compC xs c f).wp (· = (xs.filter b).map v) := by
  unfold W.compC
  rw [W.chk_of hl, W.pure_bind]
  exact comp_is b v h1 h2
theorem compC_isF {α : Type} {c : α → W Bool} (b : α → Bool) {xs : List α} (hl : xs.length ≤ 8000000) (h1 : ∀ x ∈ xs, (c x).wp (· = b x)) : (W.compC xs c fun x => W.pure x).wp (· = xs.filter b) := by
  have := compC_is (f := fun x => W.pure x) b id hl h1 fun x _ _ => rfl
  rwa [List.map_id] at this
theorem compC_isM {α β : Type} {f : α → W β} (v : α → β) {xs : List α} (hl : xs.length ≤ 8000000) (h2 : ∀ x ∈ xs, (f x).wp (· = v x)) : (W.compC xs (fun _ => W.pure true) f).wp (· = xs.map v) := by
  have := compC_is (c := fun _ => W.pure true) (fun _ => true) v hl (fun x _ => rfl) fun x hx _ => h2 x hx
  rwa [List.filter_eq_self.mpr fun _ _ => rfl] at this
theorem len_range {n : Int} {xs : List Int} (nd : xs.Nodup) (h : ∀ x ∈ xs, 0 ≤ x ∧ x < n) : xs.length ≤ n.toNat := by
  have p : ((W.rangeI 0 n).filter fun i => W.mem i xs).Perm xs := (List.perm_ext_iff_of_nodup ((List.Pairwise.imp (S := fun a b => a ≠ b) (fun {a b} r e => by omega) W.rangeI_lt).filter _) nd).mpr fun x => by
    rw [List.mem_filter, W.mem_eq, W.mem_rangeI]
    exact ⟨fun z => z.2, fun z => ⟨h x z, z⟩⟩
  rw [← p.length_eq]
  refine Nat.le_trans (List.length_filter_le _ _) ?_
  rw [W.rangeI_length]
  omega
/-! ### pieces by a search -/
/-- what a search from a knows -/
structure Srch (n : Int) (ps : List Pr) (a : Int) (lot last : List Int) : Prop where
  nd : lot.Nodup
  rng : ∀ x ∈ lot, 0 ≤ x ∧ x < n
  cn : ∀ x ∈ lot, Conn ps a x
  st : a ∈ lot
  sub : ∀ x ∈ last, x ∈ lot
abbrev Nbr (ps : List Pr) (x y : Int) : Prop := (x, y) ∈ ps ∨ (y, x) ∈ ps
theorem Srch.len {n a : Int} {ps : List Pr} {lot last : List Int} (s : Srch n ps a lot last) : lot.length ≤ n.toNat := len_range s.nd s.rng
theorem srch_all {n a : Int} {ps : List Pr} {lot : List Int} (s : Srch n ps a lot []) (cl : ∀ x ∈ lot, ∀ y, Nbr ps x y → y ∈ lot) (x : Int) : x ∈ lot ↔ Conn ps a x := by
  refine ⟨s.cn x, fun c => ?_⟩
  induction c with
  | refl => exact s.st
  | step _ e ih => exact cl _ ih _ e

/-! ### drawing: sorted pairs, rows without a place -/
theorem perm_erIdx {α : Type} : ∀ {xs : List α} {k : Nat} (h : k < xs.length), (xs[k] :: xs.eraseIdx k).Perm xs
  | x :: xs, 0, _ => List.Perm.refl _
  | x :: xs, k + 1, h => by
    have hk : k < xs.length := by simpa using h
    simp only [List.getElem_cons_succ, List.eraseIdx_cons_succ]
    exact (List.Perm.swap _ _ _).trans (List.Perm.cons x (perm_erIdx hk))
theorem sortL_two (a b : Int) : W.sortL [a, b] = [min a b, max a b] := by
  by_cases h : a ≤ b
  · rw [Int.min_eq_left h, Int.max_eq_right h]
    exact W.sortL_self (by simp [h])
  · rw [Int.min_eq_right (by omega), Int.max_eq_left (by omega)]
    exact W.sortL_of (by simp; omega) (List.Perm.swap _ _ _)
theorem get_two (a b : Int) : W.get (W.two (fun x : Int => some x) (fun x : Int => some x) (W.sortL [a, b])) = W.pure (prOf a b) := by rw [sortL_two]; exact W.get_of rfl
theorem sortBy_sorted' {α : Type} {lt : α → α → Bool} (h : Lin lt) (xs : List α) : (W.sortBy lt xs).Pairwise fun a b => (!lt b a) = true := List.pairwise_mergeSort (le := fun a b => !lt b a) (fun a b c h1 h2 => by
    simp only [Bool.not_eq_true'] at *
    rcases h.tot b a with z | z | z
    · rw [z] at h1; cases h1
    · rw [← z]; exact h2
    · cases q : lt c a with
      | false => rfl
      | true => have := h.tr _ _ _ q z; rw [this] at h2; cases h2) (fun a b => by
    cases q : lt b a with
    | false => simp
    | true =>
      cases r : lt a b with
      | false => simp
      | true => exact (h.anti q r).elim) xs
theorem sortBy_strict' {α : Type} {lt : α → α → Bool} (h : Lin lt) {xs : List α} (nd : xs.Nodup) : (W.sortBy lt xs).Pairwise fun a b => lt a b = true := by
  have nd2 : (W.sortBy lt xs).Nodup := (sortBy_perm xs).nodup_iff.mpr nd
  refine List.Pairwise.imp₂ (R := fun a b => (!lt b a) = true) (S := fun a b => a ≠ b) (fun a b r ne => ?_) (sortBy_sorted' h xs) nd2
  rcases h.tot a b with z | z | z
  · exact z
  · exact absurd z ne
  · rw [z] at r; cases r
theorem pairs_sorted {n : Int} {ps : List Pr} (h : ∀ p ∈ ps, PairOk n p) (nd : ps.Nodup) : Pairs n (W.sortBy (W.ltP W.ltI W.ltI) ps) := ⟨fun p hp => h p ((sortBy_perm ps).mem_iff.mp hp), sortBy_strict' lin_pr nd⟩
theorem pairs_setP {n : Int} {ps : List Pr} (h : ∀ p ∈ ps, PairOk n p) : Pairs n (W.setP ps) := ⟨fun p hp => h p ((setP_mem p ps).mp hp), setP_lt ps⟩
theorem perm_range {n : Int} {xs : List Int} (h0 : 0 ≤ n) (pm : xs.Perm (W.rangeI 0 n)) : (xs.length : Int) = n ∧ xs.Nodup ∧ ∀ i, 0 ≤ i → i < n → 0 ≤ at0 xs i ∧ at0 xs i < n ∧ W.at' xs i = W.pure (at0 xs i) := by
  have hl : (xs.length : Int) = n := by rw [pm.length_eq, W.rangeI_length]; omega
  refine ⟨hl, pm.nodup_iff.mpr (List.Pairwise.imp (S := fun a b => a ≠ b) (fun {a b} r e => by omega) W.rangeI_lt), fun i i0 i1 => ?_⟩
  have hi : i.toNat < xs.length := by omega
  have e : at0 xs i = xs[i.toNat] := by simp [at0, List.getD_eq_getElem?_getD, hi]
  have := W.mem_rangeI.mp (pm.mem_iff.mp (List.getElem_mem hi))
  rw [e]
  exact ⟨by omega, by omega, W.at_eq i0 (by omega)⟩
theorem ni_prs {ps : List Pr} {m k : Nat} (h : ∀ p ∈ ps, PairOk 10 p) (hm : 3 ≤ m) : NiAll m false false (k + 1) (3 * ps.length) (ps.map (eP2 eI eI)) := by
  induction ps with
  | nil => exact NiAll.nil
  | cons p ps ih =>
    have a := h p List.mem_cons_self
    unfold PairOk at a
    have r : NiAll m false false k (0 + 1 + (0 + 1 + 0)) [.int p.1, .int p.2] := NiAll.cons (ni_int (by omega) (by omega)) (NiAll.cons (ni_int (by omega) (by omega)) NiAll.nil)
    have := NiAll.cons (r.tup (by simp; omega)) (ih fun y hy => h y (List.mem_cons_of_mem _ hy))
    rw [List.length_cons, List.map_cons]
    exact this.up (Nat.le_refl _) (Nat.le_refl _) (by omega)
theorem ni_web {w : WebT} (h : IsWeb w) {m : Nat} (hl : w.2.2.length < m) (hm : 4 ≤ m) : NiAll m false false 2 (3 * w.2.2.length + 110) [eW "web" w.1, eI w.2.1, eT (eP2 eI eI) w.2.2] := by
  have lo := h.lo
  have hi := h.hi
  have a : Ni m false false 2 100 (eW "web" w.1) := ni_str (by decide +kernel) (Nat.le_refl _)
  have b : Ni m false false 2 0 (eI w.2.1) := ni_int (by omega) (by omega)
  have c : Ni m false false 2 (3 * w.2.2.length) (eT (eP2 eI eI) w.2.2) := (ni_prs (k := 0) (fun p hp => by have := h.ps.ok p hp; unfold PairOk at *; omega) (by omega)).tup (by rw [List.length_map]; exact hl)
  exact (NiAll.cons a (NiAll.cons b (NiAll.cons c (NiAll.nil (n := 0))))).up (n' := 3 * w.2.2.length + 110) (Nat.le_refl _) (Nat.le_refl _) (by omega)
theorem noB_web {w : WebT} : ∀ x ∈ [eW "web" w.1, eI w.2.1, eT (eP2 eI eI) w.2.2], NoB x = true := by
  intro x hx
  simp only [List.mem_cons, List.not_mem_nil, or_false] at hx
  rcases hx with rfl | rfl | rfl
  · rfl
  · rfl
  · simp only [NoB]
    rw [noB_all]
    intro y hy
    obtain ⟨p, _, rfl⟩ := List.mem_map.mp hy
    rfl
end HM
end
section
namespace K93
open PySem PySem.Spec PyProof.Rows L2 RZ HM
def _law_pot_w (y_script : (List Int)) (y_k : Int) : W (List Int) :=
  (W.bind (W.bind (W.bind (W.pure y_k) fun (y_a_47 : Int) => W.bind (W.bind (W.pure y_script) fun (y_a_46 : (List Int)) => W.pure (y_a_46.length : Int)) fun (y_b_48 : Int) => W.pure (decide (y_a_47 < y_b_48))) fun (y_b_56 : Bool) => W.ite y_b_56 (W.bind (W.bind (W.pure y_script) fun (y_a_49 : (List Int)) => W.bind (W.pure y_k) fun (y_b_50 : Int) => W.at' y_a_49 y_b_50) fun (y_a_51 : Int) => W.pure (y_a_51.natAbs : Int)) (W.bind (W.bind (W.pure (1907 : Int)) fun (y_a_52 : Int) => W.bind (W.pure y_k) fun (y_b_53 : Int) => W.chk (CMul y_a_52 y_b_53) (y_a_52 * y_b_53)) fun (y_a_54 : Int) => W.bind (W.pure (1607 : Int)) fun (y_b_55 : Int) => W.pure (y_a_54 + y_b_55))) fun (y_cell_57 : Int) => (W.bind (W.bind (W.bind (W.pure (0 : Int)) fun (y_a_62 : Int) => W.bind (W.bind (W.pure y_cell_57) fun (y_a_60 : Int) => W.bind (W.bind (W.pure (10 : Int)) fun (y_a_58 : Int) => W.bind (W.pure (18 : Int)) fun (y_b_59 : Int) => W.chk (CPow y_a_58 y_b_59) (y_a_58 ^ y_b_59.toNat)) fun (y_b_61 : Int) => W.pure (y_a_60 - y_b_61)) fun (y_b_63 : Int) => W.pure (max y_a_62 y_b_63)) fun (y_a_82 : Int) => W.bind (W.bind (W.bind (W.bind (W.bind (W.bind (W.bind (W.bind (W.bind (W.bind (W.pure y_cell_57) fun (y_a_64 : Int) => W.pure y_a_64) fun (y_a_65 : Int) => W.bind (W.pure (2147483549 : Int)) fun (y_b_66 : Int) => W.chk (0 < y_b_66) (y_a_65 % y_b_66)) fun (y_a_67 : Int) => W.bind (W.pure (40692 : Int)) fun (y_b_68 : Int) => W.chk (CMul y_a_67 y_b_68) (y_a_67 * y_b_68)) fun (y_a_71 : Int) => W.bind (W.bind (W.pure (1907 : Int)) fun (y_a_69 : Int) => W.bind (W.pure y_k) fun (y_b_70 : Int) => W.chk (CMul y_a_69 y_b_70) (y_a_69 * y_b_70)) fun (y_b_72 : Int) => W.pure (y_a_71 + y_b_72)) fun (y_a_73 : Int) => W.bind (W.pure (977 : Int)) fun (y_b_74 : Int) => W.pure (y_a_73 + y_b_74)) fun (y_a_75 : Int) => W.pure y_a_75) fun (y_a_76 : Int) => W.bind (W.pure (2147483563 : Int)) fun (y_b_77 : Int) => W.chk (0 < y_b_77) (y_a_76 % y_b_77)) fun (y_a_78 : Int) => W.bind (W.pure (1 : Int)) fun (y_b_79 : Int) => W.pure (y_a_78 + y_b_79)) fun (y_a_80 : Int) => W.bind (W.pure []) fun (y_as_81 : List Int) => W.pure (y_a_80 :: y_as_81)) fun (y_as_83 : List Int) => W.pure (y_a_82 :: y_as_83)) fun (y_r_84 : (List Int)) => (W.pure y_r_84)))
def _law_pot_p (s : List Int) (k : Int) : W Unit := W.bind (_law_pot_w s k) W.pot
def _law_draw_w (_ : Unit) (n : Int) : W Int := W.draw n
def _law_pick_w (y_pot : Unit) (y_some : (List Int)) : W Int :=
  (W.bind (W.bind (W.pure y_some) fun (y_a_107 : (List Int)) => W.bind (W.bind (W.pure ()) fun (y_a_105 : Unit) => W.bind (W.bind (W.pure y_some) fun (y_a_104 : (List Int)) => W.pure (y_a_104.length : Int)) fun (y_a_106 : Int) => _law_draw_w y_a_105 y_a_106) fun (y_b_108 : Int) => W.at' y_a_107 y_b_108) fun (y_r_109 : Int) => (W.pure y_r_109))
def _law_all_pairs_w (y_persons : Int) : W (List (Int × Int)) :=
  (W.bind (W.pure []) fun (y_found_140 : (List (Int × Int))) => (W.bind (W.bind (W.pure y_persons) fun (y_n_141 : Int) => W.range1 y_n_141) fun (y_l_166 : List Int) => W.bind (W.forS y_l_166 y_found_140 fun (y_i_142 : Int) (y_s_153 : (List (Int × Int))) => (W.bind (W.bind (W.bind (W.bind (W.pure y_i_142) fun (y_a_155 : Int) => W.bind (W.pure (1 : Int)) fun (y_b_156 : Int) => W.pure (y_a_155 + y_b_156)) fun (y_l_157 : Int) => W.bind (W.pure y_persons) fun (y_n_158 : Int) => W.range2 y_l_157 y_n_158) fun (y_l_162 : List Int) => W.compC y_l_162 (fun (y_i_159 : Int) => (W.pure true)) (fun (y_i_159 : Int) => (W.bind (W.pure y_i_142) fun (y_t_160 : Int) => W.bind (W.pure y_i_159) fun (y_t_161 : Int) => (W.pure (y_t_160, y_t_161))))) fun (y_a_164 : (List (Int × Int))) => W.bind (W.ext y_s_153 y_a_164) fun (y_found_163 : (List (Int × Int))) => (W.pure y_found_163))) fun (y_s_165 : (List (Int × Int))) => (W.pure y_s_165)))
def _law_web_w (y_pot : Unit) (y_most : Int) : W (Unit × Int × (List (Int × Int))) :=
  (W.bind (W.bind (W.bind (W.pure (1 : Int)) fun (y_a_182 : Int) => W.bind (W.bind (W.pure ()) fun (y_a_180 : Unit) => W.bind (W.pure y_most) fun (y_a_181 : Int) => _law_draw_w y_a_180 y_a_181) fun (y_b_183 : Int) => W.pure (y_a_182 + y_b_183)) fun (y_t_207 : Int) => W.bind (W.bind (W.pure ()) fun (y_a_192 : Unit) => W.bind (W.bind (W.pure (1 : Int)) fun (y_a_190 : Int) => W.bind (W.bind (W.pure (2 : Int)) fun (y_a_188 : Int) => W.bind (W.bind (W.pure (3 : Int)) fun (y_a_186 : Int) => W.bind (W.bind (W.pure (4 : Int)) fun (y_a_184 : Int) => W.bind (W.pure []) fun (y_as_185 : List Int) => W.pure (y_a_184 :: y_as_185)) fun (y_as_187 : List Int) => W.pure (y_a_186 :: y_as_187)) fun (y_as_189 : List Int) => W.pure (y_a_188 :: y_as_189)) fun (y_as_191 : List Int) => W.pure (y_a_190 :: y_as_191)) fun (y_a_193 : (List Int)) => _law_pick_w y_a_192 y_a_193) fun (y_t_208 : Int) => (W.pure (y_t_207, y_t_208))) fun (y_s_194 : (Int × Int)) => (W.bind (W.bind (W.pure ()) fun (y_t_203 : Unit) => W.bind (W.pure y_s_194.1) fun (y_t_204 : Int) => W.bind (W.bind (W.bind (W.bind (W.pure y_s_194.1) fun (y_a_195 : Int) => _law_all_pairs_w y_a_195) fun (y_l_201 : List (Int × Int)) => W.compC y_l_201 (fun (y_i_196 : (Int × Int)) => (W.bind (W.bind (W.pure ()) fun (y_a_197 : Unit) => W.bind (W.pure (5 : Int)) fun (y_a_198 : Int) => _law_draw_w y_a_197 y_a_198) fun (y_a_199 : Int) => W.bind (W.pure y_s_194.2) fun (y_b_200 : Int) => W.pure (decide (y_a_199 < y_b_200)))) (fun (y_i_196 : (Int × Int)) => (W.pure y_i_196))) fun (y_a_202 : (List (Int × Int))) => W.pure y_a_202) fun (y_t_205 : (List (Int × Int))) => (W.pure (y_t_203, y_t_204, y_t_205))) fun (y_r_206 : (Unit × Int × (List (Int × Int)))) => (W.pure y_r_206)))
def _law_mixed_w (y_pot : Unit) (y_many : Int) : W (List Int) :=
  (W.bind (W.bind (W.bind (W.pure y_many) fun (y_n_242 : Int) => W.range1 y_n_242) fun (y_t_266 : (List Int)) => W.bind (W.pure []) fun (y_t_267 : (List Int)) => (W.pure (y_t_266, y_t_267))) fun (y_s_243 : ((List Int) × (List Int))) => (W.bind (W.bind (W.pure y_many) fun (y_n_244 : Int) => W.range1 y_n_244) fun (y_l_265 : List Int) => W.bind (W.forS y_l_265 (y_s_243.1, y_s_243.2) fun (y_i_245 : Int) (y_s_254 : ((List Int) × (List Int))) => (W.bind (W.bind (W.pure ()) fun (y_a_257 : Unit) => W.bind (W.bind (W.pure y_s_254.1) fun (y_a_256 : (List Int)) => W.pure (y_a_256.length : Int)) fun (y_a_258 : Int) => _law_draw_w y_a_257 y_a_258) fun (y_n_261 : Int) => W.bind (W.chk (0 ≤ y_n_261 ∧ y_n_261 < y_s_254.1.length ∧ y_s_254.1.length < 1000000 ∧ y_s_254.2.length < 1000000) y_n_261.toNat) fun (y_n_262 : Nat) => W.bind (W.get (y_s_254.1)[y_n_262]?) fun (y_a_263 : Int) => (fun (y_left_259 y_found_260 : (List Int)) => (W.pure (y_left_259, y_found_260))) (List.eraseIdx y_s_254.1 y_n_262) (y_s_254.2 ++ [y_a_263]))) fun (y_s_264 : ((List Int) × (List Int))) => (W.pure y_s_264.2)))
def _law_forest_w (y_pot : Unit) (y_most : Int) : W (Unit × Int × (List (Int × Int))) :=
  (W.bind (W.bind (W.pure (1 : Int)) fun (y_a_338 : Int) => W.bind (W.bind (W.pure ()) fun (y_a_336 : Unit) => W.bind (W.pure y_most) fun (y_a_337 : Int) => _law_draw_w y_a_336 y_a_337) fun (y_b_339 : Int) => W.pure (y_a_338 + y_b_339)) fun (y_persons_340 : Int) => (W.bind (W.bind (W.bind (W.pure ()) fun (y_a_341 : Unit) => W.bind (W.pure y_persons_340) fun (y_a_342 : Int) => _law_mixed_w y_a_341 y_a_342) fun (y_t_408 : (List Int)) => W.bind (W.pure []) fun (y_t_409 : (List (Int × Int))) => (W.pure (y_t_408, y_t_409))) fun (y_s_343 : ((List Int) × (List (Int × Int)))) => (W.bind (W.bind (W.pure ()) fun (y_a_352 : Unit) => W.bind (W.bind (W.pure (99 : Int)) fun (y_a_350 : Int) => W.bind (W.bind (W.pure (99 : Int)) fun (y_a_348 : Int) => W.bind (W.bind (W.pure (4 : Int)) fun (y_a_346 : Int) => W.bind (W.bind (W.pure (2 : Int)) fun (y_a_344 : Int) => W.bind (W.pure []) fun (y_as_345 : List Int) => W.pure (y_a_344 :: y_as_345)) fun (y_as_347 : List Int) => W.pure (y_a_346 :: y_as_347)) fun (y_as_349 : List Int) => W.pure (y_a_348 :: y_as_349)) fun (y_as_351 : List Int) => W.pure (y_a_350 :: y_as_351)) fun (y_a_353 : (List Int)) => _law_pick_w y_a_352 y_a_353) fun (y_gaps_354 : Int) => (W.bind (W.bind (W.pure (1 : Int)) fun (y_l_355 : Int) => W.bind (W.pure y_persons_340) fun (y_n_356 : Int) => W.range2 y_l_355 y_n_356) fun (y_l_407 : List Int) => W.bind (W.forS y_l_407 y_s_343.2 fun (y_i_357 : Int) (y_s_378 : (List (Int × Int))) => (W.bind (W.bind (W.bind (W.pure ()) fun (y_a_380 : Unit) => W.bind (W.pure y_gaps_354) fun (y_a_381 : Int) => _law_draw_w y_a_380 y_a_381) fun (y_a_382 : Int) => W.bind (W.pure (0 : Int)) fun (y_b_383 : Int) => W.pure (decide (y_b_383 < y_a_382))) fun (y_b_384 : Bool) => W.ite y_b_384 (W.bind (W.bind (W.bind (W.bind (W.bind (W.bind (W.pure y_s_343.1) fun (y_a_385 : (List Int)) => W.bind (W.pure y_i_357) fun (y_b_386 : Int) => W.at' y_a_385 y_b_386) fun (y_a_393 : Int) => W.bind (W.bind (W.bind (W.pure y_s_343.1) fun (y_a_389 : (List Int)) => W.bind (W.bind (W.pure ()) fun (y_a_387 : Unit) => W.bind (W.pure y_i_357) fun (y_a_388 : Int) => _law_draw_w y_a_387 y_a_388) fun (y_b_390 : Int) => W.at' y_a_389 y_b_390) fun (y_a_391 : Int) => W.bind (W.pure []) fun (y_as_392 : List Int) => W.pure (y_a_391 :: y_as_392)) fun (y_as_394 : List Int) => W.pure (y_a_393 :: y_as_394)) fun (y_a_395 : (List Int)) => W.pure (W.sortL y_a_395)) fun (y_a_396 : (List Int)) => W.pure y_a_396) fun (y_a_397 : (List Int)) => W.get ((W.two (fun a => some ((fun a => a) a)) (fun a => some ((fun a => a) a))) y_a_397)) fun (y_a_399 : (Int × Int)) => W.bind (W.app y_s_378 y_a_399) fun (y_pairs_398 : (List (Int × Int))) => (W.pure y_pairs_398)) (W.pure y_s_378))) fun (y_s_400 : (List (Int × Int))) => (W.bind (W.bind (W.pure ()) fun (y_t_403 : Unit) => W.bind (W.pure y_persons_340) fun (y_t_404 : Int) => W.bind (W.bind (W.bind (W.pure y_s_400) fun (y_a_401 : (List (Int × Int))) => W.pure (W.sortBy (W.ltP W.ltI W.ltI) y_a_401)) fun (y_a_402 : (List (Int × Int))) => W.pure y_a_402) fun (y_t_405 : (List (Int × Int))) => (W.pure (y_t_403, y_t_404, y_t_405))) fun (y_r_406 : (Unit × Int × (List (Int × Int)))) => (W.pure y_r_406))))))
def _law_ring_w (y_pot : Unit) : W (Unit × Int × (List (Int × Int))) :=
  (W.bind (W.bind (W.pure (3 : Int)) fun (y_a_480 : Int) => W.bind (W.bind (W.pure ()) fun (y_a_478 : Unit) => W.bind (W.pure (6 : Int)) fun (y_a_479 : Int) => _law_draw_w y_a_478 y_a_479) fun (y_b_481 : Int) => W.pure (y_a_480 + y_b_481)) fun (y_persons_482 : Int) => (W.bind (W.bind (W.bind (W.pure ()) fun (y_a_483 : Unit) => W.bind (W.pure y_persons_482) fun (y_a_484 : Int) => _law_mixed_w y_a_483 y_a_484) fun (y_t_543 : (List Int)) => W.bind (W.pure []) fun (y_t_544 : (List (Int × Int))) => (W.pure (y_t_543, y_t_544))) fun (y_s_485 : ((List Int) × (List (Int × Int)))) => (W.bind (W.bind (W.pure y_persons_482) fun (y_n_486 : Int) => W.range1 y_n_486) fun (y_l_542 : List Int) => W.bind (W.forS y_l_542 y_s_485.2 fun (y_i_487 : Int) (y_s_506 : (List (Int × Int))) => (W.bind (W.bind (W.bind (W.bind (W.bind (W.bind (W.pure y_s_485.1) fun (y_a_508 : (List Int)) => W.bind (W.pure y_i_487) fun (y_b_509 : Int) => W.at' y_a_508 y_b_509) fun (y_a_519 : Int) => W.bind (W.bind (W.bind (W.pure y_s_485.1) fun (y_a_515 : (List Int)) => W.bind (W.bind (W.bind (W.bind (W.pure y_i_487) fun (y_a_510 : Int) => W.bind (W.pure (1 : Int)) fun (y_b_511 : Int) => W.pure (y_a_510 + y_b_511)) fun (y_a_512 : Int) => W.bind (W.pure y_persons_482) fun (y_b_513 : Int) => W.chk (0 < y_b_513) (y_a_512 % y_b_513)) fun (y_a_514 : Int) => W.pure y_a_514) fun (y_b_516 : Int) => W.at' y_a_515 y_b_516) fun (y_a_517 : Int) => W.bind (W.pure []) fun (y_as_518 : List Int) => W.pure (y_a_517 :: y_as_518)) fun (y_as_520 : List Int) => W.pure (y_a_519 :: y_as_520)) fun (y_a_521 : (List Int)) => W.pure (W.sortL y_a_521)) fun (y_a_522 : (List Int)) => W.pure y_a_522) fun (y_a_523 : (List Int)) => W.get ((W.two (fun a => some ((fun a => a) a)) (fun a => some ((fun a => a) a))) y_a_523)) fun (y_a_525 : (Int × Int)) => W.bind (W.app y_s_506 y_a_525) fun (y_pairs_524 : (List (Int × Int))) => (W.pure y_pairs_524))) fun (y_s_526 : (List (Int × Int))) => (W.bind (W.bind (W.bind (W.pure y_persons_482) fun (y_a_527 : Int) => _law_all_pairs_w y_a_527) fun (y_l_533 : List (Int × Int)) => W.compC y_l_533 (fun (y_i_528 : (Int × Int)) => (W.bind (W.bind (W.pure ()) fun (y_a_529 : Unit) => W.bind (W.pure (6 : Int)) fun (y_a_530 : Int) => _law_draw_w y_a_529 y_a_530) fun (y_a_531 : Int) => W.bind (W.pure (0 : Int)) fun (y_b_532 : Int) => W.pure (decide (y_a_531 = y_b_532)))) (fun (y_i_528 : (Int × Int)) => (W.pure y_i_528))) fun (y_a_535 : (List (Int × Int))) => W.bind (W.ext y_s_526 y_a_535) fun (y_pairs_534 : (List (Int × Int))) => (W.bind (W.bind (W.pure ()) fun (y_t_538 : Unit) => W.bind (W.pure y_persons_482) fun (y_t_539 : Int) => W.bind (W.bind (W.bind (W.pure y_pairs_534) fun (y_a_536 : (List (Int × Int))) => W.chk (y_a_536.length < 64 ∧ ∀ p ∈ y_a_536, 0 ≤ p.1 ∧ p.1 < 64 ∧ 0 ≤ p.2 ∧ p.2 < 64) (W.setP y_a_536)) fun (y_a_537 : (List (Int × Int))) => W.pure y_a_537) fun (y_t_540 : (List (Int × Int))) => (W.pure (y_t_538, y_t_539, y_t_540))) fun (y_r_541 : (Unit × Int × (List (Int × Int)))) => (W.pure y_r_541))))))
def _law_two_w (y_pot : Unit) : W (Unit × Int × (List (Int × Int))) :=
  (W.bind (W.bind (W.pure ()) fun (y_a_603 : Unit) => W.bind (W.pure (6 : Int)) fun (y_a_604 : Int) => _law_mixed_w y_a_603 y_a_604) fun (y_names_605 : (List Int)) => (W.bind (W.bind (W.bind (W.pure (0 : Int)) fun (y_t_606 : Int) => W.bind (W.pure (1 : Int)) fun (y_t_607 : Int) => (W.pure (y_t_606, y_t_607))) fun (y_a_632 : (Int × Int)) => W.bind (W.bind (W.bind (W.pure (1 : Int)) fun (y_t_608 : Int) => W.bind (W.pure (2 : Int)) fun (y_t_609 : Int) => (W.pure (y_t_608, y_t_609))) fun (y_a_630 : (Int × Int)) => W.bind (W.bind (W.bind (W.pure (0 : Int)) fun (y_t_610 : Int) => W.bind (W.pure (2 : Int)) fun (y_t_611 : Int) => (W.pure (y_t_610, y_t_611))) fun (y_a_628 : (Int × Int)) => W.bind (W.bind (W.bind (W.pure (3 : Int)) fun (y_t_612 : Int) => W.bind (W.pure (4 : Int)) fun (y_t_613 : Int) => (W.pure (y_t_612, y_t_613))) fun (y_a_626 : (Int × Int)) => W.bind (W.bind (W.bind (W.pure (4 : Int)) fun (y_t_614 : Int) => W.bind (W.pure (5 : Int)) fun (y_t_615 : Int) => (W.pure (y_t_614, y_t_615))) fun (y_a_624 : (Int × Int)) => W.bind (W.bind (W.bind (W.pure (3 : Int)) fun (y_t_616 : Int) => W.bind (W.pure (5 : Int)) fun (y_t_617 : Int) => (W.pure (y_t_616, y_t_617))) fun (y_a_622 : (Int × Int)) => W.bind (W.bind (W.bind (W.pure (2 : Int)) fun (y_t_618 : Int) => W.bind (W.pure (3 : Int)) fun (y_t_619 : Int) => (W.pure (y_t_618, y_t_619))) fun (y_a_620 : (Int × Int)) => W.bind (W.pure []) fun (y_as_621 : List (Int × Int)) => W.pure (y_a_620 :: y_as_621)) fun (y_as_623 : List (Int × Int)) => W.pure (y_a_622 :: y_as_623)) fun (y_as_625 : List (Int × Int)) => W.pure (y_a_624 :: y_as_625)) fun (y_as_627 : List (Int × Int)) => W.pure (y_a_626 :: y_as_627)) fun (y_as_629 : List (Int × Int)) => W.pure (y_a_628 :: y_as_629)) fun (y_as_631 : List (Int × Int)) => W.pure (y_a_630 :: y_as_631)) fun (y_as_633 : List (Int × Int)) => W.pure (y_a_632 :: y_as_633)) fun (y_pairs_634 : (List (Int × Int))) => (W.bind (W.bind (W.pure y_pairs_634) fun (y_l_640 : List (Int × Int)) => W.compC y_l_640 (fun (y_i_635 : (Int × Int)) => (W.bind (W.bind (W.pure ()) fun (y_a_636 : Unit) => W.bind (W.pure (12 : Int)) fun (y_a_637 : Int) => _law_draw_w y_a_636 y_a_637) fun (y_a_638 : Int) => W.bind (W.pure (0 : Int)) fun (y_b_639 : Int) => W.pure (decide (y_b_639 < y_a_638)))) (fun (y_i_635 : (Int × Int)) => (W.pure y_i_635))) fun (y_pairs_641 : (List (Int × Int))) => (W.bind (W.bind (W.pure ()) fun (y_t_657 : Unit) => W.bind (W.pure (6 : Int)) fun (y_t_658 : Int) => W.bind (W.bind (W.bind (W.bind (W.pure y_pairs_641) fun (y_l_654 : List (Int × Int)) => W.compC y_l_654 (fun (y_i_642 : (Int × Int)) => (W.pure true)) (fun (y_i_642 : (Int × Int)) => (W.bind (W.bind (W.bind (W.bind (W.bind (W.pure y_names_605) fun (y_a_643 : (List Int)) => W.bind (W.pure (y_i_642.1)) fun (y_b_644 : Int) => W.at' y_a_643 y_b_644) fun (y_a_649 : Int) => W.bind (W.bind (W.bind (W.pure y_names_605) fun (y_a_645 : (List Int)) => W.bind (W.pure (y_i_642.2)) fun (y_b_646 : Int) => W.at' y_a_645 y_b_646) fun (y_a_647 : Int) => W.bind (W.pure []) fun (y_as_648 : List Int) => W.pure (y_a_647 :: y_as_648)) fun (y_as_650 : List Int) => W.pure (y_a_649 :: y_as_650)) fun (y_a_651 : (List Int)) => W.pure (W.sortL y_a_651)) fun (y_a_652 : (List Int)) => W.pure y_a_652) fun (y_a_653 : (List Int)) => W.get ((W.two (fun a => some ((fun a => a) a)) (fun a => some ((fun a => a) a))) y_a_653)))) fun (y_a_655 : (List (Int × Int))) => W.pure (W.sortBy (W.ltP W.ltI W.ltI) y_a_655)) fun (y_a_656 : (List (Int × Int))) => W.pure y_a_656) fun (y_t_659 : (List (Int × Int))) => (W.pure (y_t_657, y_t_658, y_t_659))) fun (y_r_660 : (Unit × Int × (List (Int × Int)))) => (W.pure y_r_660)))))
def _law_pieces_w (y_persons : Int) (y_pairs : (List (Int × Int))) : W (List (List Int)) :=
  (W.bind (W.bind (W.bind (W.pure y_persons) fun (y_n_959 : Int) => W.range1 y_n_959) fun (y_t_1234 : (List Int)) => W.bind (W.pure []) fun (y_t_1235 : (List (List Int))) => (W.pure (y_t_1234, y_t_1235))) fun (y_s_960 : ((List Int) × (List (List Int)))) => (W.bind (W.whileS (y_s_960.1, y_s_960.2) (fun (y_s_1096 : ((List Int) × (List (List Int)))) => (W.bind (W.pure y_s_1096.1) fun (y_a_1097 : (List Int)) => W.bind (W.pure []) fun (y_b_1098 : (List Int)) => W.pure (!decide (y_a_1097 = y_b_1098)))) (fun (y_s_1096 : ((List Int) × (List (List Int)))) => (W.bind (W.bind (W.bind (W.bind (W.pure y_s_1096.1) fun (y_a_1100 : (List Int)) => W.bind (W.pure (0 : Int)) fun (y_b_1101 : Int) => W.at' y_a_1100 y_b_1101) fun (y_a_1102 : Int) => W.bind (W.pure []) fun (y_as_1103 : List Int) => W.pure (y_a_1102 :: y_as_1103)) fun (y_t_1231 : (List Int)) => W.bind (W.bind (W.bind (W.pure y_s_1096.1) fun (y_a_1104 : (List Int)) => W.bind (W.pure (0 : Int)) fun (y_b_1105 : Int) => W.at' y_a_1104 y_b_1105) fun (y_a_1106 : Int) => W.bind (W.pure []) fun (y_as_1107 : List Int) => W.pure (y_a_1106 :: y_as_1107)) fun (y_t_1232 : (List Int)) => (W.pure (y_t_1231, y_t_1232))) fun (y_s_1108 : ((List Int) × (List Int))) => (W.bind (W.whileS (y_s_1108.1, y_s_1108.2) (fun (y_s_1164 : ((List Int) × (List Int))) => (W.bind (W.pure y_s_1164.2) fun (y_a_1165 : (List Int)) => W.bind (W.pure []) fun (y_b_1166 : (List Int)) => W.pure (!decide (y_a_1165 = y_b_1166)))) (fun (y_s_1164 : ((List Int) × (List Int))) => (W.bind (W.get y_s_1164.2.getLast?) fun (y_here_1168 : Int) => (fun (y_last_1169 : (List Int)) => (W.bind (W.pure y_pairs) fun (y_l_1220 : List (Int × Int)) => W.bind (W.forS y_l_1220 (y_s_1164.1, y_last_1169) fun (y_i_1170 : (Int × Int)) (y_s_1194 : ((List Int) × (List Int))) => (W.bind (W.bind (W.bind (W.pure y_here_1168) fun (y_a_1197 : Int) => W.bind (W.bind (W.pure y_i_1170) fun (y_a_1196 : (Int × Int)) => W.pure ((fun p => [((fun a => a) p.1), ((fun a => a) p.2)]) y_a_1196)) fun (y_b_1198 : (List Int)) => W.pure (W.mem y_a_1197 y_b_1198)) fun (y_b_1205 : Bool) => W.ite y_b_1205 (W.bind (W.bind (W.bind (W.bind (W.pure y_i_1170) fun (y_a_1199 : (Int × Int)) => W.pure ((fun p => [((fun a => a) p.1), ((fun a => a) p.2)]) y_a_1199)) fun (y_a_1200 : (List Int)) => W.pure y_a_1200.sum) fun (y_a_1201 : Int) => W.bind (W.pure y_here_1168) fun (y_b_1202 : Int) => W.pure (y_a_1201 - y_b_1202)) fun (y_a_1203 : Int) => W.bind (W.pure y_s_1194.1) fun (y_b_1204 : (List Int)) => W.pure (!W.mem y_a_1203 y_b_1204)) (W.pure false)) fun (y_b_1206 : Bool) => W.ite y_b_1206 (W.bind (W.bind (W.bind (W.bind (W.pure y_i_1170) fun (y_a_1207 : (Int × Int)) => W.pure ((fun p => [((fun a => a) p.1), ((fun a => a) p.2)]) y_a_1207)) fun (y_a_1208 : (List Int)) => W.pure y_a_1208.sum) fun (y_a_1209 : Int) => W.bind (W.pure y_here_1168) fun (y_b_1210 : Int) => W.pure (y_a_1209 - y_b_1210)) fun (y_a_1212 : Int) => W.bind (W.app y_s_1194.1 y_a_1212) fun (y_lot_1211 : (List Int)) => (W.bind (W.bind (W.bind (W.bind (W.pure y_i_1170) fun (y_a_1213 : (Int × Int)) => W.pure ((fun p => [((fun a => a) p.1), ((fun a => a) p.2)]) y_a_1213)) fun (y_a_1214 : (List Int)) => W.pure y_a_1214.sum) fun (y_a_1215 : Int) => W.bind (W.pure y_here_1168) fun (y_b_1216 : Int) => W.pure (y_a_1215 - y_b_1216)) fun (y_a_1218 : Int) => W.bind (W.app y_s_1194.2 y_a_1218) fun (y_last_1217 : (List Int)) => (W.pure (y_lot_1211, y_last_1217)))) (W.pure (y_s_1194.1, y_s_1194.2)))) fun (y_s_1219 : ((List Int) × (List Int))) => (W.pure (y_s_1219.1, y_s_1219.2)))) y_s_1164.2.dropLast))) fun (y_s_1221 : ((List Int) × (List Int))) => (W.bind (W.bind (W.bind (W.pure y_s_1221.1) fun (y_a_1222 : (List Int)) => W.pure (W.sortL y_a_1222)) fun (y_a_1223 : (List Int)) => W.pure y_a_1223) fun (y_a_1225 : (List Int)) => W.bind (W.app y_s_1096.2 y_a_1225) fun (y_found_1224 : (List (List Int))) => (W.bind (W.bind (W.pure y_s_1096.1) fun (y_l_1229 : List Int) => W.compC y_l_1229 (fun (y_i_1226 : Int) => (W.bind (W.pure y_i_1226) fun (y_a_1227 : Int) => W.bind (W.pure y_s_1221.1) fun (y_b_1228 : (List Int)) => W.pure (!W.mem y_a_1227 y_b_1228))) (fun (y_i_1226 : Int) => (W.pure y_i_1226))) fun (y_left_1230 : (List Int)) => (W.pure (y_left_1230, y_found_1224)))))))) fun (y_s_1233 : ((List Int) × (List (List Int)))) => (W.pure y_s_1233.2)))
def _law_pieces_2_w (y_persons : Int) (y_pairs : (List (Int × Int))) : W (List (List Int)) :=
  (W.bind (W.bind (W.bind (W.pure y_persons) fun (y_n_1518 : Int) => W.range1 y_n_1518) fun (y_t_1793 : (List Int)) => W.bind (W.pure []) fun (y_t_1794 : (List (List Int))) => (W.pure (y_t_1793, y_t_1794))) fun (y_s_1519 : ((List Int) × (List (List Int)))) => (W.bind (W.whileS (y_s_1519.1, y_s_1519.2) (fun (y_s_1655 : ((List Int) × (List (List Int)))) => (W.bind (W.pure y_s_1655.1) fun (y_a_1656 : (List Int)) => W.bind (W.pure []) fun (y_b_1657 : (List Int)) => W.pure (!decide (y_a_1656 = y_b_1657)))) (fun (y_s_1655 : ((List Int) × (List (List Int)))) => (W.bind (W.bind (W.bind (W.bind (W.pure y_s_1655.1) fun (y_a_1659 : (List Int)) => W.bind (W.pure (0 : Int)) fun (y_b_1660 : Int) => W.at' y_a_1659 y_b_1660) fun (y_a_1661 : Int) => W.bind (W.pure []) fun (y_as_1662 : List Int) => W.pure (y_a_1661 :: y_as_1662)) fun (y_t_1790 : (List Int)) => W.bind (W.bind (W.bind (W.pure y_s_1655.1) fun (y_a_1663 : (List Int)) => W.bind (W.pure (0 : Int)) fun (y_b_1664 : Int) => W.at' y_a_1663 y_b_1664) fun (y_a_1665 : Int) => W.bind (W.pure []) fun (y_as_1666 : List Int) => W.pure (y_a_1665 :: y_as_1666)) fun (y_t_1791 : (List Int)) => (W.pure (y_t_1790, y_t_1791))) fun (y_s_1667 : ((List Int) × (List Int))) => (W.bind (W.whileS (y_s_1667.1, y_s_1667.2) (fun (y_s_1723 : ((List Int) × (List Int))) => (W.bind (W.pure y_s_1723.2) fun (y_a_1724 : (List Int)) => W.bind (W.pure []) fun (y_b_1725 : (List Int)) => W.pure (!decide (y_a_1724 = y_b_1725)))) (fun (y_s_1723 : ((List Int) × (List Int))) => (W.bind (W.get y_s_1723.2.getLast?) fun (y_here_1727 : Int) => (fun (y_last_1728 : (List Int)) => (W.bind (W.pure y_pairs) fun (y_l_1779 : List (Int × Int)) => W.bind (W.forS y_l_1779 (y_s_1723.1, y_last_1728) fun (y_i_1729 : (Int × Int)) (y_s_1753 : ((List Int) × (List Int))) => (W.bind (W.bind (W.bind (W.pure y_here_1727) fun (y_a_1756 : Int) => W.bind (W.bind (W.pure y_i_1729) fun (y_a_1755 : (Int × Int)) => W.pure ((fun p => [((fun a => a) p.1), ((fun a => a) p.2)]) y_a_1755)) fun (y_b_1757 : (List Int)) => W.pure (W.mem y_a_1756 y_b_1757)) fun (y_b_1764 : Bool) => W.ite y_b_1764 (W.bind (W.bind (W.bind (W.bind (W.pure y_i_1729) fun (y_a_1758 : (Int × Int)) => W.pure ((fun p => [((fun a => a) p.1), ((fun a => a) p.2)]) y_a_1758)) fun (y_a_1759 : (List Int)) => W.pure y_a_1759.sum) fun (y_a_1760 : Int) => W.bind (W.pure y_here_1727) fun (y_b_1761 : Int) => W.pure (y_a_1760 - y_b_1761)) fun (y_a_1762 : Int) => W.bind (W.pure y_s_1753.1) fun (y_b_1763 : (List Int)) => W.pure (!W.mem y_a_1762 y_b_1763)) (W.pure false)) fun (y_b_1765 : Bool) => W.ite y_b_1765 (W.bind (W.bind (W.bind (W.bind (W.pure y_i_1729) fun (y_a_1766 : (Int × Int)) => W.pure ((fun p => [((fun a => a) p.1), ((fun a => a) p.2)]) y_a_1766)) fun (y_a_1767 : (List Int)) => W.pure y_a_1767.sum) fun (y_a_1768 : Int) => W.bind (W.pure y_here_1727) fun (y_b_1769 : Int) => W.pure (y_a_1768 - y_b_1769)) fun (y_a_1771 : Int) => W.bind (W.app y_s_1753.1 y_a_1771) fun (y_lot_1770 : (List Int)) => (W.bind (W.bind (W.bind (W.bind (W.pure y_i_1729) fun (y_a_1772 : (Int × Int)) => W.pure ((fun p => [((fun a => a) p.1), ((fun a => a) p.2)]) y_a_1772)) fun (y_a_1773 : (List Int)) => W.pure y_a_1773.sum) fun (y_a_1774 : Int) => W.bind (W.pure y_here_1727) fun (y_b_1775 : Int) => W.pure (y_a_1774 - y_b_1775)) fun (y_a_1777 : Int) => W.bind (W.app y_s_1753.2 y_a_1777) fun (y_last_1776 : (List Int)) => (W.pure (y_lot_1770, y_last_1776)))) (W.pure (y_s_1753.1, y_s_1753.2)))) fun (y_s_1778 : ((List Int) × (List Int))) => (W.pure (y_s_1778.1, y_s_1778.2)))) y_s_1723.2.dropLast))) fun (y_s_1780 : ((List Int) × (List Int))) => (W.bind (W.bind (W.bind (W.pure y_s_1780.1) fun (y_a_1781 : (List Int)) => W.pure (W.sortL y_a_1781)) fun (y_a_1782 : (List Int)) => W.pure y_a_1782) fun (y_a_1784 : (List Int)) => W.bind (W.app y_s_1655.2 y_a_1784) fun (y_found_1783 : (List (List Int))) => (W.bind (W.bind (W.pure y_s_1655.1) fun (y_l_1788 : List Int) => W.compC y_l_1788 (fun (y_i_1785 : Int) => (W.bind (W.pure y_i_1785) fun (y_a_1786 : Int) => W.bind (W.pure y_s_1780.1) fun (y_b_1787 : (List Int)) => W.pure (!W.mem y_a_1786 y_b_1787))) (fun (y_i_1785 : Int) => (W.pure y_i_1785))) fun (y_left_1789 : (List Int)) => (W.pure (y_left_1789, y_found_1783)))))))) fun (y_s_1792 : ((List Int) × (List (List Int)))) => (W.pure y_s_1792.2)))
def _law_is_bridge_w (y_web : (Unit × Int × (List (Int × Int)))) (y_pair : (Int × Int)) : W Bool :=
  (W.bind (W.bind (W.bind (W.pure y_web) fun (y_a_1800 : (Unit × Int × (List (Int × Int)))) => W.pure y_a_1800.2.2) fun (y_l_1804 : List (Int × Int)) => W.compC y_l_1804 (fun (y_i_1801 : (Int × Int)) => (W.bind (W.pure y_i_1801) fun (y_a_1802 : (Int × Int)) => W.bind (W.pure y_pair) fun (y_b_1803 : (Int × Int)) => W.pure (!decide (y_a_1802 = y_b_1803)))) (fun (y_i_1801 : (Int × Int)) => (W.pure y_i_1801))) fun (y_rest_1805 : (List (Int × Int))) => (W.bind (W.bind (W.bind (W.bind (W.bind (W.pure y_web) fun (y_a_1806 : (Unit × Int × (List (Int × Int)))) => W.pure y_a_1806.2.1) fun (y_a_1807 : Int) => W.bind (W.pure y_rest_1805) fun (y_a_1808 : (List (Int × Int))) => _law_pieces_w y_a_1807 y_a_1808) fun (y_a_1809 : (List (List Int))) => W.pure (y_a_1809.length : Int)) fun (y_a_1815 : Int) => W.bind (W.bind (W.bind (W.bind (W.pure y_web) fun (y_a_1810 : (Unit × Int × (List (Int × Int)))) => W.pure y_a_1810.2.1) fun (y_a_1812 : Int) => W.bind (W.bind (W.pure y_web) fun (y_a_1811 : (Unit × Int × (List (Int × Int)))) => W.pure y_a_1811.2.2) fun (y_a_1813 : (List (Int × Int))) => _law_pieces_2_w y_a_1812 y_a_1813) fun (y_a_1814 : (List (List Int))) => W.pure (y_a_1814.length : Int)) fun (y_b_1816 : Int) => W.pure (decide (y_b_1816 < y_a_1815))) fun (y_r_1817 : Bool) => (W.pure y_r_1817)))
def is_tuple_w (y_value : (Unit × Int × (List (Int × Int)))) (y_many : Int) : W Bool :=
  (W.bind (W.bind (W.bind (W.pure y_value) fun (y_a_1828 : (Unit × Int × (List (Int × Int)))) => W.pure true) fun (y_b_1832 : Bool) => W.ite y_b_1832 (W.bind (W.bind (W.pure y_value) fun (y_a_1829 : (Unit × Int × (List (Int × Int)))) => W.pure (((3 : Nat) : Int))) fun (y_a_1830 : Int) => W.bind (W.pure y_many) fun (y_b_1831 : Int) => W.pure (decide (y_a_1830 = y_b_1831))) (W.pure false)) fun (y_r_1833 : Bool) => (W.pure y_r_1833))
def is_integer_w (y_value : Int) : W Bool :=
  (W.bind (W.bind (W.bind (W.pure y_value) fun (y_a_1851 : Int) => W.pure true) fun (y_b_1854 : Bool) => W.ite y_b_1854 (W.bind (W.bind (W.pure y_value) fun (y_a_1852 : Int) => W.pure false) fun (y_a_1853 : Bool) => W.pure (!y_a_1853)) (W.pure false)) fun (y_r_1855 : Bool) => (W.pure y_r_1855))
def is_within_w (y_value : Int) (y_least : Int) (y_most : Int) : W Bool :=
  (W.bind (W.bind (W.bind (W.pure y_value) fun (y_a_1862 : Int) => is_integer_w y_a_1862) fun (y_b_1867 : Bool) => W.ite y_b_1867 (W.bind (W.pure y_least) fun (y_a_1863 : Int) => W.bind (W.pure y_value) fun (y_b_1864 : Int) => W.bind (W.pure (decide (y_a_1863 ≤ y_b_1864))) fun (y_k_1865 : Bool) => W.ite y_k_1865 (W.bind (W.pure y_most) fun (y_c_1866 : Int) => W.pure (decide (y_b_1864 ≤ y_c_1866))) (W.pure false)) (W.pure false)) fun (y_r_1868 : Bool) => (W.pure y_r_1868))
def is_tuple_2_w (y_value : (Int × Int)) (y_many : Int) : W Bool :=
  (W.bind (W.bind (W.bind (W.pure y_value) fun (y_a_1882 : (Int × Int)) => W.pure true) fun (y_b_1886 : Bool) => W.ite y_b_1886 (W.bind (W.bind (W.pure y_value) fun (y_a_1883 : (Int × Int)) => W.pure (((2 : Nat) : Int))) fun (y_a_1884 : Int) => W.bind (W.pure y_many) fun (y_b_1885 : Int) => W.pure (decide (y_a_1884 = y_b_1885))) (W.pure false)) fun (y_r_1887 : Bool) => (W.pure y_r_1887))
def is_pair_of_w (y_persons : Int) (y_value : (Int × Int)) : W Bool :=
  (W.bind (W.bind (W.bind (W.pure y_value) fun (y_a_1905 : (Int × Int)) => W.bind (W.pure (2 : Int)) fun (y_a_1906 : Int) => is_tuple_2_w y_a_1905 y_a_1906) fun (y_b_1921 : Bool) => W.ite y_b_1921 (W.bind (W.bind (W.bind (W.bind (W.pure y_value) fun (y_a_1907 : (Int × Int)) => W.pure ((fun p => [((fun a => a) p.1), ((fun a => a) p.2)]) y_a_1907)) fun (y_l_1914 : List Int) => W.compC y_l_1914 (fun (y_i_1908 : Int) => (W.pure true)) (fun (y_i_1908 : Int) => (W.bind (W.pure y_i_1908) fun (y_a_1911 : Int) => W.bind (W.pure (0 : Int)) fun (y_a_1912 : Int) => W.bind (W.bind (W.pure y_persons) fun (y_a_1909 : Int) => W.bind (W.pure (1 : Int)) fun (y_b_1910 : Int) => W.pure (y_a_1909 - y_b_1910)) fun (y_a_1913 : Int) => is_within_w y_a_1911 y_a_1912 y_a_1913))) fun (y_a_1915 : (List Bool)) => W.pure (y_a_1915.all id)) fun (y_b_1920 : Bool) => W.ite y_b_1920 (W.bind (W.bind (W.pure y_value) fun (y_a_1916 : (Int × Int)) => W.pure y_a_1916.1) fun (y_a_1918 : Int) => W.bind (W.bind (W.pure y_value) fun (y_a_1917 : (Int × Int)) => W.pure y_a_1917.2) fun (y_b_1919 : Int) => W.pure (decide (y_a_1918 < y_b_1919))) (W.pure false)) (W.pure false)) fun (y_r_1922 : Bool) => (W.pure y_r_1922))
def are_pairs_of_w (y_persons : Int) (y_value : (List (Int × Int))) : W Bool :=
  (W.bind (W.bind (W.bind (W.bind (W.pure y_value) fun (y_a_1941 : (List (Int × Int))) => W.pure true) fun (y_b_1942 : Bool) => W.pure (!y_b_1942)) fun (y_b_1949 : Bool) => W.ite y_b_1949 (W.pure true) (W.bind (W.bind (W.bind (W.pure y_value) fun (y_l_1946 : List (Int × Int)) => W.compC y_l_1946 (fun (y_i_1943 : (Int × Int)) => (W.pure true)) (fun (y_i_1943 : (Int × Int)) => (W.bind (W.pure y_persons) fun (y_a_1944 : Int) => W.bind (W.pure y_i_1943) fun (y_a_1945 : (Int × Int)) => is_pair_of_w y_a_1944 y_a_1945))) fun (y_a_1947 : (List Bool)) => W.pure (y_a_1947.all id)) fun (y_b_1948 : Bool) => W.pure (!y_b_1948))) fun (y_b_1950 : Bool) => W.ite y_b_1950 (W.bind (W.pure false) fun (y_r_1951 : Bool) => (W.pure y_r_1951)) (W.bind (W.bind (W.bind (W.bind (W.pure y_value) fun (y_a_1956 : (List (Int × Int))) => W.bind (W.bind (W.pure y_value) fun (y_a_1953 : (List (Int × Int))) => W.bind (W.bind (W.pure (1 : Int)) fun (y_k_1952 : Int) => W.pure (some y_k_1952)) fun (y_l_1954 : Option Int) => W.bind (W.pure none) fun (y_h_1955 : Option Int) => W.pure (W.cut y_a_1953 y_l_1954 y_h_1955)) fun (y_b_1957 : (List (Int × Int))) => W.pure (y_a_1956.zip y_b_1957)) fun (y_l_1961 : List ((Int × Int) × (Int × Int))) => W.compC y_l_1961 (fun (y_i_1958 : ((Int × Int) × (Int × Int))) => (W.pure true)) (fun (y_i_1958 : ((Int × Int) × (Int × Int))) => (W.bind (W.pure (y_i_1958.1)) fun (y_a_1959 : (Int × Int)) => W.bind (W.pure (y_i_1958.2)) fun (y_b_1960 : (Int × Int)) => W.pure ((W.ltP W.ltI W.ltI) y_a_1959 y_b_1960)))) fun (y_a_1962 : (List Bool)) => W.pure (y_a_1962.all id)) fun (y_r_1963 : Bool) => (W.pure y_r_1963)))
def is_web_value_w (y_value : (Unit × Int × (List (Int × Int)))) : W Bool :=
  (W.bind (W.bind (W.bind (W.bind (W.pure y_value) fun (y_a_1967 : (Unit × Int × (List (Int × Int)))) => W.bind (W.pure (3 : Int)) fun (y_a_1968 : Int) => is_tuple_w y_a_1967 y_a_1968) fun (y_b_1969 : Bool) => W.pure (!y_b_1969)) fun (y_b_1977 : Bool) => W.ite y_b_1977 (W.pure true) (W.bind (W.bind (W.bind (W.bind (W.pure y_value) fun (y_a_1970 : (Unit × Int × (List (Int × Int)))) => W.pure y_a_1970.1) fun (y_a_1971 : Unit) => W.pure true) fun (y_b_1972 : Bool) => W.pure (!y_b_1972)) fun (y_b_1976 : Bool) => W.ite y_b_1976 (W.pure true) (W.bind (W.bind (W.pure y_value) fun (y_a_1973 : (Unit × Int × (List (Int × Int)))) => W.pure y_a_1973.1) fun (y_a_1974 : Unit) => W.bind (W.pure ()) fun (y_b_1975 : Unit) => W.pure (!decide (y_a_1974 = y_b_1975))))) fun (y_b_1978 : Bool) => W.ite y_b_1978 (W.bind (W.pure false) fun (y_r_1979 : Bool) => (W.pure y_r_1979)) (W.bind (W.bind (W.bind (W.bind (W.pure y_value) fun (y_a_1980 : (Unit × Int × (List (Int × Int)))) => W.pure y_a_1980.2.1) fun (y_a_1981 : Int) => W.bind (W.pure (1 : Int)) fun (y_a_1982 : Int) => W.bind (W.pure (10 : Int)) fun (y_a_1983 : Int) => is_within_w y_a_1981 y_a_1982 y_a_1983) fun (y_b_1988 : Bool) => W.ite y_b_1988 (W.bind (W.bind (W.pure y_value) fun (y_a_1984 : (Unit × Int × (List (Int × Int)))) => W.pure y_a_1984.2.1) fun (y_a_1986 : Int) => W.bind (W.bind (W.pure y_value) fun (y_a_1985 : (Unit × Int × (List (Int × Int)))) => W.pure y_a_1985.2.2) fun (y_a_1987 : (List (Int × Int))) => are_pairs_of_w y_a_1986 y_a_1987) (W.pure false)) fun (y_r_1989 : Bool) => (W.pure y_r_1989)))
def want_web_w (y_web : (Unit × Int × (List (Int × Int)))) : W Unit :=
  (W.bind (W.bind (W.bind (W.pure y_web) fun (y_a_1993 : (Unit × Int × (List (Int × Int)))) => is_web_value_w y_a_1993) fun (y_b_1994 : Bool) => W.pure (!y_b_1994)) fun (y_b_1995 : Bool) => W.ite y_b_1995 W.fail (W.pure ()))
def pieces_of_w (y_persons : Int) (y_pairs : (List (Int × Int))) : W (List (List Int)) :=
  (W.bind (W.bind (W.pure y_persons) fun (y_n_2060 : Int) => W.range1 y_n_2060) fun (y_home_2061 : (List Int)) => (W.bind (W.pure y_pairs) fun (y_l_2121 : List (Int × Int)) => W.bind (W.forS y_l_2121 y_home_2061 fun (y_i_2062 : (Int × Int)) (y_s_2084 : (List Int)) => (W.bind (W.bind (W.bind (W.bind (W.pure y_s_2084) fun (y_a_2086 : (List Int)) => W.bind (W.pure (y_i_2062.1)) fun (y_b_2087 : Int) => W.at' y_a_2086 y_b_2087) fun (y_a_2090 : Int) => W.bind (W.bind (W.pure y_s_2084) fun (y_a_2088 : (List Int)) => W.bind (W.pure (y_i_2062.2)) fun (y_b_2089 : Int) => W.at' y_a_2088 y_b_2089) fun (y_b_2091 : Int) => W.pure (min y_a_2090 y_b_2091)) fun (y_t_2105 : Int) => W.bind (W.bind (W.bind (W.pure y_s_2084) fun (y_a_2092 : (List Int)) => W.bind (W.pure (y_i_2062.1)) fun (y_b_2093 : Int) => W.at' y_a_2092 y_b_2093) fun (y_a_2096 : Int) => W.bind (W.bind (W.pure y_s_2084) fun (y_a_2094 : (List Int)) => W.bind (W.pure (y_i_2062.2)) fun (y_b_2095 : Int) => W.at' y_a_2094 y_b_2095) fun (y_b_2097 : Int) => W.pure (max y_a_2096 y_b_2097)) fun (y_t_2106 : Int) => (W.pure (y_t_2105, y_t_2106))) fun (y_s_2098 : (Int × Int)) => (W.bind (W.bind (W.pure y_s_2084) fun (y_l_2103 : List Int) => W.compC y_l_2103 (fun (y_i_2099 : Int) => (W.pure true)) (fun (y_i_2099 : Int) => (W.bind (W.bind (W.pure y_i_2099) fun (y_a_2100 : Int) => W.bind (W.pure y_s_2098.2) fun (y_b_2101 : Int) => W.pure (decide (y_a_2100 = y_b_2101))) fun (y_b_2102 : Bool) => W.ite y_b_2102 (W.pure y_s_2098.1) (W.pure y_i_2099)))) fun (y_home_2104 : (List Int)) => (W.pure y_home_2104)))) fun (y_s_2107 : (List Int)) => (W.bind (W.bind (W.bind (W.pure y_s_2107) fun (y_a_2109 : (List Int)) => W.chk (((fun (y_a_2108 : (List Int)) => y_a_2108) y_a_2109).length < 64) (W.setL ((fun (y_a_2108 : (List Int)) => y_a_2108) y_a_2109))) fun (y_l_2119 : List Int) => W.compC y_l_2119 (fun (y_i_2110 : Int) => (W.pure true)) (fun (y_i_2110 : Int) => (W.bind (W.bind (W.bind (W.pure y_persons) fun (y_n_2111 : Int) => W.range1 y_n_2111) fun (y_l_2117 : List Int) => W.compC y_l_2117 (fun (y_i_2112 : Int) => (W.bind (W.bind (W.pure y_s_2107) fun (y_a_2113 : (List Int)) => W.bind (W.pure y_i_2112) fun (y_b_2114 : Int) => W.at' y_a_2113 y_b_2114) fun (y_a_2115 : Int) => W.bind (W.pure y_i_2110) fun (y_b_2116 : Int) => W.pure (decide (y_a_2115 = y_b_2116)))) (fun (y_i_2112 : Int) => (W.pure y_i_2112))) fun (y_a_2118 : (List Int)) => W.pure y_a_2118))) fun (y_r_2120 : (List (List Int))) => (W.pure y_r_2120))))
def pieces_of_2_w (y_persons : Int) (y_pairs : (List (Int × Int))) : W (List (List Int)) :=
  (W.bind (W.bind (W.pure y_persons) fun (y_n_2192 : Int) => W.range1 y_n_2192) fun (y_home_2193 : (List Int)) => (W.bind (W.pure y_pairs) fun (y_l_2253 : List (Int × Int)) => W.bind (W.forS y_l_2253 y_home_2193 fun (y_i_2194 : (Int × Int)) (y_s_2216 : (List Int)) => (W.bind (W.bind (W.bind (W.bind (W.pure y_s_2216) fun (y_a_2218 : (List Int)) => W.bind (W.pure (y_i_2194.1)) fun (y_b_2219 : Int) => W.at' y_a_2218 y_b_2219) fun (y_a_2222 : Int) => W.bind (W.bind (W.pure y_s_2216) fun (y_a_2220 : (List Int)) => W.bind (W.pure (y_i_2194.2)) fun (y_b_2221 : Int) => W.at' y_a_2220 y_b_2221) fun (y_b_2223 : Int) => W.pure (min y_a_2222 y_b_2223)) fun (y_t_2237 : Int) => W.bind (W.bind (W.bind (W.pure y_s_2216) fun (y_a_2224 : (List Int)) => W.bind (W.pure (y_i_2194.1)) fun (y_b_2225 : Int) => W.at' y_a_2224 y_b_2225) fun (y_a_2228 : Int) => W.bind (W.bind (W.pure y_s_2216) fun (y_a_2226 : (List Int)) => W.bind (W.pure (y_i_2194.2)) fun (y_b_2227 : Int) => W.at' y_a_2226 y_b_2227) fun (y_b_2229 : Int) => W.pure (max y_a_2228 y_b_2229)) fun (y_t_2238 : Int) => (W.pure (y_t_2237, y_t_2238))) fun (y_s_2230 : (Int × Int)) => (W.bind (W.bind (W.pure y_s_2216) fun (y_l_2235 : List Int) => W.compC y_l_2235 (fun (y_i_2231 : Int) => (W.pure true)) (fun (y_i_2231 : Int) => (W.bind (W.bind (W.pure y_i_2231) fun (y_a_2232 : Int) => W.bind (W.pure y_s_2230.2) fun (y_b_2233 : Int) => W.pure (decide (y_a_2232 = y_b_2233))) fun (y_b_2234 : Bool) => W.ite y_b_2234 (W.pure y_s_2230.1) (W.pure y_i_2231)))) fun (y_home_2236 : (List Int)) => (W.pure y_home_2236)))) fun (y_s_2239 : (List Int)) => (W.bind (W.bind (W.bind (W.pure y_s_2239) fun (y_a_2241 : (List Int)) => W.chk (((fun (y_a_2240 : (List Int)) => y_a_2240) y_a_2241).length < 64) (W.setL ((fun (y_a_2240 : (List Int)) => y_a_2240) y_a_2241))) fun (y_l_2251 : List Int) => W.compC y_l_2251 (fun (y_i_2242 : Int) => (W.pure true)) (fun (y_i_2242 : Int) => (W.bind (W.bind (W.bind (W.pure y_persons) fun (y_n_2243 : Int) => W.range1 y_n_2243) fun (y_l_2249 : List Int) => W.compC y_l_2249 (fun (y_i_2244 : Int) => (W.bind (W.bind (W.pure y_s_2239) fun (y_a_2245 : (List Int)) => W.bind (W.pure y_i_2244) fun (y_b_2246 : Int) => W.at' y_a_2245 y_b_2246) fun (y_a_2247 : Int) => W.bind (W.pure y_i_2242) fun (y_b_2248 : Int) => W.pure (decide (y_a_2247 = y_b_2248)))) (fun (y_i_2244 : Int) => (W.pure y_i_2244))) fun (y_a_2250 : (List Int)) => W.pure y_a_2250))) fun (y_r_2252 : (List (List Int))) => (W.pure y_r_2252))))
def bridges_of_w (y_persons : Int) (y_pairs : (List (Int × Int))) : W (List (Int × Int)) :=
  (W.bind (W.bind (W.bind (W.pure y_persons) fun (y_a_2260 : Int) => W.bind (W.pure y_pairs) fun (y_a_2261 : (List (Int × Int))) => pieces_of_w y_a_2260 y_a_2261) fun (y_a_2262 : (List (List Int))) => W.pure (y_a_2262.length : Int)) fun (y_many_2263 : Int) => (W.bind (W.bind (W.pure y_pairs) fun (y_l_2274 : List (Int × Int)) => W.compC y_l_2274 (fun (y_i_2264 : (Int × Int)) => (W.bind (W.bind (W.bind (W.pure y_persons) fun (y_a_2269 : Int) => W.bind (W.bind (W.pure y_pairs) fun (y_l_2268 : List (Int × Int)) => W.compC y_l_2268 (fun (y_i_2265 : (Int × Int)) => (W.bind (W.pure y_i_2265) fun (y_a_2266 : (Int × Int)) => W.bind (W.pure y_i_2264) fun (y_b_2267 : (Int × Int)) => W.pure (!decide (y_a_2266 = y_b_2267)))) (fun (y_i_2265 : (Int × Int)) => (W.pure y_i_2265))) fun (y_a_2270 : (List (Int × Int))) => pieces_of_2_w y_a_2269 y_a_2270) fun (y_a_2271 : (List (List Int))) => W.pure (y_a_2271.length : Int)) fun (y_a_2272 : Int) => W.bind (W.pure y_many_2263) fun (y_b_2273 : Int) => W.pure (decide (y_b_2273 < y_a_2272)))) (fun (y_i_2264 : (Int × Int)) => (W.pure y_i_2264))) fun (y_r_2275 : (List (Int × Int))) => (W.pure y_r_2275)))
def bridges_w (y_web : (Unit × Int × (List (Int × Int)))) : W (List (Int × Int)) :=
  (W.bind (W.bind (W.pure y_web) fun (y_a_2279 : (Unit × Int × (List (Int × Int)))) => want_web_w y_a_2279) fun _ => (W.bind (W.bind (W.bind (W.bind (W.pure y_web) fun (y_a_2280 : (Unit × Int × (List (Int × Int)))) => W.pure y_a_2280.2.1) fun (y_a_2282 : Int) => W.bind (W.bind (W.pure y_web) fun (y_a_2281 : (Unit × Int × (List (Int × Int)))) => W.pure y_a_2281.2.2) fun (y_a_2283 : (List (Int × Int))) => bridges_of_w y_a_2282 y_a_2283) fun (y_a_2284 : (List (Int × Int))) => W.pure y_a_2284) fun (y_r_2285 : (List (Int × Int))) => (W.pure y_r_2285)))
def is_joined_value_w (y_value : (Unit × Int × (List (Int × Int)))) : W Bool :=
  (W.bind (W.bind (W.bind (W.pure y_value) fun (y_a_2362 : (Unit × Int × (List (Int × Int)))) => is_web_value_w y_a_2362) fun (y_b_2370 : Bool) => W.ite y_b_2370 (W.bind (W.bind (W.bind (W.bind (W.pure y_value) fun (y_a_2363 : (Unit × Int × (List (Int × Int)))) => W.pure y_a_2363.2.1) fun (y_a_2365 : Int) => W.bind (W.bind (W.pure y_value) fun (y_a_2364 : (Unit × Int × (List (Int × Int)))) => W.pure y_a_2364.2.2) fun (y_a_2366 : (List (Int × Int))) => pieces_of_w y_a_2365 y_a_2366) fun (y_a_2367 : (List (List Int))) => W.pure (y_a_2367.length : Int)) fun (y_a_2368 : Int) => W.bind (W.pure (1 : Int)) fun (y_b_2369 : Int) => W.pure (decide (y_a_2368 = y_b_2369))) (W.pure false)) fun (y_r_2371 : Bool) => (W.pure y_r_2371))
def is_firm_value_w (y_value : (Unit × Int × (List (Int × Int)))) : W Bool :=
  (W.bind (W.bind (W.bind (W.pure y_value) fun (y_a_2380 : (Unit × Int × (List (Int × Int)))) => is_joined_value_w y_a_2380) fun (y_b_2387 : Bool) => W.ite y_b_2387 (W.bind (W.bind (W.bind (W.pure y_value) fun (y_a_2381 : (Unit × Int × (List (Int × Int)))) => W.pure y_a_2381.2.1) fun (y_a_2383 : Int) => W.bind (W.bind (W.pure y_value) fun (y_a_2382 : (Unit × Int × (List (Int × Int)))) => W.pure y_a_2382.2.2) fun (y_a_2384 : (List (Int × Int))) => bridges_of_w y_a_2383 y_a_2384) fun (y_a_2385 : (List (Int × Int))) => W.bind (W.pure []) fun (y_b_2386 : (List (Int × Int))) => W.pure (decide (y_a_2385 = y_b_2386))) (W.pure false)) fun (y_r_2388 : Bool) => (W.pure y_r_2388))
def is_firm_w (y_value : (Unit × Int × (List (Int × Int)))) : W Bool :=
  (W.bind (W.bind (W.pure y_value) fun (y_a_2390 : (Unit × Int × (List (Int × Int)))) => is_firm_value_w y_a_2390) fun (y_r_2391 : Bool) => (W.pure y_r_2391))
def _law_pick_2_w (y_pot : Unit) (y_some : (List (Unit × Int × (List (Int × Int))))) : W (Unit × Int × (List (Int × Int))) :=
  (W.bind (W.bind (W.pure y_some) fun (y_a_2444 : (List (Unit × Int × (List (Int × Int))))) => W.bind (W.bind (W.pure ()) fun (y_a_2442 : Unit) => W.bind (W.bind (W.pure y_some) fun (y_a_2441 : (List (Unit × Int × (List (Int × Int))))) => W.pure (y_a_2441.length : Int)) fun (y_a_2443 : Int) => _law_draw_w y_a_2442 y_a_2443) fun (y_b_2445 : Int) => W.at' y_a_2444 y_b_2445) fun (y_r_2446 : (Unit × Int × (List (Int × Int)))) => (W.pure y_r_2446))
def _law_pick_3_w (y_pot : Unit) (y_some : (List PyData)) : W PyData :=
  (W.bind (W.bind (W.pure y_some) fun (y_a_2718 : (List PyData)) => W.bind (W.bind (W.pure ()) fun (y_a_2716 : Unit) => W.bind (W.bind (W.pure y_some) fun (y_a_2715 : (List PyData)) => W.pure (y_a_2715.length : Int)) fun (y_a_2717 : Int) => _law_draw_w y_a_2716 y_a_2717) fun (y_b_2719 : Int) => W.at' y_a_2718 y_b_2719) fun (y_r_2720 : PyData) => (W.pure y_r_2720))
def _law_bent_w (y_pot : Unit) (y_value : (Unit × Int × (List (Int × Int)))) : W PyData :=
  (W.bind (W.bind (W.pure []) fun (y_t_3327 : (List (PyData × Int))) => W.bind (W.pure y_value) fun (y_t_3328 : (Unit × Int × (List (Int × Int)))) => (W.pure (y_t_3327, y_t_3328))) fun (y_s_2922 : ((List (PyData × Int)) × (Unit × Int × (List (Int × Int))))) => (W.bind (W.whileS (y_s_2922.1, ((eP3 (eW "web") eI (eT (eP2 eI eI))) y_s_2922.2)) (fun (y_s_2994 : ((List (PyData × Int)) × PyData)) => (W.bind (W.bind (W.pure y_s_2994.2) fun (y_a_2995 : PyData) => W.pure (PyData.isTuple y_a_2995)) fun (y_b_3008 : Bool) => W.ite y_b_3008 (W.bind (W.bind (W.bind (W.pure y_s_2994.2) fun (y_a_2996 : PyData) => W.bind (W.get (W.seqA y_a_2996)) fun xs => W.pure (xs.length : Int)) fun (y_a_2997 : Int) => W.bind (W.pure (0 : Int)) fun (y_b_2998 : Int) => W.pure (decide (y_b_2998 < y_a_2997))) fun (y_b_3007 : Bool) => W.ite y_b_3007 (W.bind (W.bind (W.bind (W.pure y_s_2994.1) fun (y_a_2999 : (List (PyData × Int))) => W.pure (y_a_2999.length : Int)) fun (y_a_3000 : Int) => W.bind (W.pure (4 : Int)) fun (y_b_3001 : Int) => W.pure (decide (y_a_3000 < y_b_3001))) fun (y_b_3006 : Bool) => W.ite y_b_3006 (W.bind (W.bind (W.pure ()) fun (y_a_3002 : Unit) => W.bind (W.pure (5 : Int)) fun (y_a_3003 : Int) => _law_draw_w y_a_3002 y_a_3003) fun (y_a_3004 : Int) => W.bind (W.pure (0 : Int)) fun (y_b_3005 : Int) => W.pure (decide (y_b_3005 < y_a_3004))) (W.pure false)) (W.pure false)) (W.pure false))) (fun (y_s_2994 : ((List (PyData × Int)) × PyData)) => (W.bind (W.bind (W.pure y_s_2994.2) fun (y_t_3013 : PyData) => W.bind (W.bind (W.pure ()) fun (y_a_3011 : Unit) => W.bind (W.bind (W.pure y_s_2994.2) fun (y_a_3010 : PyData) => W.bind (W.get (W.seqA y_a_3010)) fun xs => W.pure (xs.length : Int)) fun (y_a_3012 : Int) => _law_draw_w y_a_3011 y_a_3012) fun (y_t_3014 : Int) => (W.pure (y_t_3013, y_t_3014))) fun (y_a_3016 : (PyData × Int)) => W.bind (W.app y_s_2994.1 y_a_3016) fun (y_spots_3015 : (List (PyData × Int))) => (W.bind (W.bind (W.pure y_s_2994.2) fun (y_a_3027 : PyData) => W.bind (W.bind (W.bind (W.pure y_spots_3015) fun (y_a_3024 : (List (PyData × Int))) => W.bind (W.bind (W.pure (1 : Int)) fun (y_a_3023 : Int) => W.pure (-y_a_3023)) fun (y_b_3025 : Int) => W.at' y_a_3024 y_b_3025) fun (y_a_3026 : (PyData × Int)) => W.pure y_a_3026.2) fun (y_b_3028 : Int) => W.bind (W.get (W.seqA y_a_3027)) fun xs => W.at' xs y_b_3028) fun (y_here_3029 : PyData) => (W.pure (y_spots_3015, y_here_3029)))))) fun (y_s_3030 : ((List (PyData × Int)) × PyData)) => (W.bind (W.bind (W.pure ()) fun (y_a_3031 : Unit) => W.bind (W.pure (8 : Int)) fun (y_a_3032 : Int) => _law_draw_w y_a_3031 y_a_3032) fun (y_way_3033 : Int) => (W.bind (W.bind (W.bind (W.pure y_s_3030.2) fun (y_a_3034 : PyData) => W.pure (PyData.isTuple y_a_3034)) fun (y_b_3041 : Bool) => W.ite y_b_3041 (W.bind (W.bind (W.bind (W.pure y_s_3030.2) fun (y_a_3035 : PyData) => W.bind (W.get (W.seqA y_a_3035)) fun xs => W.pure (xs.length : Int)) fun (y_a_3036 : Int) => W.bind (W.pure (0 : Int)) fun (y_b_3037 : Int) => W.pure (decide (y_b_3037 < y_a_3036))) fun (y_b_3040 : Bool) => W.ite y_b_3040 (W.bind (W.pure y_way_3033) fun (y_a_3038 : Int) => W.bind (W.pure (4 : Int)) fun (y_b_3039 : Int) => W.pure (decide (y_a_3038 < y_b_3039))) (W.pure false)) (W.pure false)) fun (y_b_3042 : Bool) => W.bind (W.ite y_b_3042 (W.bind (W.bind (W.pure ()) fun (y_a_3164 : Unit) => W.bind (W.bind (W.pure y_s_3030.2) fun (y_a_3163 : PyData) => W.bind (W.get (W.seqA y_a_3163)) fun xs => W.pure (xs.length : Int)) fun (y_a_3165 : Int) => _law_draw_w y_a_3164 y_a_3165) fun (y_at_3166 : Int) => (W.bind (W.bind (W.bind (W.bind (W.bind (W.bind (W.bind (W.pure y_s_3030.2) fun (y_a_3167 : PyData) => W.get ((W.anyT (fun a => some ((fun a => a) a))) y_a_3167)) fun (y_a_3169 : (List PyData)) => W.bind (W.pure none) fun (y_l_3170 : Option Int) => W.bind (W.bind (W.pure y_at_3166) fun (y_k_3168 : Int) => W.pure (some y_k_3168)) fun (y_h_3171 : Option Int) => W.pure (W.cut y_a_3169 y_l_3170 y_h_3171)) fun (y_a_3179 : (List PyData)) => W.bind (W.bind (W.bind (W.pure y_s_3030.2) fun (y_a_3172 : PyData) => W.get ((W.anyT (fun a => some ((fun a => a) a))) y_a_3172)) fun (y_a_3176 : (List PyData)) => W.bind (W.bind (W.bind (W.pure y_at_3166) fun (y_a_3173 : Int) => W.bind (W.pure (1 : Int)) fun (y_b_3174 : Int) => W.pure (y_a_3173 + y_b_3174)) fun (y_k_3175 : Int) => W.pure (some y_k_3175)) fun (y_l_3177 : Option Int) => W.bind (W.pure none) fun (y_h_3178 : Option Int) => W.pure (W.cut y_a_3176 y_l_3177 y_h_3178)) fun (y_b_3180 : (List PyData)) => W.chk (y_a_3179.length + y_b_3180.length ≤ 1000000) (y_a_3179 ++ y_b_3180)) fun (y_a_3199 : (List PyData)) => W.pure ((eT eA) y_a_3199)) fun (y_a_3209 : PyData) => W.bind (W.bind (W.bind (W.bind (W.bind (W.bind (W.pure y_s_3030.2) fun (y_a_3181 : PyData) => W.get ((W.anyT (fun a => some ((fun a => a) a))) y_a_3181)) fun (y_a_3185 : (List PyData)) => W.bind (W.pure none) fun (y_l_3186 : Option Int) => W.bind (W.bind (W.bind (W.pure y_at_3166) fun (y_a_3182 : Int) => W.bind (W.pure (1 : Int)) fun (y_b_3183 : Int) => W.pure (y_a_3182 + y_b_3183)) fun (y_k_3184 : Int) => W.pure (some y_k_3184)) fun (y_h_3187 : Option Int) => W.pure (W.cut y_a_3185 y_l_3186 y_h_3187)) fun (y_a_3193 : (List PyData)) => W.bind (W.bind (W.bind (W.pure y_s_3030.2) fun (y_a_3188 : PyData) => W.get ((W.anyT (fun a => some ((fun a => a) a))) y_a_3188)) fun (y_a_3190 : (List PyData)) => W.bind (W.bind (W.pure y_at_3166) fun (y_k_3189 : Int) => W.pure (some y_k_3189)) fun (y_l_3191 : Option Int) => W.bind (W.pure none) fun (y_h_3192 : Option Int) => W.pure (W.cut y_a_3190 y_l_3191 y_h_3192)) fun (y_b_3194 : (List PyData)) => W.chk (y_a_3193.length + y_b_3194.length ≤ 1000000) (y_a_3193 ++ y_b_3194)) fun (y_a_3200 : (List PyData)) => W.pure ((eT eA) y_a_3200)) fun (y_a_3207 : PyData) => W.bind (W.bind (W.bind (W.bind (W.bind (W.pure y_s_3030.2) fun (y_a_3195 : PyData) => W.get ((W.anyT (fun a => some ((fun a => a) a))) y_a_3195)) fun (y_a_3196 : (List PyData)) => W.pure y_a_3196.reverse) fun (y_a_3201 : (List PyData)) => W.pure ((eT eA) y_a_3201)) fun (y_a_3205 : PyData) => W.bind (W.bind (W.bind (W.bind (W.bind (W.pure y_s_3030.2) fun (y_a_3197 : PyData) => W.get ((W.anyT (fun a => some ((fun a => a) a))) y_a_3197)) fun (y_a_3198 : (List PyData)) => W.pure y_a_3198) fun (y_a_3202 : (List PyData)) => W.pure ((eL eA) y_a_3202)) fun (y_a_3203 : PyData) => W.bind (W.pure []) fun (y_as_3204 : List PyData) => W.pure (y_a_3203 :: y_as_3204)) fun (y_as_3206 : List PyData) => W.pure (y_a_3205 :: y_as_3206)) fun (y_as_3208 : List PyData) => W.pure (y_a_3207 :: y_as_3208)) fun (y_as_3210 : List PyData) => W.pure (y_a_3209 :: y_as_3210)) fun (y_a_3211 : (List PyData)) => W.bind (W.pure y_way_3033) fun (y_b_3212 : Int) => W.at' y_a_3211 y_b_3212) fun (y_here_3213 : PyData) => (W.pure y_here_3213))) (W.bind (W.bind (W.pure y_s_3030.2) fun (y_a_3214 : PyData) => W.pure (PyData.isInt y_a_3214)) fun (y_b_3215 : Bool) => W.ite y_b_3215 (W.bind (W.bind (W.pure ()) fun (y_a_3247 : Unit) => W.bind (W.bind (W.bind (W.bind (W.bind (W.pure y_s_3030.2) fun (y_a_3216 : PyData) => W.get (W.anyI y_a_3216)) fun (y_a_3217 : Int) => W.bind (W.pure (1 : Int)) fun (y_b_3218 : Int) => W.pure (y_a_3217 + y_b_3218)) fun (y_a_3223 : Int) => W.pure (eI y_a_3223)) fun (y_a_3245 : PyData) => W.bind (W.bind (W.bind (W.bind (W.bind (W.pure y_s_3030.2) fun (y_a_3219 : PyData) => W.get (W.anyI y_a_3219)) fun (y_a_3220 : Int) => W.bind (W.pure (1 : Int)) fun (y_b_3221 : Int) => W.pure (y_a_3220 - y_b_3221)) fun (y_a_3224 : Int) => W.pure (eI y_a_3224)) fun (y_a_3243 : PyData) => W.bind (W.bind (W.bind (W.pure true) fun (y_a_3225 : Bool) => W.pure (eB y_a_3225)) fun (y_a_3241 : PyData) => W.bind (W.bind (W.bind (W.pure ()) fun (y_a_3226 : Unit) => W.pure (eU y_a_3226)) fun (y_a_3239 : PyData) => W.bind (W.bind (W.bind (W.pure (0 : Int)) fun (y_a_3227 : Int) => W.pure (eI y_a_3227)) fun (y_a_3237 : PyData) => W.bind (W.bind (W.bind (W.pure (11 : Int)) fun (y_a_3228 : Int) => W.pure (eI y_a_3228)) fun (y_a_3235 : PyData) => W.bind (W.bind (W.bind (W.pure y_s_3030.2) fun (y_a_3229 : PyData) => W.pure ((eP1 eA) y_a_3229)) fun (y_a_3233 : PyData) => W.bind (W.bind (W.bind (W.pure ()) fun (y_a_3230 : Unit) => W.pure ((eW "1") y_a_3230)) fun (y_a_3231 : PyData) => W.bind (W.pure []) fun (y_as_3232 : List PyData) => W.pure (y_a_3231 :: y_as_3232)) fun (y_as_3234 : List PyData) => W.pure (y_a_3233 :: y_as_3234)) fun (y_as_3236 : List PyData) => W.pure (y_a_3235 :: y_as_3236)) fun (y_as_3238 : List PyData) => W.pure (y_a_3237 :: y_as_3238)) fun (y_as_3240 : List PyData) => W.pure (y_a_3239 :: y_as_3240)) fun (y_as_3242 : List PyData) => W.pure (y_a_3241 :: y_as_3242)) fun (y_as_3244 : List PyData) => W.pure (y_a_3243 :: y_as_3244)) fun (y_as_3246 : List PyData) => W.pure (y_a_3245 :: y_as_3246)) fun (y_a_3248 : (List PyData)) => _law_pick_3_w y_a_3247 y_a_3248) fun (y_here_3249 : PyData) => (W.pure y_here_3249)) (W.bind (W.bind (W.pure ()) fun (y_a_3279 : Unit) => W.bind (W.bind (W.bind (W.pure ()) fun (y_a_3252 : Unit) => W.pure (eU y_a_3252)) fun (y_a_3277 : PyData) => W.bind (W.bind (W.bind (W.pure (0 : Int)) fun (y_a_3253 : Int) => W.pure (eI y_a_3253)) fun (y_a_3275 : PyData) => W.bind (W.bind (W.bind (W.pure []) fun (y_a_3254 : (List Int)) => W.pure ((eT eI) y_a_3254)) fun (y_a_3273 : PyData) => W.bind (W.bind (W.bind (W.pure []) fun (y_a_3255 : (List Int)) => W.pure ((eL eI) y_a_3255)) fun (y_a_3271 : PyData) => W.bind (W.bind (W.bind (W.pure ()) fun (y_a_3256 : Unit) => W.pure ((eW "web") y_a_3256)) fun (y_a_3269 : PyData) => W.bind (W.bind (W.bind (W.pure ()) fun (y_a_3257 : Unit) => W.pure ((eW "Web") y_a_3257)) fun (y_a_3267 : PyData) => W.bind (W.bind (W.bind (W.pure ()) fun (y_a_3258 : Unit) => W.pure (eD y_a_3258)) fun (y_a_3265 : PyData) => W.bind (W.bind (W.bind (W.bind (W.pure (0 : Int)) fun (y_t_3250 : Int) => W.bind (W.pure (1 : Int)) fun (y_t_3251 : Int) => (W.pure (y_t_3250, y_t_3251))) fun (y_a_3259 : (Int × Int)) => W.pure ((eP2 eI eI) y_a_3259)) fun (y_a_3263 : PyData) => W.bind (W.bind (W.bind (W.pure ()) fun (y_a_3260 : Unit) => W.pure ((eW "odd") y_a_3260)) fun (y_a_3261 : PyData) => W.bind (W.pure []) fun (y_as_3262 : List PyData) => W.pure (y_a_3261 :: y_as_3262)) fun (y_as_3264 : List PyData) => W.pure (y_a_3263 :: y_as_3264)) fun (y_as_3266 : List PyData) => W.pure (y_a_3265 :: y_as_3266)) fun (y_as_3268 : List PyData) => W.pure (y_a_3267 :: y_as_3268)) fun (y_as_3270 : List PyData) => W.pure (y_a_3269 :: y_as_3270)) fun (y_as_3272 : List PyData) => W.pure (y_a_3271 :: y_as_3272)) fun (y_as_3274 : List PyData) => W.pure (y_a_3273 :: y_as_3274)) fun (y_as_3276 : List PyData) => W.pure (y_a_3275 :: y_as_3276)) fun (y_as_3278 : List PyData) => W.pure (y_a_3277 :: y_as_3278)) fun (y_a_3280 : (List PyData)) => _law_pick_3_w y_a_3279 y_a_3280) fun (y_here_3281 : PyData) => (W.pure y_here_3281)))) fun (y_s_3162 : PyData) => (W.bind (W.bind (W.pure y_s_3030.1) fun (y_a_3282 : (List (PyData × Int))) => W.pure y_a_3282.reverse) fun (y_l_3326 : List (PyData × Int)) => W.bind (W.forS y_l_3326 y_s_3162 fun (y_i_3283 : (PyData × Int)) (y_s_3303 : PyData) => (W.bind (W.bind (W.bind (W.bind (W.bind (W.pure (y_i_3283.1)) fun (y_a_3305 : PyData) => W.get ((W.anyT (fun a => some ((fun a => a) a))) y_a_3305)) fun (y_a_3307 : (List PyData)) => W.bind (W.pure none) fun (y_l_3308 : Option Int) => W.bind (W.bind (W.pure (y_i_3283.2)) fun (y_k_3306 : Int) => W.pure (some y_k_3306)) fun (y_h_3309 : Option Int) => W.pure (W.cut y_a_3307 y_l_3308 y_h_3309)) fun (y_a_3312 : (List PyData)) => W.bind (W.bind (W.pure y_s_3303) fun (y_a_3310 : PyData) => W.bind (W.pure []) fun (y_as_3311 : List PyData) => W.pure (y_a_3310 :: y_as_3311)) fun (y_b_3313 : (List PyData)) => W.chk (y_a_3312.length + y_b_3313.length ≤ 1000000) (y_a_3312 ++ y_b_3313)) fun (y_a_3321 : (List PyData)) => W.bind (W.bind (W.bind (W.pure (y_i_3283.1)) fun (y_a_3314 : PyData) => W.get ((W.anyT (fun a => some ((fun a => a) a))) y_a_3314)) fun (y_a_3318 : (List PyData)) => W.bind (W.bind (W.bind (W.pure (y_i_3283.2)) fun (y_a_3315 : Int) => W.bind (W.pure (1 : Int)) fun (y_b_3316 : Int) => W.pure (y_a_3315 + y_b_3316)) fun (y_k_3317 : Int) => W.pure (some y_k_3317)) fun (y_l_3319 : Option Int) => W.bind (W.pure none) fun (y_h_3320 : Option Int) => W.pure (W.cut y_a_3318 y_l_3319 y_h_3320)) fun (y_b_3322 : (List PyData)) => W.chk (y_a_3321.length + y_b_3322.length ≤ 1000000) (y_a_3321 ++ y_b_3322)) fun (y_here_3323 : (List PyData)) => (W.pure ((eT eA) y_here_3323)))) fun (y_s_3324 : PyData) => (W.bind (W.pure y_s_3324) fun (y_r_3325 : PyData) => (W.pure y_r_3325)))))))
def _law_is_whole_w (y_value : PyData) (y_least : Int) (y_most : Int) : W Bool :=
  (W.bind (W.bind (W.bind (W.pure y_value) fun (y_a_3373 : PyData) => W.pure (PyData.isInt y_a_3373)) fun (y_b_3382 : Bool) => W.ite y_b_3382 (W.bind (W.bind (W.bind (W.pure y_value) fun (y_a_3374 : PyData) => W.pure (PyData.isBool y_a_3374)) fun (y_a_3375 : Bool) => W.pure (!y_a_3375)) fun (y_b_3381 : Bool) => W.ite y_b_3381 (W.bind (W.pure y_least) fun (y_a_3377 : Int) => W.bind (W.bind (W.pure y_value) fun (y_a_3376 : PyData) => W.get (W.anyI y_a_3376)) fun (y_b_3378 : Int) => W.bind (W.pure (decide (y_a_3377 ≤ y_b_3378))) fun (y_k_3379 : Bool) => W.ite y_k_3379 (W.bind (W.pure y_most) fun (y_c_3380 : Int) => W.pure (decide (y_b_3378 ≤ y_c_3380))) (W.pure false)) (W.pure false)) (W.pure false)) fun (y_r_3383 : Bool) => (W.pure y_r_3383))
def _law_is_web_w (y_value : PyData) : W Bool :=
  (W.bind (W.bind (W.bind (W.bind (W.pure y_value) fun (y_a_3474 : PyData) => W.pure (PyData.isTuple y_a_3474)) fun (y_b_3475 : Bool) => W.pure (!y_b_3475)) fun (y_b_3490 : Bool) => W.ite y_b_3490 (W.pure true) (W.bind (W.bind (W.bind (W.pure y_value) fun (y_a_3476 : PyData) => W.bind (W.get (W.seqA y_a_3476)) fun xs => W.pure (xs.length : Int)) fun (y_a_3477 : Int) => W.bind (W.pure (3 : Int)) fun (y_b_3478 : Int) => W.pure (!decide (y_a_3477 = y_b_3478))) fun (y_b_3489 : Bool) => W.ite y_b_3489 (W.pure true) (W.bind (W.bind (W.bind (W.bind (W.pure y_value) fun (y_a_3479 : PyData) => W.bind (W.pure (0 : Int)) fun (y_b_3480 : Int) => W.bind (W.get (W.seqA y_a_3479)) fun xs => W.at' xs y_b_3480) fun (y_a_3481 : PyData) => W.pure (PyData.isStr y_a_3481)) fun (y_b_3482 : Bool) => W.pure (!y_b_3482)) fun (y_b_3488 : Bool) => W.ite y_b_3488 (W.pure true) (W.bind (W.bind (W.pure y_value) fun (y_a_3483 : PyData) => W.bind (W.pure (0 : Int)) fun (y_b_3484 : Int) => W.bind (W.get (W.seqA y_a_3483)) fun xs => W.at' xs y_b_3484) fun (y_a_3486 : PyData) => W.bind (W.bind (W.pure ()) fun (y_a_3485 : Unit) => W.pure ((eW "web") y_a_3485)) fun (y_b_3487 : PyData) => W.chk (Flat y_a_3486 ∧ Flat y_b_3487) (!PyData.eqv y_a_3486 y_b_3487))))) fun (y_b_3491 : Bool) => W.ite y_b_3491 (W.bind (W.pure false) fun (y_r_3492 : Bool) => (W.pure y_r_3492)) (W.bind (W.bind (W.bind (W.bind (W.bind (W.pure y_value) fun (y_a_3493 : PyData) => W.bind (W.pure (1 : Int)) fun (y_b_3494 : Int) => W.bind (W.get (W.seqA y_a_3493)) fun xs => W.at' xs y_b_3494) fun (y_a_3495 : PyData) => W.bind (W.pure (1 : Int)) fun (y_a_3496 : Int) => W.bind (W.pure (10 : Int)) fun (y_a_3497 : Int) => _law_is_whole_w y_a_3495 y_a_3496 y_a_3497) fun (y_b_3498 : Bool) => W.pure (!y_b_3498)) fun (y_b_3503 : Bool) => W.ite y_b_3503 (W.pure true) (W.bind (W.bind (W.bind (W.pure y_value) fun (y_a_3499 : PyData) => W.bind (W.pure (2 : Int)) fun (y_b_3500 : Int) => W.bind (W.get (W.seqA y_a_3499)) fun xs => W.at' xs y_b_3500) fun (y_a_3501 : PyData) => W.pure (PyData.isTuple y_a_3501)) fun (y_b_3502 : Bool) => W.pure (!y_b_3502))) fun (y_b_3504 : Bool) => W.ite y_b_3504 (W.bind (W.pure false) fun (y_r_3505 : Bool) => (W.pure y_r_3505)) (W.bind (W.bind (W.bind (W.pure y_value) fun (y_a_3506 : PyData) => W.bind (W.pure (2 : Int)) fun (y_b_3507 : Int) => W.bind (W.get (W.seqA y_a_3506)) fun xs => W.at' xs y_b_3507) fun (y_a_3508 : PyData) => W.get ((W.anyT (fun a => some ((fun a => a) a))) y_a_3508)) fun (y_l_3588 : List PyData) => W.thenF (W.forF y_l_3588 () fun (y_i_3509 : PyData) (y_s_3532 : Unit) => (W.bind (W.bind (W.bind (W.bind (W.pure y_i_3509) fun (y_a_3534 : PyData) => W.pure (PyData.isTuple y_a_3534)) fun (y_b_3535 : Bool) => W.pure (!y_b_3535)) fun (y_b_3553 : Bool) => W.ite y_b_3553 (W.pure true) (W.bind (W.bind (W.bind (W.pure y_i_3509) fun (y_a_3536 : PyData) => W.bind (W.get (W.seqA y_a_3536)) fun xs => W.pure (xs.length : Int)) fun (y_a_3537 : Int) => W.bind (W.pure (2 : Int)) fun (y_b_3538 : Int) => W.pure (!decide (y_a_3537 = y_b_3538))) fun (y_b_3552 : Bool) => W.ite y_b_3552 (W.pure true) (W.bind (W.bind (W.bind (W.bind (W.pure y_i_3509) fun (y_a_3539 : PyData) => W.get ((W.anyT (fun a => some ((fun a => a) a))) y_a_3539)) fun (y_l_3549 : List PyData) => W.compC y_l_3549 (fun (y_i_3540 : PyData) => (W.pure true)) (fun (y_i_3540 : PyData) => (W.bind (W.pure y_i_3540) fun (y_a_3546 : PyData) => W.bind (W.pure (0 : Int)) fun (y_a_3547 : Int) => W.bind (W.bind (W.bind (W.bind (W.pure y_value) fun (y_a_3541 : PyData) => W.bind (W.pure (1 : Int)) fun (y_b_3542 : Int) => W.bind (W.get (W.seqA y_a_3541)) fun xs => W.at' xs y_b_3542) fun (y_a_3543 : PyData) => W.get (W.anyI y_a_3543)) fun (y_a_3544 : Int) => W.bind (W.pure (1 : Int)) fun (y_b_3545 : Int) => W.pure (y_a_3544 - y_b_3545)) fun (y_a_3548 : Int) => _law_is_whole_w y_a_3546 y_a_3547 y_a_3548))) fun (y_a_3550 : (List Bool)) => W.pure (y_a_3550.all id)) fun (y_b_3551 : Bool) => W.pure (!y_b_3551)))) fun (y_b_3554 : Bool) => W.ite y_b_3554 (W.bind (W.pure false) fun (y_r_3555 : Bool) => (W.pure (W.Fl.rt y_r_3555))) (W.pure (W.Fl.nx ())))) (fun (y_s_3556 : Unit) => (W.bind (W.bind (W.bind (W.bind (W.bind (W.bind (W.pure y_value) fun (y_a_3557 : PyData) => W.bind (W.pure (2 : Int)) fun (y_b_3558 : Int) => W.bind (W.get (W.seqA y_a_3557)) fun xs => W.at' xs y_b_3558) fun (y_a_3559 : PyData) => W.get ((W.anyT (fun a => some ((fun a => a) a))) y_a_3559)) fun (y_l_3567 : List PyData) => W.compC y_l_3567 (fun (y_i_3560 : PyData) => (W.pure true)) (fun (y_i_3560 : PyData) => (W.bind (W.bind (W.pure y_i_3560) fun (y_a_3561 : PyData) => W.bind (W.pure (0 : Int)) fun (y_b_3562 : Int) => W.bind (W.get (W.seqA y_a_3561)) fun xs => W.at' xs y_b_3562) fun (y_a_3565 : PyData) => W.bind (W.bind (W.pure y_i_3560) fun (y_a_3563 : PyData) => W.bind (W.pure (1 : Int)) fun (y_b_3564 : Int) => W.bind (W.get (W.seqA y_a_3563)) fun xs => W.at' xs y_b_3564) fun (y_b_3566 : PyData) => W.chk (CmpA y_a_3565 y_b_3566) (PySem.W.dataLt y_a_3565 y_b_3566)))) fun (y_a_3568 : (List Bool)) => W.pure (y_a_3568.all id)) fun (y_b_3586 : Bool) => W.ite y_b_3586 (W.bind (W.bind (W.bind (W.bind (W.bind (W.pure y_value) fun (y_a_3569 : PyData) => W.bind (W.pure (2 : Int)) fun (y_b_3570 : Int) => W.bind (W.get (W.seqA y_a_3569)) fun xs => W.at' xs y_b_3570) fun (y_a_3571 : PyData) => W.get ((W.anyT (fun a => some ((fun a => a) a))) y_a_3571)) fun (y_a_3579 : (List PyData)) => W.bind (W.bind (W.bind (W.bind (W.pure y_value) fun (y_a_3572 : PyData) => W.bind (W.pure (2 : Int)) fun (y_b_3573 : Int) => W.bind (W.get (W.seqA y_a_3572)) fun xs => W.at' xs y_b_3573) fun (y_a_3574 : PyData) => W.get ((W.anyT (fun a => some ((fun a => a) a))) y_a_3574)) fun (y_a_3576 : (List PyData)) => W.bind (W.bind (W.pure (1 : Int)) fun (y_k_3575 : Int) => W.pure (some y_k_3575)) fun (y_l_3577 : Option Int) => W.bind (W.pure none) fun (y_h_3578 : Option Int) => W.pure (W.cut y_a_3576 y_l_3577 y_h_3578)) fun (y_b_3580 : (List PyData)) => W.pure (y_a_3579.zip y_b_3580)) fun (y_l_3584 : List (PyData × PyData)) => W.compC y_l_3584 (fun (y_i_3581 : (PyData × PyData)) => (W.pure true)) (fun (y_i_3581 : (PyData × PyData)) => (W.bind (W.pure (y_i_3581.1)) fun (y_a_3582 : PyData) => W.bind (W.pure (y_i_3581.2)) fun (y_b_3583 : PyData) => W.chk (CmpA y_a_3582 y_b_3583) (PySem.W.dataLt y_a_3582 y_b_3583)))) fun (y_a_3585 : (List Bool)) => W.pure (y_a_3585.all id)) (W.pure false)) fun (y_r_3587 : Bool) => (W.pure y_r_3587))) (fun (r : Bool) => r))))
def _law_is_joined_w (y_value : PyData) : W Bool :=
  (W.bind (W.bind (W.bind (W.pure y_value) fun (y_a_3602 : PyData) => _law_is_web_w y_a_3602) fun (y_b_3614 : Bool) => W.ite y_b_3614 (W.bind (W.bind (W.bind (W.bind (W.bind (W.pure y_value) fun (y_a_3603 : PyData) => W.bind (W.pure (1 : Int)) fun (y_b_3604 : Int) => W.bind (W.get (W.seqA y_a_3603)) fun xs => W.at' xs y_b_3604) fun (y_a_3607 : PyData) => W.get (W.anyI y_a_3607)) fun (y_a_3609 : Int) => W.bind (W.bind (W.bind (W.pure y_value) fun (y_a_3605 : PyData) => W.bind (W.pure (2 : Int)) fun (y_b_3606 : Int) => W.bind (W.get (W.seqA y_a_3605)) fun xs => W.at' xs y_b_3606) fun (y_a_3608 : PyData) => W.get ((W.anyT (W.anyP (W.two W.anyI W.anyI))) y_a_3608)) fun (y_a_3610 : (List (Int × Int))) => _law_pieces_2_w y_a_3609 y_a_3610) fun (y_a_3611 : (List (List Int))) => W.pure (y_a_3611.length : Int)) fun (y_a_3612 : Int) => W.bind (W.pure (1 : Int)) fun (y_b_3613 : Int) => W.pure (decide (y_a_3612 = y_b_3613))) (W.pure false)) fun (y_r_3615 : Bool) => (W.pure y_r_3615))
def _law_is_firm_w (y_value : PyData) : W Bool :=
  (W.bind (W.bind (W.bind (W.pure y_value) fun (y_a_3630 : PyData) => _law_is_joined_w y_a_3630) fun (y_b_3642 : Bool) => W.ite y_b_3642 (W.bind (W.bind (W.bind (W.bind (W.bind (W.pure y_value) fun (y_a_3631 : PyData) => W.bind (W.pure (2 : Int)) fun (y_b_3632 : Int) => W.bind (W.get (W.seqA y_a_3631)) fun xs => W.at' xs y_b_3632) fun (y_a_3633 : PyData) => W.get ((W.anyT (fun a => some ((fun a => a) a))) y_a_3633)) fun (y_l_3639 : List PyData) => W.compC y_l_3639 (fun (y_i_3634 : PyData) => (W.pure true)) (fun (y_i_3634 : PyData) => (W.bind (W.bind (W.pure y_value) fun (y_a_3635 : PyData) => W.get ((W.anyP (W.three (W.anyW "web") W.anyI (W.anyT (W.anyP (W.two W.anyI W.anyI))))) y_a_3635)) fun (y_a_3637 : (Unit × Int × (List (Int × Int)))) => W.bind (W.bind (W.pure y_i_3634) fun (y_a_3636 : PyData) => W.get ((W.anyP (W.two W.anyI W.anyI)) y_a_3636)) fun (y_a_3638 : (Int × Int)) => _law_is_bridge_w y_a_3637 y_a_3638))) fun (y_a_3640 : (List Bool)) => W.pure (y_a_3640.any id)) fun (y_a_3641 : Bool) => W.pure (!y_a_3641)) (W.pure false)) fun (y_r_3643 : Bool) => (W.pure y_r_3643))
def is_tuple_3_w (y_value : PyData) (y_many : Int) : W Bool :=
  (W.bind (W.bind (W.bind (W.pure y_value) fun (y_a_3656 : PyData) => W.pure (PyData.isTuple y_a_3656)) fun (y_b_3660 : Bool) => W.ite y_b_3660 (W.bind (W.bind (W.pure y_value) fun (y_a_3657 : PyData) => W.bind (W.get (W.seqA y_a_3657)) fun xs => W.pure (xs.length : Int)) fun (y_a_3658 : Int) => W.bind (W.pure y_many) fun (y_b_3659 : Int) => W.pure (decide (y_a_3658 = y_b_3659))) (W.pure false)) fun (y_r_3661 : Bool) => (W.pure y_r_3661))
def is_integer_2_w (y_value : PyData) : W Bool :=
  (W.bind (W.bind (W.bind (W.pure y_value) fun (y_a_3683 : PyData) => W.pure (PyData.isInt y_a_3683)) fun (y_b_3686 : Bool) => W.ite y_b_3686 (W.bind (W.bind (W.pure y_value) fun (y_a_3684 : PyData) => W.pure (PyData.isBool y_a_3684)) fun (y_a_3685 : Bool) => W.pure (!y_a_3685)) (W.pure false)) fun (y_r_3687 : Bool) => (W.pure y_r_3687))
def is_within_2_w (y_value : PyData) (y_least : Int) (y_most : Int) : W Bool :=
  (W.bind (W.bind (W.bind (W.pure y_value) fun (y_a_3695 : PyData) => is_integer_2_w y_a_3695) fun (y_b_3701 : Bool) => W.ite y_b_3701 (W.bind (W.pure y_least) fun (y_a_3697 : Int) => W.bind (W.bind (W.pure y_value) fun (y_a_3696 : PyData) => W.get (W.anyI y_a_3696)) fun (y_b_3698 : Int) => W.bind (W.pure (decide (y_a_3697 ≤ y_b_3698))) fun (y_k_3699 : Bool) => W.ite y_k_3699 (W.bind (W.pure y_most) fun (y_c_3700 : Int) => W.pure (decide (y_b_3698 ≤ y_c_3700))) (W.pure false)) (W.pure false)) fun (y_r_3702 : Bool) => (W.pure y_r_3702))
def is_pair_of_2_w (y_persons : PyData) (y_value : PyData) : W Bool :=
  (W.bind (W.bind (W.bind (W.pure y_value) fun (y_a_3734 : PyData) => W.bind (W.pure (2 : Int)) fun (y_a_3735 : Int) => is_tuple_3_w y_a_3734 y_a_3735) fun (y_b_3753 : Bool) => W.ite y_b_3753 (W.bind (W.bind (W.bind (W.bind (W.pure y_value) fun (y_a_3736 : PyData) => W.get ((W.anyT (fun a => some ((fun a => a) a))) y_a_3736)) fun (y_l_3744 : List PyData) => W.compC y_l_3744 (fun (y_i_3737 : PyData) => (W.pure true)) (fun (y_i_3737 : PyData) => (W.bind (W.pure y_i_3737) fun (y_a_3741 : PyData) => W.bind (W.pure (0 : Int)) fun (y_a_3742 : Int) => W.bind (W.bind (W.bind (W.pure y_persons) fun (y_a_3738 : PyData) => W.get (W.anyI y_a_3738)) fun (y_a_3739 : Int) => W.bind (W.pure (1 : Int)) fun (y_b_3740 : Int) => W.pure (y_a_3739 - y_b_3740)) fun (y_a_3743 : Int) => is_within_2_w y_a_3741 y_a_3742 y_a_3743))) fun (y_a_3745 : (List Bool)) => W.pure (y_a_3745.all id)) fun (y_b_3752 : Bool) => W.ite y_b_3752 (W.bind (W.bind (W.pure y_value) fun (y_a_3746 : PyData) => W.bind (W.pure (0 : Int)) fun (y_b_3747 : Int) => W.bind (W.get (W.seqA y_a_3746)) fun xs => W.at' xs y_b_3747) fun (y_a_3750 : PyData) => W.bind (W.bind (W.pure y_value) fun (y_a_3748 : PyData) => W.bind (W.pure (1 : Int)) fun (y_b_3749 : Int) => W.bind (W.get (W.seqA y_a_3748)) fun xs => W.at' xs y_b_3749) fun (y_b_3751 : PyData) => W.chk (CmpA y_a_3750 y_b_3751) (PySem.W.dataLt y_a_3750 y_b_3751)) (W.pure false)) (W.pure false)) fun (y_r_3754 : Bool) => (W.pure y_r_3754))
def are_pairs_of_2_w (y_persons : PyData) (y_value : PyData) : W Bool :=
  (W.bind (W.bind (W.bind (W.bind (W.pure y_value) fun (y_a_3775 : PyData) => W.pure (PyData.isTuple y_a_3775)) fun (y_b_3776 : Bool) => W.pure (!y_b_3776)) fun (y_b_3784 : Bool) => W.ite y_b_3784 (W.pure true) (W.bind (W.bind (W.bind (W.bind (W.pure y_value) fun (y_a_3777 : PyData) => W.get ((W.anyT (fun a => some ((fun a => a) a))) y_a_3777)) fun (y_l_3781 : List PyData) => W.compC y_l_3781 (fun (y_i_3778 : PyData) => (W.pure true)) (fun (y_i_3778 : PyData) => (W.bind (W.pure y_persons) fun (y_a_3779 : PyData) => W.bind (W.pure y_i_3778) fun (y_a_3780 : PyData) => is_pair_of_2_w y_a_3779 y_a_3780))) fun (y_a_3782 : (List Bool)) => W.pure (y_a_3782.all id)) fun (y_b_3783 : Bool) => W.pure (!y_b_3783))) fun (y_b_3785 : Bool) => W.ite y_b_3785 (W.bind (W.pure false) fun (y_r_3786 : Bool) => (W.pure y_r_3786)) (W.bind (W.bind (W.bind (W.bind (W.bind (W.pure y_value) fun (y_a_3787 : PyData) => W.get ((W.anyT (fun a => some ((fun a => a) a))) y_a_3787)) fun (y_a_3793 : (List PyData)) => W.bind (W.bind (W.bind (W.pure y_value) fun (y_a_3788 : PyData) => W.get ((W.anyT (fun a => some ((fun a => a) a))) y_a_3788)) fun (y_a_3790 : (List PyData)) => W.bind (W.bind (W.pure (1 : Int)) fun (y_k_3789 : Int) => W.pure (some y_k_3789)) fun (y_l_3791 : Option Int) => W.bind (W.pure none) fun (y_h_3792 : Option Int) => W.pure (W.cut y_a_3790 y_l_3791 y_h_3792)) fun (y_b_3794 : (List PyData)) => W.pure (y_a_3793.zip y_b_3794)) fun (y_l_3798 : List (PyData × PyData)) => W.compC y_l_3798 (fun (y_i_3795 : (PyData × PyData)) => (W.pure true)) (fun (y_i_3795 : (PyData × PyData)) => (W.bind (W.pure (y_i_3795.1)) fun (y_a_3796 : PyData) => W.bind (W.pure (y_i_3795.2)) fun (y_b_3797 : PyData) => W.chk (CmpA y_a_3796 y_b_3797) (PySem.W.dataLt y_a_3796 y_b_3797)))) fun (y_a_3799 : (List Bool)) => W.pure (y_a_3799.all id)) fun (y_r_3800 : Bool) => (W.pure y_r_3800)))
def is_web_value_2_w (y_value : PyData) : W Bool :=
  (W.bind (W.bind (W.bind (W.bind (W.pure y_value) fun (y_a_3804 : PyData) => W.bind (W.pure (3 : Int)) fun (y_a_3805 : Int) => is_tuple_3_w y_a_3804 y_a_3805) fun (y_b_3806 : Bool) => W.pure (!y_b_3806)) fun (y_b_3817 : Bool) => W.ite y_b_3817 (W.pure true) (W.bind (W.bind (W.bind (W.bind (W.pure y_value) fun (y_a_3807 : PyData) => W.bind (W.pure (0 : Int)) fun (y_b_3808 : Int) => W.bind (W.get (W.seqA y_a_3807)) fun xs => W.at' xs y_b_3808) fun (y_a_3809 : PyData) => W.pure (PyData.isStr y_a_3809)) fun (y_b_3810 : Bool) => W.pure (!y_b_3810)) fun (y_b_3816 : Bool) => W.ite y_b_3816 (W.pure true) (W.bind (W.bind (W.pure y_value) fun (y_a_3811 : PyData) => W.bind (W.pure (0 : Int)) fun (y_b_3812 : Int) => W.bind (W.get (W.seqA y_a_3811)) fun xs => W.at' xs y_b_3812) fun (y_a_3814 : PyData) => W.bind (W.bind (W.pure ()) fun (y_a_3813 : Unit) => W.pure ((eW "web") y_a_3813)) fun (y_b_3815 : PyData) => W.chk (Flat y_a_3814 ∧ Flat y_b_3815) (!PyData.eqv y_a_3814 y_b_3815)))) fun (y_b_3818 : Bool) => W.ite y_b_3818 (W.bind (W.pure false) fun (y_r_3819 : Bool) => (W.pure y_r_3819)) (W.bind (W.bind (W.bind (W.bind (W.pure y_value) fun (y_a_3820 : PyData) => W.bind (W.pure (1 : Int)) fun (y_b_3821 : Int) => W.bind (W.get (W.seqA y_a_3820)) fun xs => W.at' xs y_b_3821) fun (y_a_3822 : PyData) => W.bind (W.pure (1 : Int)) fun (y_a_3823 : Int) => W.bind (W.pure (10 : Int)) fun (y_a_3824 : Int) => is_within_2_w y_a_3822 y_a_3823 y_a_3824) fun (y_b_3831 : Bool) => W.ite y_b_3831 (W.bind (W.bind (W.pure y_value) fun (y_a_3825 : PyData) => W.bind (W.pure (1 : Int)) fun (y_b_3826 : Int) => W.bind (W.get (W.seqA y_a_3825)) fun xs => W.at' xs y_b_3826) fun (y_a_3829 : PyData) => W.bind (W.bind (W.pure y_value) fun (y_a_3827 : PyData) => W.bind (W.pure (2 : Int)) fun (y_b_3828 : Int) => W.bind (W.get (W.seqA y_a_3827)) fun xs => W.at' xs y_b_3828) fun (y_a_3830 : PyData) => are_pairs_of_2_w y_a_3829 y_a_3830) (W.pure false)) fun (y_r_3832 : Bool) => (W.pure y_r_3832)))
def is_joined_value_2_w (y_value : PyData) : W Bool :=
  (W.bind (W.bind (W.bind (W.pure y_value) fun (y_a_3846 : PyData) => is_web_value_2_w y_a_3846) fun (y_b_3858 : Bool) => W.ite y_b_3858 (W.bind (W.bind (W.bind (W.bind (W.bind (W.pure y_value) fun (y_a_3847 : PyData) => W.bind (W.pure (1 : Int)) fun (y_b_3848 : Int) => W.bind (W.get (W.seqA y_a_3847)) fun xs => W.at' xs y_b_3848) fun (y_a_3851 : PyData) => W.get (W.anyI y_a_3851)) fun (y_a_3853 : Int) => W.bind (W.bind (W.bind (W.pure y_value) fun (y_a_3849 : PyData) => W.bind (W.pure (2 : Int)) fun (y_b_3850 : Int) => W.bind (W.get (W.seqA y_a_3849)) fun xs => W.at' xs y_b_3850) fun (y_a_3852 : PyData) => W.get ((W.anyT (W.anyP (W.two W.anyI W.anyI))) y_a_3852)) fun (y_a_3854 : (List (Int × Int))) => pieces_of_w y_a_3853 y_a_3854) fun (y_a_3855 : (List (List Int))) => W.pure (y_a_3855.length : Int)) fun (y_a_3856 : Int) => W.bind (W.pure (1 : Int)) fun (y_b_3857 : Int) => W.pure (decide (y_a_3856 = y_b_3857))) (W.pure false)) fun (y_r_3859 : Bool) => (W.pure y_r_3859))
def is_joined_w (y_value : PyData) : W Bool :=
  (W.bind (W.bind (W.pure y_value) fun (y_a_3861 : PyData) => is_joined_value_2_w y_a_3861) fun (y_r_3862 : Bool) => (W.pure y_r_3862))
def is_firm_value_2_w (y_value : PyData) : W Bool :=
  (W.bind (W.bind (W.bind (W.pure y_value) fun (y_a_3876 : PyData) => is_joined_value_2_w y_a_3876) fun (y_b_3887 : Bool) => W.ite y_b_3887 (W.bind (W.bind (W.bind (W.bind (W.pure y_value) fun (y_a_3877 : PyData) => W.bind (W.pure (1 : Int)) fun (y_b_3878 : Int) => W.bind (W.get (W.seqA y_a_3877)) fun xs => W.at' xs y_b_3878) fun (y_a_3881 : PyData) => W.get (W.anyI y_a_3881)) fun (y_a_3883 : Int) => W.bind (W.bind (W.bind (W.pure y_value) fun (y_a_3879 : PyData) => W.bind (W.pure (2 : Int)) fun (y_b_3880 : Int) => W.bind (W.get (W.seqA y_a_3879)) fun xs => W.at' xs y_b_3880) fun (y_a_3882 : PyData) => W.get ((W.anyT (W.anyP (W.two W.anyI W.anyI))) y_a_3882)) fun (y_a_3884 : (List (Int × Int))) => bridges_of_w y_a_3883 y_a_3884) fun (y_a_3885 : (List (Int × Int))) => W.bind (W.pure []) fun (y_b_3886 : (List (Int × Int))) => W.pure (decide (y_a_3885 = y_b_3886))) (W.pure false)) fun (y_r_3888 : Bool) => (W.pure y_r_3888))
def is_firm_2_w (y_value : PyData) : W Bool :=
  (W.bind (W.bind (W.pure y_value) fun (y_a_3890 : PyData) => is_firm_value_2_w y_a_3890) fun (y_r_3891 : Bool) => (W.pure y_r_3891))
def _law_right_w (y_pot : Unit) : W Bool :=
  (W.bind (W.bind (W.bind (W.pure ()) fun (y_a_3963 : Unit) => W.bind (W.pure (8 : Int)) fun (y_a_3964 : Int) => _law_web_w y_a_3963 y_a_3964) fun (y_a_3975 : (Unit × Int × (List (Int × Int)))) => W.bind (W.bind (W.bind (W.pure ()) fun (y_a_3965 : Unit) => W.bind (W.pure (8 : Int)) fun (y_a_3966 : Int) => _law_forest_w y_a_3965 y_a_3966) fun (y_a_3973 : (Unit × Int × (List (Int × Int)))) => W.bind (W.bind (W.bind (W.pure ()) fun (y_a_3967 : Unit) => _law_ring_w y_a_3967) fun (y_a_3971 : (Unit × Int × (List (Int × Int)))) => W.bind (W.bind (W.bind (W.pure ()) fun (y_a_3968 : Unit) => _law_two_w y_a_3968) fun (y_a_3969 : (Unit × Int × (List (Int × Int)))) => W.bind (W.pure []) fun (y_as_3970 : List (Unit × Int × (List (Int × Int)))) => W.pure (y_a_3969 :: y_as_3970)) fun (y_as_3972 : List (Unit × Int × (List (Int × Int)))) => W.pure (y_a_3971 :: y_as_3972)) fun (y_as_3974 : List (Unit × Int × (List (Int × Int)))) => W.pure (y_a_3973 :: y_as_3974)) fun (y_as_3976 : List (Unit × Int × (List (Int × Int)))) => W.pure (y_a_3975 :: y_as_3976)) fun (y_made_3977 : (List (Unit × Int × (List (Int × Int))))) => (W.bind (W.pure y_made_3977) fun (y_l_4199 : List (Unit × Int × (List (Int × Int)))) => W.thenF (W.forF y_l_4199 () fun (y_i_3978 : (Unit × Int × (List (Int × Int)))) (y_s_4011 : Unit) => (W.bind (W.bind (W.bind (W.pure y_i_3978) fun (y_a_4013 : (Unit × Int × (List (Int × Int)))) => W.chk (Shw ((eP3 (eW "web") eI (eT (eP2 eI eI))) y_a_4013)) ((eP3 (eW "web") eI (eT (eP2 eI eI))) y_a_4013).shown) fun (y_t_4043 : Str) => W.bind (W.bind (W.bind (W.bind (W.pure y_i_3978) fun (y_a_4014 : (Unit × Int × (List (Int × Int)))) => W.pure y_a_4014.2.2) fun (y_l_4018 : List (Int × Int)) => W.compC y_l_4018 (fun (y_i_4015 : (Int × Int)) => (W.bind (W.pure y_i_3978) fun (y_a_4016 : (Unit × Int × (List (Int × Int)))) => W.bind (W.pure y_i_4015) fun (y_a_4017 : (Int × Int)) => _law_is_bridge_w y_a_4016 y_a_4017)) (fun (y_i_4015 : (Int × Int)) => (W.pure y_i_4015))) fun (y_a_4019 : (List (Int × Int))) => W.pure y_a_4019) fun (y_t_4044 : (List (Int × Int))) => (W.pure (y_t_4043, y_t_4044))) fun (y_s_4020 : (Str × (List (Int × Int)))) => (W.bind (W.bind (W.bind (W.bind (W.bind (W.bind (W.pure y_i_3978) fun (y_a_4021 : (Unit × Int × (List (Int × Int)))) => bridges_w y_a_4021) fun (y_a_4027 : (List (Int × Int))) => W.bind (W.bind (W.bind (W.pure ()) fun (y_p_4023 : Unit) => W.bind (W.pure y_i_3978) fun (y_k_4024 : (Unit × Int × (List (Int × Int)))) => bridges_w (y_k_4024)) fun (y_a_4025 : (List (Int × Int))) => W.bind (W.pure []) fun (y_as_4026 : List (List (Int × Int))) => W.pure (y_a_4025 :: y_as_4026)) fun (y_as_4028 : List (List (Int × Int))) => W.pure (y_a_4027 :: y_as_4028)) fun (y_a_4029 : (List (List (Int × Int)))) => W.chk (Shw ((eL (eT (eP2 eI eI))) y_a_4029)) ((eL (eT (eP2 eI eI))) y_a_4029).shown) fun (y_a_4035 : Str) => W.bind (W.bind (W.bind (W.pure y_s_4020.2) fun (y_a_4032 : (List (Int × Int))) => W.bind (W.bind (W.pure y_s_4020.2) fun (y_a_4030 : (List (Int × Int))) => W.bind (W.pure []) fun (y_as_4031 : List (List (Int × Int))) => W.pure (y_a_4030 :: y_as_4031)) fun (y_as_4033 : List (List (Int × Int))) => W.pure (y_a_4032 :: y_as_4033)) fun (y_a_4034 : (List (List (Int × Int)))) => W.chk (Shw ((eL (eT (eP2 eI eI))) y_a_4034)) ((eL (eT (eP2 eI eI))) y_a_4034).shown) fun (y_b_4036 : Str) => W.pure (!decide (y_a_4035 = y_b_4036))) fun (y_b_4040 : Bool) => W.ite y_b_4040 (W.pure true) (W.bind (W.bind (W.pure y_i_3978) fun (y_a_4037 : (Unit × Int × (List (Int × Int)))) => W.chk (Shw ((eP3 (eW "web") eI (eT (eP2 eI eI))) y_a_4037)) ((eP3 (eW "web") eI (eT (eP2 eI eI))) y_a_4037).shown) fun (y_a_4038 : Str) => W.bind (W.pure y_s_4020.1) fun (y_b_4039 : Str) => W.pure (!decide (y_a_4038 = y_b_4039)))) fun (y_b_4041 : Bool) => W.ite y_b_4041 (W.bind (W.pure false) fun (y_r_4042 : Bool) => (W.pure (W.Fl.rt y_r_4042))) (W.pure (W.Fl.nx ()))))) (fun (y_s_4045 : Unit) => (W.bind (W.bind (W.bind (W.bind (W.bind (W.pure y_made_3977) fun (y_a_4046 : (List (Unit × Int × (List (Int × Int))))) => W.bind (W.pure (1 : Int)) fun (y_b_4047 : Int) => W.at' y_a_4046 y_b_4047) fun (y_a_4048 : (Unit × Int × (List (Int × Int)))) => bridges_w y_a_4048) fun (y_a_4052 : (List (Int × Int))) => W.bind (W.bind (W.bind (W.pure y_made_3977) fun (y_a_4049 : (List (Unit × Int × (List (Int × Int))))) => W.bind (W.pure (1 : Int)) fun (y_b_4050 : Int) => W.at' y_a_4049 y_b_4050) fun (y_a_4051 : (Unit × Int × (List (Int × Int)))) => W.pure y_a_4051.2.2) fun (y_b_4053 : (List (Int × Int))) => W.pure (!decide (y_a_4052 = y_b_4053))) fun (y_b_4059 : Bool) => W.ite y_b_4059 (W.pure true) (W.bind (W.bind (W.bind (W.pure y_made_3977) fun (y_a_4054 : (List (Unit × Int × (List (Int × Int))))) => W.bind (W.pure (2 : Int)) fun (y_b_4055 : Int) => W.at' y_a_4054 y_b_4055) fun (y_a_4056 : (Unit × Int × (List (Int × Int)))) => is_firm_w y_a_4056) fun (y_a_4057 : Bool) => W.bind (W.pure true) fun (y_b_4058 : Bool) => W.pure (!decide (y_a_4057 = y_b_4058)))) fun (y_b_4060 : Bool) => W.ite y_b_4060 (W.bind (W.pure false) fun (y_r_4061 : Bool) => (W.pure y_r_4061)) (W.bind (W.bind (W.bind (W.pure y_made_3977) fun (y_a_4095 : (List (Unit × Int × (List (Int × Int))))) => W.pure ((List.map (eP3 (eW "web") eI (eT (eP2 eI eI)))) y_a_4095)) fun (y_a_4096 : (List PyData)) => W.bind (W.bind (W.bind (W.pure ()) fun (y_a_4074 : Unit) => W.pure (eU y_a_4074)) fun (y_a_4093 : PyData) => W.bind (W.bind (W.bind (W.pure (0 : Int)) fun (y_a_4075 : Int) => W.pure (eI y_a_4075)) fun (y_a_4091 : PyData) => W.bind (W.bind (W.bind (W.pure []) fun (y_a_4076 : (List Int)) => W.pure ((eT eI) y_a_4076)) fun (y_a_4089 : PyData) => W.bind (W.bind (W.bind (W.pure ()) fun (y_a_4077 : Unit) => W.pure ((eW "web") y_a_4077)) fun (y_a_4087 : PyData) => W.bind (W.bind (W.bind (W.bind (W.pure ()) fun (y_t_4062 : Unit) => W.bind (W.pure (1 : Int)) fun (y_t_4063 : Int) => W.bind (W.pure []) fun (y_t_4064 : (List Int)) => (W.pure (y_t_4062, y_t_4063, y_t_4064))) fun (y_a_4078 : (Unit × Int × (List Int))) => W.pure ((eP3 (eW "web") eI (eT eI)) y_a_4078)) fun (y_a_4085 : PyData) => W.bind (W.bind (W.bind (W.bind (W.pure ()) fun (y_t_4065 : Unit) => W.bind (W.pure (2 : Int)) fun (y_t_4066 : Int) => W.bind (W.pure []) fun (y_t_4067 : (List Int)) => (W.pure (y_t_4065, y_t_4066, y_t_4067))) fun (y_a_4079 : (Unit × Int × (List Int))) => W.pure ((eP3 (eW "web") eI (eT eI)) y_a_4079)) fun (y_a_4083 : PyData) => W.bind (W.bind (W.bind (W.bind (W.pure ()) fun (y_t_4071 : Unit) => W.bind (W.pure (2 : Int)) fun (y_t_4072 : Int) => W.bind (W.bind (W.pure (0 : Int)) fun (y_t_4068 : Int) => W.bind (W.pure (1 : Int)) fun (y_t_4069 : Int) => (W.pure (y_t_4068, y_t_4069))) fun (y_t_4073 : (Int × Int)) => (W.pure (y_t_4071, y_t_4072, y_t_4073))) fun (y_a_4080 : (Unit × Int × (Int × Int))) => W.pure ((eP3 (eW "web") eI (eP1 (eP2 eI eI))) y_a_4080)) fun (y_a_4081 : PyData) => W.bind (W.pure []) fun (y_as_4082 : List PyData) => W.pure (y_a_4081 :: y_as_4082)) fun (y_as_4084 : List PyData) => W.pure (y_a_4083 :: y_as_4084)) fun (y_as_4086 : List PyData) => W.pure (y_a_4085 :: y_as_4086)) fun (y_as_4088 : List PyData) => W.pure (y_a_4087 :: y_as_4088)) fun (y_as_4090 : List PyData) => W.pure (y_a_4089 :: y_as_4090)) fun (y_as_4092 : List PyData) => W.pure (y_a_4091 :: y_as_4092)) fun (y_as_4094 : List PyData) => W.pure (y_a_4093 :: y_as_4094)) fun (y_b_4097 : (List PyData)) => W.chk (y_a_4096.length + y_b_4097.length ≤ 1000000) (y_a_4096 ++ y_b_4097)) fun (y_values_4098 : (List PyData)) => (W.bind (W.bind (W.pure (8 : Int)) fun (y_n_4099 : Int) => W.range1 y_n_4099) fun (y_l_4198 : List Int) => W.bind (W.forS y_l_4198 y_values_4098 fun (y_i_4100 : Int) (y_s_4107 : (List PyData)) => (W.bind (W.bind (W.pure ()) fun (y_a_4111 : Unit) => W.bind (W.bind (W.pure ()) fun (y_a_4109 : Unit) => W.bind (W.pure y_made_3977) fun (y_a_4110 : (List (Unit × Int × (List (Int × Int))))) => _law_pick_2_w y_a_4109 y_a_4110) fun (y_a_4112 : (Unit × Int × (List (Int × Int)))) => _law_bent_w y_a_4111 y_a_4112) fun (y_a_4114 : PyData) => W.bind (W.app y_s_4107 y_a_4114) fun (y_values_4113 : (List PyData)) => (W.pure y_values_4113))) fun (y_s_4115 : (List PyData)) => (W.bind (W.pure y_s_4115) fun (y_l_4197 : List PyData) => W.thenF (W.forF y_l_4197 () fun (y_i_4116 : PyData) (y_s_4155 : Unit) => (W.bind (W.bind (W.bind (W.bind (W.pure y_i_4116) fun (y_a_4157 : PyData) => _law_is_joined_w y_a_4157) fun (y_a_4161 : Bool) => W.bind (W.bind (W.bind (W.pure y_i_4116) fun (y_a_4158 : PyData) => _law_is_firm_w y_a_4158) fun (y_a_4159 : Bool) => W.bind (W.pure []) fun (y_as_4160 : List Bool) => W.pure (y_a_4159 :: y_as_4160)) fun (y_as_4162 : List Bool) => W.pure (y_a_4161 :: y_as_4162)) fun (y_t_4193 : (List Bool)) => W.bind (W.bind (W.pure y_i_4116) fun (y_a_4163 : PyData) => W.chk (Shw (eA y_a_4163)) (eA y_a_4163).shown) fun (y_t_4194 : Str) => (W.pure (y_t_4193, y_t_4194))) fun (y_s_4164 : ((List Bool) × Str)) => (W.bind (W.bind (W.bind (W.bind (W.bind (W.bind (W.pure y_i_4116) fun (y_a_4165 : PyData) => is_joined_w y_a_4165) fun (y_a_4179 : Bool) => W.bind (W.bind (W.bind (W.pure y_i_4116) fun (y_a_4166 : PyData) => is_firm_2_w y_a_4166) fun (y_a_4177 : Bool) => W.bind (W.bind (W.bind (W.pure ()) fun (y_p_4168 : Unit) => W.bind (W.pure y_i_4116) fun (y_k_4169 : PyData) => is_joined_w (y_k_4169)) fun (y_a_4175 : Bool) => W.bind (W.bind (W.bind (W.pure ()) fun (y_p_4171 : Unit) => W.bind (W.pure y_i_4116) fun (y_k_4172 : PyData) => is_firm_2_w (y_k_4172)) fun (y_a_4173 : Bool) => W.bind (W.pure []) fun (y_as_4174 : List Bool) => W.pure (y_a_4173 :: y_as_4174)) fun (y_as_4176 : List Bool) => W.pure (y_a_4175 :: y_as_4176)) fun (y_as_4178 : List Bool) => W.pure (y_a_4177 :: y_as_4178)) fun (y_as_4180 : List Bool) => W.pure (y_a_4179 :: y_as_4180)) fun (y_a_4181 : (List Bool)) => W.chk (Shw ((eL eB) y_a_4181)) ((eL eB) y_a_4181).shown) fun (y_a_4185 : Str) => W.bind (W.bind (W.bind (W.pure y_s_4164.1) fun (y_a_4182 : (List Bool)) => W.bind (W.pure y_s_4164.1) fun (y_b_4183 : (List Bool)) => W.chk (y_a_4182.length + y_b_4183.length ≤ 1000000) (y_a_4182 ++ y_b_4183)) fun (y_a_4184 : (List Bool)) => W.chk (Shw ((eL eB) y_a_4184)) ((eL eB) y_a_4184).shown) fun (y_b_4186 : Str) => W.pure (!decide (y_a_4185 = y_b_4186))) fun (y_b_4190 : Bool) => W.ite y_b_4190 (W.pure true) (W.bind (W.bind (W.pure y_i_4116) fun (y_a_4187 : PyData) => W.chk (Shw (eA y_a_4187)) (eA y_a_4187).shown) fun (y_a_4188 : Str) => W.bind (W.pure y_s_4164.2) fun (y_b_4189 : Str) => W.pure (!decide (y_a_4188 = y_b_4189)))) fun (y_b_4191 : Bool) => W.ite y_b_4191 (W.bind (W.pure false) fun (y_r_4192 : Bool) => (W.pure (W.Fl.rt y_r_4192))) (W.pure (W.Fl.nx ()))))) (fun (y_s_4195 : Unit) => (W.bind (W.pure true) fun (y_r_4196 : Bool) => (W.pure y_r_4196))) (fun (r : Bool) => r)))))) (fun (r : Bool) => r)))
def law_w (y_script : (List Int)) : W Bool :=
  (W.bind (W.bind (W.bind (W.bind (W.bind (W.pure (1 : Int)) fun (y_a_4206 : Int) => W.bind (W.bind (W.pure (3 : Int)) fun (y_a_4204 : Int) => W.bind (W.bind (W.pure y_script) fun (y_a_4203 : (List Int)) => W.pure (y_a_4203.length : Int)) fun (y_b_4205 : Int) => W.pure (min y_a_4204 y_b_4205)) fun (y_b_4207 : Int) => W.pure (max y_a_4206 y_b_4207)) fun (y_n_4208 : Int) => W.range1 y_n_4208) fun (y_l_4213 : List Int) => W.compC y_l_4213 (fun (y_i_4209 : Int) => (W.pure true)) (fun (y_i_4209 : Int) => (W.bind (W.bind (W.pure y_script) fun (y_a_4210 : (List Int)) => W.bind (W.pure y_i_4209) fun (y_a_4211 : Int) => _law_pot_p y_a_4210 y_a_4211) fun (y_a_4212 : Unit) => _law_right_w y_a_4212))) fun (y_a_4214 : (List Bool)) => W.pure (y_a_4214.all id)) fun (y_r_4215 : Bool) => (W.pure y_r_4215))
end K93
end
section
namespace K93
open PySem PySem.Spec PyProof.Rows L2 RZ HM
def topS (i : Nat) : Stmt := PySem.Challenge.pw_howmanymet_k93_whole_bridges_and_firm_we.main.body.getD i (.Pass ⟨0, 0, 0, 0⟩)
abbrev s__law_pot : Stmt := topS 22
theorem sc__law_pot : FnScope ["script", "k", "cell"] ["script", "k"] (defScope s__law_pot) := ⟨rfl, rfl, rfl, by decide +kernel, rfl, by decide +kernel, by decide +kernel⟩
abbrev sp__law_pot (K : PySem.W.Frag) : Sp := sp2 K (vD (eL eI)) (vD eI) _law_pot_p ePot
abbrev s__law_draw : Stmt := topS 23
theorem sc__law_draw : FnScope ["pot", "many", "digit"] ["pot", "many"] (defScope s__law_draw) := ⟨rfl, rfl, rfl, by decide +kernel, rfl, by decide +kernel, by decide +kernel⟩
abbrev sp__law_draw (K : PySem.W.Frag) : Sp := sp2 K vP (vD eI) _law_draw_w (eV eI)
abbrev s__law_pick : Stmt := topS 24
theorem sc__law_pick : FnScope ["pot", "some"] ["pot", "some"] (defScope s__law_pick) := ⟨rfl, rfl, rfl, by decide +kernel, rfl, by decide +kernel, by decide +kernel⟩
abbrev sp__law_pick (K : PySem.W.Frag) : Sp := sp2 K vP (vD (eL eI)) _law_pick_w (eV eI)
abbrev s__law_all_pairs : Stmt := topS 25
theorem sc__law_all_pairs : FnScope ["persons", "found", "one", "other"] ["persons"] (defScope s__law_all_pairs) := ⟨rfl, rfl, rfl, by decide +kernel, rfl, by decide +kernel, by decide +kernel⟩
abbrev sp__law_all_pairs (K : PySem.W.Frag) : Sp := sp1 K (vD eI) _law_all_pairs_w (eN (eP2 eI eI))
abbrev s__law_web : Stmt := topS 26
theorem sc__law_web : FnScope ["pot", "most", "persons", "share", "pair"] ["pot", "most"] (defScope s__law_web) := ⟨rfl, rfl, rfl, by decide +kernel, rfl, by decide +kernel, by decide +kernel⟩
abbrev sp__law_web (K : PySem.W.Frag) : Sp := sp2 K vP (vD eI) _law_web_w (eV (eP3 (eW "web") eI (eT (eP2 eI eI))))
abbrev s__law_mixed : Stmt := topS 28
theorem sc__law_mixed : FnScope ["pot", "many", "left", "found", "turn"] ["pot", "many"] (defScope s__law_mixed) := ⟨rfl, rfl, rfl, by decide +kernel, rfl, by decide +kernel, by decide +kernel⟩
abbrev sp__law_mixed (K : PySem.W.Frag) : Sp := sp2 K vP (vD eI) _law_mixed_w (eN eI)
abbrev s__law_forest : Stmt := topS 27
theorem sc__law_forest : FnScope ["pot", "most", "persons", "names", "pairs", "gaps", "at"] ["pot", "most"] (defScope s__law_forest) := ⟨rfl, rfl, rfl, by decide +kernel, rfl, by decide +kernel, by decide +kernel⟩
abbrev sp__law_forest (K : PySem.W.Frag) : Sp := sp2 K vP (vD eI) _law_forest_w (eV (eP3 (eW "web") eI (eT (eP2 eI eI))))
abbrev s__law_ring : Stmt := topS 38
theorem sc__law_ring : FnScope ["pot", "persons", "names", "pairs", "at", "pair"] ["pot"] (defScope s__law_ring) := ⟨rfl, rfl, rfl, by decide +kernel, rfl, by decide +kernel, by decide +kernel⟩
abbrev sp__law_ring (K : PySem.W.Frag) : Sp := sp1 K vP _law_ring_w (eV (eP3 (eW "web") eI (eT (eP2 eI eI))))
abbrev s__law_two : Stmt := topS 39
theorem sc__law_two : FnScope ["pot", "names", "pairs", "pair", "one", "other"] ["pot"] (defScope s__law_two) := ⟨rfl, rfl, rfl, by decide +kernel, rfl, by decide +kernel, by decide +kernel⟩
abbrev sp__law_two (K : PySem.W.Frag) : Sp := sp1 K vP _law_two_w (eV (eP3 (eW "web") eI (eT (eP2 eI eI))))
abbrev s__law_pieces : Stmt := topS 30
theorem sc__law_pieces : FnScope ["persons", "pairs", "left", "found", "lot", "last", "here", "pair", "person"] ["persons", "pairs"] (defScope s__law_pieces) := ⟨rfl, rfl, rfl, by decide +kernel, rfl, by decide +kernel, by decide +kernel⟩
abbrev sp__law_pieces (K : PySem.W.Frag) : Sp := sp2 K (vD eI) (vD (eL (eP2 eI eI))) _law_pieces_w (eN (eT eI))
abbrev sp__law_pieces_2 (K : PySem.W.Frag) : Sp := sp2 K (vD eI) (vD (eT (eP2 eI eI))) _law_pieces_2_w (eN (eT eI))
abbrev s__law_is_bridge : Stmt := topS 35
theorem sc__law_is_bridge : FnScope ["web", "pair", "rest", "one"] ["web", "pair"] (defScope s__law_is_bridge) := ⟨rfl, rfl, rfl, by decide +kernel, rfl, by decide +kernel, by decide +kernel⟩
abbrev sp__law_is_bridge (K : PySem.W.Frag) : Sp := sp2 K (vD (eP3 (eW "web") eI (eT (eP2 eI eI)))) (vD (eP2 eI eI)) _law_is_bridge_w (eV eB)
abbrev s_is_tuple : Stmt := topS 3
theorem sc_is_tuple : FnScope ["value", "many"] ["value", "many"] (defScope s_is_tuple) := ⟨rfl, rfl, rfl, by decide +kernel, rfl, by decide +kernel, by decide +kernel⟩
abbrev sp_is_tuple (K : PySem.W.Frag) : Sp := sp2 K (vD (eP3 (eW "web") eI (eT (eP2 eI eI)))) (vD eI) is_tuple_w (eV eB)
abbrev s_is_integer : Stmt := topS 1
theorem sc_is_integer : FnScope ["value"] ["value"] (defScope s_is_integer) := ⟨rfl, rfl, rfl, by decide +kernel, rfl, by decide +kernel, by decide +kernel⟩
abbrev sp_is_integer (K : PySem.W.Frag) : Sp := sp1 K (vD eI) is_integer_w (eV eB)
abbrev s_is_within : Stmt := topS 2
theorem sc_is_within : FnScope ["value", "least", "most"] ["value", "least", "most"] (defScope s_is_within) := ⟨rfl, rfl, rfl, by decide +kernel, rfl, by decide +kernel, by decide +kernel⟩
abbrev sp_is_within (K : PySem.W.Frag) : Sp := sp3 K (vD eI) (vD eI) (vD eI) is_within_w (eV eB)
abbrev sp_is_tuple_2 (K : PySem.W.Frag) : Sp := sp2 K (vD (eP2 eI eI)) (vD eI) is_tuple_2_w (eV eB)
abbrev s_is_pair_of : Stmt := topS 9
theorem sc_is_pair_of : FnScope ["persons", "value", "one"] ["persons", "value"] (defScope s_is_pair_of) := ⟨rfl, rfl, rfl, by decide +kernel, rfl, by decide +kernel, by decide +kernel⟩
abbrev sp_is_pair_of (K : PySem.W.Frag) : Sp := sp2 K (vD eI) (vD (eP2 eI eI)) is_pair_of_w (eV eB)
abbrev s_are_pairs_of : Stmt := topS 10
theorem sc_are_pairs_of : FnScope ["persons", "value", "near", "far", "one"] ["persons", "value"] (defScope s_are_pairs_of) := ⟨rfl, rfl, rfl, by decide +kernel, rfl, by decide +kernel, by decide +kernel⟩
abbrev sp_are_pairs_of (K : PySem.W.Frag) : Sp := sp2 K (vD eI) (vD (eT (eP2 eI eI))) are_pairs_of_w (eV eB)
abbrev s_is_web_value : Stmt := topS 11
theorem sc_is_web_value : FnScope ["value"] ["value"] (defScope s_is_web_value) := ⟨rfl, rfl, rfl, by decide +kernel, rfl, by decide +kernel, by decide +kernel⟩
abbrev sp_is_web_value (K : PySem.W.Frag) : Sp := sp1 K (vD (eP3 (eW "web") eI (eT (eP2 eI eI)))) is_web_value_w (eV eB)
abbrev s_want_web : Stmt := topS 12
theorem sc_want_web : FnScope ["web"] ["web"] (defScope s_want_web) := ⟨rfl, rfl, rfl, by decide +kernel, rfl, by decide +kernel, by decide +kernel⟩
abbrev sp_want_web (K : PySem.W.Frag) : Sp := sp1 K (vD (eP3 (eW "web") eI (eT (eP2 eI eI)))) want_web_w (eV eU)
abbrev s_pieces_of : Stmt := topS 13
theorem sc_pieces_of : FnScope ["persons", "pairs", "home", "one", "other", "near", "far", "least", "here", "at"] ["persons", "pairs"] (defScope s_pieces_of) := ⟨rfl, rfl, rfl, by decide +kernel, rfl, by decide +kernel, by decide +kernel⟩
abbrev sp_pieces_of (K : PySem.W.Frag) : Sp := sp2 K (vD eI) (vD (eT (eP2 eI eI))) pieces_of_w (eN (eT eI))
abbrev sp_pieces_of_2 (K : PySem.W.Frag) : Sp := sp2 K (vD eI) (vD (eL (eP2 eI eI))) pieces_of_2_w (eN (eT eI))
abbrev s_bridges_of : Stmt := topS 15
theorem sc_bridges_of : FnScope ["persons", "pairs", "many", "pair", "one"] ["persons", "pairs"] (defScope s_bridges_of) := ⟨rfl, rfl, rfl, by decide +kernel, rfl, by decide +kernel, by decide +kernel⟩
abbrev sp_bridges_of (K : PySem.W.Frag) : Sp := sp2 K (vD eI) (vD (eT (eP2 eI eI))) bridges_of_w (eN (eP2 eI eI))
abbrev s_bridges : Stmt := topS 18
theorem sc_bridges : FnScope ["web"] ["web"] (defScope s_bridges) := ⟨rfl, rfl, rfl, by decide +kernel, rfl, by decide +kernel, by decide +kernel⟩
abbrev sp_bridges (K : PySem.W.Frag) : Sp := sp1 K (vD (eP3 (eW "web") eI (eT (eP2 eI eI)))) bridges_w (eV (eT (eP2 eI eI)))
abbrev s_is_joined_value : Stmt := topS 16
theorem sc_is_joined_value : FnScope ["value"] ["value"] (defScope s_is_joined_value) := ⟨rfl, rfl, rfl, by decide +kernel, rfl, by decide +kernel, by decide +kernel⟩
abbrev sp_is_joined_value (K : PySem.W.Frag) : Sp := sp1 K (vD (eP3 (eW "web") eI (eT (eP2 eI eI)))) is_joined_value_w (eV eB)
abbrev s_is_firm_value : Stmt := topS 17
theorem sc_is_firm_value : FnScope ["value"] ["value"] (defScope s_is_firm_value) := ⟨rfl, rfl, rfl, by decide +kernel, rfl, by decide +kernel, by decide +kernel⟩
abbrev sp_is_firm_value (K : PySem.W.Frag) : Sp := sp1 K (vD (eP3 (eW "web") eI (eT (eP2 eI eI)))) is_firm_value_w (eV eB)
abbrev s_is_firm : Stmt := topS 20
theorem sc_is_firm : FnScope ["value"] ["value"] (defScope s_is_firm) := ⟨rfl, rfl, rfl, by decide +kernel, rfl, by decide +kernel, by decide +kernel⟩
abbrev sp_is_firm (K : PySem.W.Frag) : Sp := sp1 K (vD (eP3 (eW "web") eI (eT (eP2 eI eI)))) is_firm_w (eV eB)
abbrev sp__law_pick_2 (K : PySem.W.Frag) : Sp := sp2 K vP (vD (eL (eP3 (eW "web") eI (eT (eP2 eI eI))))) _law_pick_2_w (eV (eP3 (eW "web") eI (eT (eP2 eI eI))))
abbrev sp__law_pick_3 (K : PySem.W.Frag) : Sp := sp2 K vP (vD (eL eA)) _law_pick_3_w (eV eA)
abbrev s__law_bent : Stmt := topS 34
theorem sc__law_bent : FnScope ["pot", "value", "spots", "here", "way", "around", "at"] ["pot", "value"] (defScope s__law_bent) := ⟨rfl, rfl, rfl, by decide +kernel, rfl, by decide +kernel, by decide +kernel⟩
abbrev sp__law_bent (K : PySem.W.Frag) : Sp := sp2 K vP (vD (eP3 (eW "web") eI (eT (eP2 eI eI)))) _law_bent_w (eV eA)
abbrev s__law_is_whole : Stmt := topS 32
theorem sc__law_is_whole : FnScope ["value", "least", "most"] ["value", "least", "most"] (defScope s__law_is_whole) := ⟨rfl, rfl, rfl, by decide +kernel, rfl, by decide +kernel, by decide +kernel⟩
abbrev sp__law_is_whole (K : PySem.W.Frag) : Sp := sp3 K (vD eA) (vD eI) (vD eI) _law_is_whole_w (eV eB)
abbrev s__law_is_web : Stmt := topS 33
theorem sc__law_is_web : FnScope ["value", "pair", "near", "far", "one"] ["value"] (defScope s__law_is_web) := ⟨rfl, rfl, rfl, by decide +kernel, rfl, by decide +kernel, by decide +kernel⟩
abbrev sp__law_is_web (K : PySem.W.Frag) : Sp := sp1 K (vD eA) _law_is_web_w (eV eB)
abbrev s__law_is_joined : Stmt := topS 36
theorem sc__law_is_joined : FnScope ["value"] ["value"] (defScope s__law_is_joined) := ⟨rfl, rfl, rfl, by decide +kernel, rfl, by decide +kernel, by decide +kernel⟩
abbrev sp__law_is_joined (K : PySem.W.Frag) : Sp := sp1 K (vD eA) _law_is_joined_w (eV eB)
abbrev s__law_is_firm : Stmt := topS 37
theorem sc__law_is_firm : FnScope ["value", "pair"] ["value"] (defScope s__law_is_firm) := ⟨rfl, rfl, rfl, by decide +kernel, rfl, by decide +kernel, by decide +kernel⟩
abbrev sp__law_is_firm (K : PySem.W.Frag) : Sp := sp1 K (vD eA) _law_is_firm_w (eV eB)
abbrev sp_is_tuple_3 (K : PySem.W.Frag) : Sp := sp2 K (vD eA) (vD eI) is_tuple_3_w (eV eB)
abbrev sp_is_integer_2 (K : PySem.W.Frag) : Sp := sp1 K (vD eA) is_integer_2_w (eV eB)
abbrev sp_is_within_2 (K : PySem.W.Frag) : Sp := sp3 K (vD eA) (vD eI) (vD eI) is_within_2_w (eV eB)
abbrev sp_is_pair_of_2 (K : PySem.W.Frag) : Sp := sp2 K (vD eA) (vD eA) is_pair_of_2_w (eV eB)
abbrev sp_are_pairs_of_2 (K : PySem.W.Frag) : Sp := sp2 K (vD eA) (vD eA) are_pairs_of_2_w (eV eB)
abbrev sp_is_web_value_2 (K : PySem.W.Frag) : Sp := sp1 K (vD eA) is_web_value_2_w (eV eB)
abbrev sp_is_joined_value_2 (K : PySem.W.Frag) : Sp := sp1 K (vD eA) is_joined_value_2_w (eV eB)
abbrev s_is_joined : Stmt := topS 19
theorem sc_is_joined : FnScope ["value"] ["value"] (defScope s_is_joined) := ⟨rfl, rfl, rfl, by decide +kernel, rfl, by decide +kernel, by decide +kernel⟩
abbrev sp_is_joined (K : PySem.W.Frag) : Sp := sp1 K (vD eA) is_joined_w (eV eB)
abbrev sp_is_firm_value_2 (K : PySem.W.Frag) : Sp := sp1 K (vD eA) is_firm_value_2_w (eV eB)
abbrev sp_is_firm_2 (K : PySem.W.Frag) : Sp := sp1 K (vD eA) is_firm_2_w (eV eB)
abbrev s__law_right : Stmt := topS 40
theorem sc__law_right : FnScope ["pot", "made", "web", "values", "turn", "value", "shown", "due", "kept", "pair"] ["pot"] (defScope s__law_right) := ⟨rfl, rfl, rfl, by decide +kernel, rfl, by decide +kernel, by decide +kernel⟩
abbrev sp__law_right (K : PySem.W.Frag) : Sp := sp1 K vP _law_right_w (eV eB)
abbrev s_law : Stmt := topS 41
theorem sc_law : FnScope ["script", "k"] ["script"] (defScope s_law) := ⟨rfl, rfl, rfl, by decide +kernel, rfl, by decide +kernel, by decide +kernel⟩
abbrev sp_law (K : PySem.W.Frag) : Sp := sp1 K (vD (eL eI)) law_w (eV eB)
section
variable {P : Program} {w : World} {K : PySem.W.Frag} {mg : Str → Option Value} {base : Heap}
set_option maxHeartbeats 0 in
theorem ok__law_pot {f : Addr} {fd : FuncData} (F : Fun K "_law_pot" "_law_pot" s__law_pot f fd) (B : Blt mg)  : FnG P w K mg base 1 f fd ["script", "k"] (sp__law_pot K) := by
  refine fgPot (fnN (xs := (fun a : ((List Int) × Int) => [(vD (eL eI)) a.1, (vD eI) a.2])) (f := (fun a : ((List Int) × Int) => _law_pot_w a.1 a.2)) (eR := (eN eI)) F sc__law_pot (fun _ => rfl) fun cdv A outer s H E hr hgd => ?_)
  have hu := hr.units
  refine ⟨_, (pss_cons (ps_set (i := 2) sc__law_pot.nd rfl (.inl rfl) (pe_ifExp (pt_cmpR (op_ltD hu) (pv 1) (pe_callB call_lenG (by rfl) B.n_len (by decide +kernel) (pa_cons (pv 0) pa_nil)) (nomark _)) (pe_callB call_absG (by rfl) B.n_abs (by decide +kernel) (pa_cons (pe_ix ix_seq (pv 0) (pv 1) (fun _ _ => rfl)) pa_nil)) (pe_op op_addG (pe_op op_mulG pe_int (pv 1)) pe_int)))
      (pss_one (ps_ret (pe_lst (pa_cons (pe_callB (call_maxG rfl hu) (by rfl) B.n_max (by decide +kernel) (pa_cons pe_int (pa_cons (pe_op op_subG (pv 2) (pe_op op_powG pe_int pe_int)) pa_nil))) (pa_cons (pe_op op_addG (pe_op op_modG (pe_callTy call_intG (by rfl) B.n_int (by decide +kernel) (pa_cons (pe_op op_addG (pe_op op_addG (pe_op op_mulG (pe_op op_modG (pe_callTy call_intG (by rfl) B.n_int (by decide +kernel) (pa_cons (pv 2) pa_nil)) pe_int) pe_int) (pe_op op_mulG pe_int (pv 1))) pe_int) pa_nil)) pe_int) pe_int) pa_nil)))))), ?_⟩
  rintro ⟨y_script, y_k⟩ R
  show SxW K _ _ _ R (_law_pot_w y_script y_k)
  unfold _law_pot_w
  refine sw_start [.im (.d ((eL eI) y_script)), .im (.d (eI y_k)), .no] rfl ?_
  refine (sw_set 2 (fun (y_cell_4227 : Int) => [.im (.d ((eL eI) y_script)), .im (.d (eI y_k)), .im (.d (eI y_cell_4227))]) (x_if (t_test (x_op (x_var (e := eI) 1 rfl) (x_cb1 (x_var (e := (eL eI)) 0 rfl) c_lenL) r_ltI)) (x_cb1 (x_op (x_var (e := (eL eI)) 0 rfl) (x_var (e := eI) 1 rfl) r_ixL) c_abs) (x_op (x_op x_int (x_var (e := eI) 1 rfl) r_mul) x_int r_add)) stV (fun _ => rfl) fun y_cell_4227 => ?_)
  exact (sw_ret (g := fun (y_r_4254 : (List Int)) => y_r_4254) (x_lst (f := eI) (xn_cons (x_cb2 x_int (x_op (x_var (e := eI) 2 rfl) (x_op x_int x_int r_pow) r_sub) c_max2) (xn_cons (x_op (x_op (x_cb1 (x_op (x_op (x_op (x_op (x_cb1 (x_var (e := eI) 2 rfl) c_int) x_int r_mod) x_int r_mul) (x_op x_int (x_var (e := eI) 1 rfl) r_mul) r_add) x_int r_add) c_int) x_int r_mod) x_int r_add) xn_nil))) (fun a z hz hr => ⟨a, hz, hr⟩) (fun a z hz hr => ⟨a, hz, hr⟩))
set_option maxHeartbeats 0 in
theorem ok__law_draw {f : Addr} {fd : FuncData} (F : Fun K "_law_draw" "_law_draw" s__law_draw f fd) (B : Blt mg)  : FnG P w K mg base 1 f fd ["pot", "many"] (sp__law_draw K) := by
  exact fgDraw (fnDraw F sc__law_draw rfl rfl (c1 := 40014) (c2 := 977) (m1 := 2147483587) (m2 := 2147483549) (dv := 17) (by omega) (by omega) (by omega) (by omega) (by omega) (by omega) (by omega) (by omega) fun cdv A outer s H E hr => by
    have hu := hr.units
    exact (pss_cons (ps_if (pt_cmpR op_gtG (pe_ix ix_seq (pv 0) pe_int (fun _ _ => rfl)) pe_int (nomark _))
      (pss_cons (ps_asg (pe_callB call_divmodG (by rfl) B.n_divmod (by decide +kernel) (pa_cons (pe_ix ix_seq (pv 0) pe_int (fun _ _ => rfl)) (pa_cons (pv 1) pa_nil))) (pg_tup (by rfl) (pgs_cons (pg_sub (pv 0) pe_int set_list) (pgs_cons (pg_name (i := 2) sc__law_draw.nd rfl (.inl rfl)) pgs_nil))))
      (pss_one (ps_ret (pv 2))))
      pss_nil)
      (pss_cons (ps_asg (pe_op op_modG (pe_callTy call_intG (by rfl) B.n_int (by decide +kernel) (pa_cons (pe_op op_addG (pe_op op_mulG (pe_ix ix_seq (pv 0) pe_int (fun _ _ => rfl)) pe_int) pe_int) pa_nil)) pe_int) (pg_sub (pv 0) pe_int set_list))
      (pss_one (ps_ret (pe_op op_modG (pe_callTy call_intG (by rfl) B.n_int (by decide +kernel) (pa_cons (pe_op op_divG (pe_op op_modG (pe_callTy call_intG (by rfl) B.n_int (by decide +kernel) (pa_cons (pe_op op_mulG (pe_ix ix_seq (pv 0) pe_int (fun _ _ => rfl)) (pe_ix ix_seq (pv 0) pe_int (fun _ _ => rfl))) pa_nil)) pe_int) pe_int) pa_nil)) (pv 1)))))))
set_option maxHeartbeats 0 in
theorem ok__law_pick {f : Addr} {fd : FuncData} (F : Fun K "_law_pick" "_law_pick" s__law_pick f fd) (B : Blt mg) (g__law_draw : ClG P w K mg base 1 "_law_draw" (sp__law_draw K)) : FnG P w K mg base 2 f fd ["pot", "some"] (sp__law_pick K) := by
  refine fnN (xs := (fun a : (Unit × (List Int)) => [vP a.1, (vD (eL eI)) a.2])) (f := (fun a : (Unit × (List Int)) => _law_pick_w a.1 a.2)) (eR := (eV eI)) F sc__law_pick (fun _ => rfl) fun cdv A outer s H E hr hgd => ?_
  have hu := hr.units
  refine ⟨_, (pss_one (ps_ret (pe_ix ix_seq (pv 1) (pe_clg g__law_draw hgd hr (by decide) (by rfl) (pa_cons (pv 0) (pa_cons (pe_callB call_lenG (by rfl) B.n_len (by decide +kernel) (pa_cons (pv 1) pa_nil)) pa_nil))) (fun _ _ => rfl)))), ?_⟩
  rintro ⟨y_pot, y_some⟩ R
  show SxW K _ _ _ R (_law_pick_w y_pot y_some)
  unfold _law_pick_w
  refine sw_start [.im .pot, .im (.d ((eL eI) y_some))] rfl ?_
  exact (sw_ret (g := fun (y_r_4260 : Int) => y_r_4260) (x_op (x_var (e := (eL eI)) 1 rfl) (x_call2 (f := _law_draw_w) (x_pot 0 rfl) (x_cb1 (x_var (e := (eL eI)) 1 rfl) c_lenL)) r_ixL) (fun a z hz hr => ⟨a, hz, hr⟩) (fun a z hz hr => ⟨a, hz, hr⟩))
set_option maxHeartbeats 0 in
theorem ok__law_all_pairs {f : Addr} {fd : FuncData} (F : Fun K "_law_all_pairs" "_law_all_pairs" s__law_all_pairs f fd) (B : Blt mg)  : FnG P w K mg base 1 f fd ["persons"] (sp__law_all_pairs K) := by
  refine fnN (xs := (fun a : Int => [(vD eI) a])) (f := (fun a : Int => _law_all_pairs_w a)) (eR := (eN (eP2 eI eI))) F sc__law_all_pairs (fun _ => rfl) fun cdv A outer s H E hr hgd => ?_
  have hu := hr.units
  refine ⟨_, (pss_cons (ps_set (i := 1) sc__law_all_pairs.nd rfl (.inl rfl) (pe_lst pa_nil))
      (pss_cons (ps_for PassesOwn.never rfl (pi_range1 (by rfl) B.n_range (pa_cons (pv 0) pa_nil)) (pg_name (i := 2) sc__law_all_pairs.nd rfl (.inr rfl))
      (pss_one (ps_expr (pe_bm PySem.F.plainAttrs_list PySem.F.slot_list_extend PySem.F.type_list_extend mt_extend (pv 1) (pa_cons (pe_lc (own := [("other", 3)]) (g := (gName 3)) (tt := tYes) (te := (tTup (tCons (tVar 2) (tCons (tVar 3) tNil)))) (by rfl) sc__law_all_pairs.nd (pi_range2 (by rfl) B.n_range (pa_cons (pe_op op_addG (pv 2) pe_int) (pa_cons (pv 0) pa_nil))) (blkOk_by (own := [("other", 3)]) (by first | decide +kernel | rfl)) (fun _ _ _ _ _ => (pg_name (i := 3) sc__law_all_pairs.nd rfl (by first | exact Or.inl rfl | exact Or.inr rfl))) (fun _ _ _ _ _ => pts_nil) (fun _ _ _ _ _ => (pe_tup (pa_cons (pv 2) (pa_cons (pv 3) pa_nil))))) pa_nil)))))
      (pss_one (ps_ret (pv 1))))), ?_⟩
  rintro y_persons R
  show SxW K _ _ _ R (_law_all_pairs_w y_persons)
  unfold _law_all_pairs_w
  refine sw_start [.im (.d (eI y_persons)), .no, .no, .no] rfl ?_
  refine (sw_set 1 (fun (y_found_4261 : (List (Int × Int))) => [.im (.d (eI y_persons)), .mu (List.map (eP2 eI eI) y_found_4261), .no, .no]) (x_lst (f := (eP2 eI eI)) xn_nil) stL (fun _ => rfl) fun y_found_4261 => ?_)
  refine (sw_forS (js := [2]) (eI' := eI) (s0 := y_found_4261) (fun (y_s_4274 : (List (Int × Int))) => [.im (.d (eI y_persons)), .mu (List.map (eP2 eI eI) y_s_4274), .no, .no]) (fun (y_i_4263 : Int) (y_s_4274 : (List (Int × Int))) => [.im (.d (eI y_persons)), .mu (List.map (eP2 eI eI) y_s_4274), .im (.d (eI y_i_4263)), .no]) (xi_range1 (x_var (e := eI) 0 rfl)) (less_same (less_same (less_no (less_no less_nil)))) (fun y_i_4263 y_s_4274 => (tg_name trivial)) (fun y_i_4263 y_s_4274 _ => (sw_last (sw_ext (f := (eP2 eI eI)) 1 (fun (y_found_4284 : (List (Int × Int))) => [.im (.d (eI y_persons)), .mu (List.map (eP2 eI eI) y_found_4284), .im (.d (eI y_i_4263)), .no]) rfl (x_lc (js := [3]) (eI' := eI) (f := (eP2 eI eI)) (es2 := fun (y_i_4280 : Int) => [.im (.d (eI y_persons)), .mu (List.map (eP2 eI eI) y_s_4274), .im (.d (eI y_i_4263)), .im (.d (eI y_i_4280))]) (xi_range2 (x_op (x_var (e := eI) 2 rfl) x_int r_add) (x_var (e := eI) 0 rfl)) (by decide) (fun y_i_4280 => (tg_name trivial)) (fun y_i_4280 => t_yes) (fun y_i_4280 => (x_tup2 (x_var (e := eI) 2 rfl) (x_var (e := eI) 3 rfl)))) (fun _ => rfl) fun y_found_4284 => (sw_end fun h => ⟨y_found_4284, (less_same (less_same (less_no (less_no less_nil)))), h⟩)))) fun y_s_4286 => ?_)
  exact (sw_retMu 1 rfl fun hr => ⟨y_s_4286, rfl, hr⟩)
set_option maxHeartbeats 0 in
theorem ok__law_web {f : Addr} {fd : FuncData} (F : Fun K "_law_web" "_law_web" s__law_web f fd) (B : Blt mg) (g__law_draw : ClG P w K mg base 1 "_law_draw" (sp__law_draw K)) (g__law_pick : ClG P w K mg base 2 "_law_pick" (sp__law_pick K)) (g__law_all_pairs : ClG P w K mg base 1 "_law_all_pairs" (sp__law_all_pairs K)) : FnG P w K mg base 3 f fd ["pot", "most"] (sp__law_web K) := by
  refine fnN (xs := (fun a : (Unit × Int) => [vP a.1, (vD eI) a.2])) (f := (fun a : (Unit × Int) => _law_web_w a.1 a.2)) (eR := (eV (eP3 (eW "web") eI (eT (eP2 eI eI))))) F sc__law_web (fun _ => rfl) fun cdv A outer s H E hr hgd => ?_
  have hu := hr.units
  refine ⟨_, (pss_cons (ps_asg (pe_tup (pa_cons (pe_op op_addG pe_int (pe_clg g__law_draw hgd hr (by decide) (by rfl) (pa_cons (pv 0) (pa_cons (pv 1) pa_nil)))) (pa_cons (pe_clg g__law_pick hgd hr (by decide) (by rfl) (pa_cons (pv 0) (pa_cons (pe_lst (pa_cons pe_int (pa_cons pe_int (pa_cons pe_int (pa_cons pe_int pa_nil))))) pa_nil))) pa_nil))) (pg_tup (by rfl) (pgs_cons (pg_name (i := 2) sc__law_web.nd rfl (.inl rfl)) (pgs_cons (pg_name (i := 3) sc__law_web.nd rfl (.inr rfl)) pgs_nil))))
      (pss_one (ps_ret (pe_tup (pa_cons pe_str (pa_cons (pv 2) (pa_cons (pe_callTy call_tupG (by rfl) B.n_tuple (by decide +kernel) (pa_cons (pe_lc (own := [("pair", 4)]) (g := (gName 4)) (tt := (tTest (tOp (rLtD K) (tCall (sp__law_draw K) [] E0 (tCons (tVar 0) (tCons (tC (.int 5)) tNil))) (tVar 3)))) (te := (tVar 4)) (by rfl) sc__law_web.nd (pi_seq (pe_clg g__law_all_pairs hgd hr (by decide) (by rfl) (pa_cons (pv 2) pa_nil))) (blkOk_by (own := [("pair", 4)]) (by first | decide +kernel | rfl)) (fun _ _ _ _ _ => (pg_name (i := 4) sc__law_web.nd rfl (by first | exact Or.inl rfl | exact Or.inr rfl))) (fun _ _ _ _ _ => (pts_one (pt_cmpR (op_ltD hu) (pe_clg g__law_draw hgd hr (by decide) (by rfl) (pa_cons (pv 0) (pa_cons pe_int pa_nil))) (pv 3) (nomark _)))) (fun _ _ _ _ _ => (pv 4))) pa_nil)) pa_nil))))))), ?_⟩
  rintro ⟨y_pot, y_most⟩ R
  show SxW K _ _ _ R (_law_web_w y_pot y_most)
  unfold _law_web_w
  refine sw_start [.im .pot, .im (.d (eI y_most)), .no, .no, .no] rfl ?_
  refine (sw_tup (n := 2) [2, 3] (fun (y_s_4302 : (Int × Int)) => [.im .pot, .im (.d (eI y_most)), .im (.d (eI y_s_4302.1)), .im (.d (eI y_s_4302.2)), .no]) (xm_2 stV stV (x_op x_int (x_call2 (f := _law_draw_w) (x_pot 0 rfl) (x_var (e := eI) 1 rfl)) r_add) (x_call2 (f := _law_pick_w) (x_pot 0 rfl) (x_close (x_lst (f := eI) (xn_cons x_int (xn_cons x_int (xn_cons x_int (xn_cons x_int xn_nil)))))))) (fun _ => rfl) rfl (by decide) (fun _ => rfl) fun y_s_4302 => ?_)
  exact (sw_ret (g := fun (y_r_4314 : (Unit × Int × (List (Int × Int)))) => y_r_4314) (x_tup3 x_str (x_var (e := eI) 2 rfl) (x_cb1 (x_close (x_lc (js := [4]) (eI' := (eP2 eI eI)) (f := (eP2 eI eI)) (es2 := fun (y_i_4304 : (Int × Int)) => [.im .pot, .im (.d (eI y_most)), .im (.d (eI y_s_4302.1)), .im (.d (eI y_s_4302.2)), .im (.d ((eP2 eI eI) y_i_4304))]) (xi_L (x_close (x_call1 (f := _law_all_pairs_w) (x_var (e := eI) 2 rfl)))) (by decide) (fun y_i_4304 => (tg_name trivial)) (fun y_i_4304 => (t_test (x_op (x_call2 (f := _law_draw_w) (x_pot 0 rfl) x_int) (x_var (e := eI) 3 rfl) r_ltI))) (fun y_i_4304 => (x_var (e := (eP2 eI eI)) 4 rfl)))) c_tupL)) (fun a z hz hr => ⟨a, hz, hr⟩) (fun a z hz hr => ⟨a, hz, hr⟩))
set_option maxHeartbeats 0 in
theorem ok__law_mixed {f : Addr} {fd : FuncData} (F : Fun K "_law_mixed" "_law_mixed" s__law_mixed f fd) (B : Blt mg) (g__law_draw : ClG P w K mg base 1 "_law_draw" (sp__law_draw K)) : FnG P w K mg base 2 f fd ["pot", "many"] (sp__law_mixed K) := by
  refine fnN (xs := (fun a : (Unit × Int) => [vP a.1, (vD eI) a.2])) (f := (fun a : (Unit × Int) => _law_mixed_w a.1 a.2)) (eR := (eN eI)) F sc__law_mixed (fun _ => rfl) fun cdv A outer s H E hr hgd => ?_
  have hu := hr.units
  refine ⟨_, (pss_cons (ps_par (i := 2) (j := 3) rfl sc__law_mixed.nd rfl rfl (by decide) rfl rfl (pa_cons (pe_listRg rfl (by rfl) B.n_list (prg_1 (by rfl) B.n_range (pv 1))) (pa_cons (pe_lst pa_nil) pa_nil)) (by rfl))
      (pss_cons (ps_for PassesOwn.never rfl (pi_range1 (by rfl) B.n_range (pa_cons (pv 1) pa_nil)) (pg_name (i := 4) sc__law_mixed.nd rfl (.inl rfl))
      (pss_one (ps_expr (pe_bm PySem.F.plainAttrs_list PySem.F.slot_list_append PySem.F.type_list_append mt_append (pv 3) (pa_cons (pe_bm PySem.F.plainAttrs_list PySem.F.slot_list_pop PySem.F.type_list_pop mt_popAt (pv 2) (pa_cons (pe_clg g__law_draw hgd hr (by decide) (by rfl) (pa_cons (pv 0) (pa_cons (pe_callB call_lenG (by rfl) B.n_len (by decide +kernel) (pa_cons (pv 2) pa_nil)) pa_nil))) pa_nil)) pa_nil)))))
      (pss_one (ps_ret (pv 3))))), ?_⟩
  rintro ⟨y_pot, y_many⟩ R
  show SxW K _ _ _ R (_law_mixed_w y_pot y_many)
  unfold _law_mixed_w
  refine sw_start [.im .pot, .im (.d (eI y_many)), .no, .no, .no] rfl ?_
  refine (sw_par 2 3 (fun (y_s_4318 : ((List Int) × (List Int))) => [.im .pot, .im (.d (eI y_many)), .mu (List.map eI y_s_4318.1), .mu (List.map eI y_s_4318.2), .no]) (xm_2 stL stL (x_lstRg1 (x_var (e := eI) 1 rfl)) (x_lst (f := eI) xn_nil)) (fun _ => rfl) (fun _ => rfl) fun y_s_4318 => ?_)
  refine (sw_forS (js := [4]) (eI' := eI) (s0 := (y_s_4318.1, y_s_4318.2)) (fun (y_s_4329 : ((List Int) × (List Int))) => [.im .pot, .im (.d (eI y_many)), .mu (List.map eI y_s_4329.1), .mu (List.map eI y_s_4329.2), .no]) (fun (y_i_4320 : Int) (y_s_4329 : ((List Int) × (List Int))) => [.im .pot, .im (.d (eI y_many)), .mu (List.map eI y_s_4329.1), .mu (List.map eI y_s_4329.2), .im (.d (eI y_i_4320))]) (xi_range1 (x_var (e := eI) 1 rfl)) (less_same (less_same (less_same (less_same (less_no less_nil))))) (fun y_i_4320 y_s_4329 => (tg_name trivial)) (fun y_i_4320 y_s_4329 _ => (sw_last (sw_popApp (rest := fun (y_left_4334 y_found_4335 : (List Int)) => (W.pure (y_left_4334, y_found_4335))) 2 3 (by decide) (fun (y_left_4334 y_found_4335 : (List Int)) => [.im .pot, .im (.d (eI y_many)), .mu (List.map eI y_left_4334), .mu (List.map eI y_found_4335), .im (.d (eI y_i_4320))]) rfl rfl (x_open 2 rfl sc_int (x_call2 (f := _law_draw_w) (x_pot 0 rfl) (x_cb1 (x_var (e := (eL eI)) 2 rfl) c_lenL))) (fun _ _ => rfl) fun y_left_4334 y_found_4335 => (sw_end fun h => ⟨(y_left_4334, y_found_4335), (less_same (less_same (less_same (less_same (less_no less_nil))))), h⟩)))) fun y_s_4339 => ?_)
  exact (sw_retMu 3 rfl fun hr => ⟨y_s_4339.2, rfl, hr⟩)
set_option maxHeartbeats 0 in
theorem ok__law_forest {f : Addr} {fd : FuncData} (F : Fun K "_law_forest" "_law_forest" s__law_forest f fd) (B : Blt mg) (g__law_draw : ClG P w K mg base 1 "_law_draw" (sp__law_draw K)) (g__law_mixed : ClG P w K mg base 2 "_law_mixed" (sp__law_mixed K)) (g__law_pick : ClG P w K mg base 2 "_law_pick" (sp__law_pick K)) : FnG P w K mg base 3 f fd ["pot", "most"] (sp__law_forest K) := by
  refine fnN (xs := (fun a : (Unit × Int) => [vP a.1, (vD eI) a.2])) (f := (fun a : (Unit × Int) => _law_forest_w a.1 a.2)) (eR := (eV (eP3 (eW "web") eI (eT (eP2 eI eI))))) F sc__law_forest (fun _ => rfl) fun cdv A outer s H E hr hgd => ?_
  have hu := hr.units
  refine ⟨_, (pss_cons (ps_set (i := 2) sc__law_forest.nd rfl (.inl rfl) (pe_op op_addG pe_int (pe_clg g__law_draw hgd hr (by decide) (by rfl) (pa_cons (pv 0) (pa_cons (pv 1) pa_nil)))))
      (pss_cons (ps_par (i := 3) (j := 4) rfl sc__law_forest.nd rfl rfl (by decide) rfl rfl (pa_cons (pe_clg g__law_mixed hgd hr (by decide) (by rfl) (pa_cons (pv 0) (pa_cons (pv 2) pa_nil))) (pa_cons (pe_lst pa_nil) pa_nil)) (by rfl))
      (pss_cons (ps_set (i := 5) sc__law_forest.nd rfl (.inl rfl) (pe_clg g__law_pick hgd hr (by decide) (by rfl) (pa_cons (pv 0) (pa_cons (pe_lst (pa_cons pe_int (pa_cons pe_int (pa_cons pe_int (pa_cons pe_int pa_nil))))) pa_nil))))
      (pss_cons (ps_for PassesOwn.never rfl (pi_range2 (by rfl) B.n_range (pa_cons pe_int (pa_cons (pv 2) pa_nil))) (pg_name (i := 6) sc__law_forest.nd rfl (.inl rfl))
      (pss_one (ps_if (pt_cmpR (op_gtD hu) (pe_clg g__law_draw hgd hr (by decide) (by rfl) (pa_cons (pv 0) (pa_cons (pv 5) pa_nil))) pe_int (nomark _))
      (pss_one (ps_expr (pe_bm PySem.F.plainAttrs_list PySem.F.slot_list_append PySem.F.type_list_append mt_append (pv 4) (pa_cons (pe_callTy call_tupG (by rfl) B.n_tuple (by decide +kernel) (pa_cons (pe_callB (cr_sortedG hu) (by rfl) B.n_sorted (by decide +kernel) (pa_cons (pe_lst (pa_cons (pe_ix ix_seq (pv 3) (pv 6) (fun _ _ => rfl)) (pa_cons (pe_ix ix_seq (pv 3) (pe_clg g__law_draw hgd hr (by decide) (by rfl) (pa_cons (pv 0) (pa_cons (pv 6) pa_nil))) (fun _ _ => rfl)) pa_nil))) pa_nil)) pa_nil)) pa_nil))))
      pss_nil)))
      (pss_one (ps_ret (pe_tup (pa_cons pe_str (pa_cons (pv 2) (pa_cons (pe_callTy call_tupG (by rfl) B.n_tuple (by decide +kernel) (pa_cons (pe_callB (cr_sortedG hu) (by rfl) B.n_sorted (by decide +kernel) (pa_cons (pv 4) pa_nil)) pa_nil)) pa_nil)))))))))), ?_⟩
  rintro ⟨y_pot, y_most⟩ R
  show SxW K _ _ _ R (_law_forest_w y_pot y_most)
  unfold _law_forest_w
  refine sw_start [.im .pot, .im (.d (eI y_most)), .no, .no, .no, .no, .no] rfl ?_
  refine (sw_set 2 (fun (y_persons_4347 : Int) => [.im .pot, .im (.d (eI y_most)), .im (.d (eI y_persons_4347)), .no, .no, .no, .no]) (x_op x_int (x_call2 (f := _law_draw_w) (x_pot 0 rfl) (x_var (e := eI) 1 rfl)) r_add) stV (fun _ => rfl) fun y_persons_4347 => ?_)
  refine (sw_par 3 4 (fun (y_s_4350 : ((List Int) × (List (Int × Int)))) => [.im .pot, .im (.d (eI y_most)), .im (.d (eI y_persons_4347)), .im (.d ((eL eI) y_s_4350.1)), .mu (List.map (eP2 eI eI) y_s_4350.2), .no, .no]) (xm_2 stV stL (x_close (x_call2 (f := _law_mixed_w) (x_pot 0 rfl) (x_var (e := eI) 2 rfl))) (x_lst (f := (eP2 eI eI)) xn_nil)) (fun _ => rfl) (fun _ => rfl) fun y_s_4350 => ?_)
  refine (sw_set 5 (fun (y_gaps_4361 : Int) => [.im .pot, .im (.d (eI y_most)), .im (.d (eI y_persons_4347)), .im (.d ((eL eI) y_s_4350.1)), .mu (List.map (eP2 eI eI) y_s_4350.2), .im (.d (eI y_gaps_4361)), .no]) (x_call2 (f := _law_pick_w) (x_pot 0 rfl) (x_close (x_lst (f := eI) (xn_cons x_int (xn_cons x_int (xn_cons x_int (xn_cons x_int xn_nil))))))) stV (fun _ => rfl) fun y_gaps_4361 => ?_)
  refine (sw_forS (js := [6]) (eI' := eI) (s0 := y_s_4350.2) (fun (y_s_4385 : (List (Int × Int))) => [.im .pot, .im (.d (eI y_most)), .im (.d (eI y_persons_4347)), .im (.d ((eL eI) y_s_4350.1)), .mu (List.map (eP2 eI eI) y_s_4385), .im (.d (eI y_gaps_4361)), .no]) (fun (y_i_4364 : Int) (y_s_4385 : (List (Int × Int))) => [.im .pot, .im (.d (eI y_most)), .im (.d (eI y_persons_4347)), .im (.d ((eL eI) y_s_4350.1)), .mu (List.map (eP2 eI eI) y_s_4385), .im (.d (eI y_gaps_4361)), .im (.d (eI y_i_4364))]) (xi_range2 x_int (x_var (e := eI) 2 rfl)) (less_same (less_same (less_same (less_same (less_same (less_same (less_no less_nil))))))) (fun y_i_4364 y_s_4385 => (tg_name trivial)) (fun y_i_4364 y_s_4385 _ => (sw_if (t_test (x_op (x_call2 (f := _law_draw_w) (x_pot 0 rfl) (x_var (e := eI) 5 rfl)) x_int r_gtI)) (sw_last (sw_app (f := (eP2 eI eI)) 4 (fun (y_pairs_4405 : (List (Int × Int))) => [.im .pot, .im (.d (eI y_most)), .im (.d (eI y_persons_4347)), .im (.d ((eL eI) y_s_4350.1)), .mu (List.map (eP2 eI eI) y_pairs_4405), .im (.d (eI y_gaps_4361)), .im (.d (eI y_i_4364))]) rfl (x_cp (f := (eT eI)) (g := (eP2 eI eI)) (cp_TP2 (cp_of cv_id) (cp_of cv_id)) (x_cb1 (x_close (x_cb1 (x_close (x_lst (f := eI) (xn_cons (x_op (x_var (e := (eL eI)) 3 rfl) (x_var (e := eI) 6 rfl) r_ixL) (xn_cons (x_op (x_var (e := (eL eI)) 3 rfl) (x_call2 (f := _law_draw_w) (x_pot 0 rfl) (x_var (e := eI) 6 rfl)) r_ixL) xn_nil)))) c_sortL)) c_tupL)) (fun _ => rfl) fun y_pairs_4405 => (sw_end fun h => ⟨y_pairs_4405, (less_same (less_same (less_same (less_same (less_same (less_same (less_no less_nil))))))), h⟩))) (sw_end fun h => ⟨y_s_4385, (less_same (less_same (less_same (less_same (less_same (less_same (less_no less_nil))))))), h⟩))) fun y_s_4407 => ?_)
  refine (sw_shut 4 [.im .pot, .im (.d (eI y_most)), .im (.d (eI y_persons_4347)), .im (.d ((eL eI) y_s_4350.1)), .im (.d ((eL (eP2 eI eI)) y_s_4407)), .im (.d (eI y_gaps_4361)), .no] rfl rfl ?_)
  exact (sw_ret (g := fun (y_r_4413 : (Unit × Int × (List (Int × Int)))) => y_r_4413) (x_tup3 x_str (x_var (e := eI) 2 rfl) (x_cb1 (x_close (x_cb1 (x_var (e := (eL (eP2 eI eI))) 4 rfl) (c_sortP (ok_P2 ok_int ok_int ek_int ek_int (lt_irr ok_int)) (dk_P2 dk_int dk_int) (by decide) (fun _ => ⟨_, _, rfl⟩)))) c_tupL)) (fun a z hz hr => ⟨a, hz, hr⟩) (fun a z hz hr => ⟨a, hz, hr⟩))
set_option maxHeartbeats 0 in
theorem ok__law_ring {f : Addr} {fd : FuncData} (F : Fun K "_law_ring" "_law_ring" s__law_ring f fd) (B : Blt mg) (g__law_draw : ClG P w K mg base 1 "_law_draw" (sp__law_draw K)) (g__law_mixed : ClG P w K mg base 2 "_law_mixed" (sp__law_mixed K)) (g__law_all_pairs : ClG P w K mg base 1 "_law_all_pairs" (sp__law_all_pairs K)) : FnG P w K mg base 3 f fd ["pot"] (sp__law_ring K) := by
  refine fnN (xs := (fun a : Unit => [vP a])) (f := (fun a : Unit => _law_ring_w a)) (eR := (eV (eP3 (eW "web") eI (eT (eP2 eI eI))))) F sc__law_ring (fun _ => rfl) fun cdv A outer s H E hr hgd => ?_
  have hu := hr.units
  refine ⟨_, (pss_cons (ps_set (i := 1) sc__law_ring.nd rfl (.inl rfl) (pe_op op_addG pe_int (pe_clg g__law_draw hgd hr (by decide) (by rfl) (pa_cons (pv 0) (pa_cons pe_int pa_nil)))))
      (pss_cons (ps_par (i := 2) (j := 3) rfl sc__law_ring.nd rfl rfl (by decide) rfl rfl (pa_cons (pe_clg g__law_mixed hgd hr (by decide) (by rfl) (pa_cons (pv 0) (pa_cons (pv 1) pa_nil))) (pa_cons (pe_lst pa_nil) pa_nil)) (by rfl))
      (pss_cons (ps_for PassesOwn.never rfl (pi_range1 (by rfl) B.n_range (pa_cons (pv 1) pa_nil)) (pg_name (i := 4) sc__law_ring.nd rfl (.inl rfl))
      (pss_one (ps_expr (pe_bm PySem.F.plainAttrs_list PySem.F.slot_list_append PySem.F.type_list_append mt_append (pv 3) (pa_cons (pe_callTy call_tupG (by rfl) B.n_tuple (by decide +kernel) (pa_cons (pe_callB (cr_sortedG hu) (by rfl) B.n_sorted (by decide +kernel) (pa_cons (pe_lst (pa_cons (pe_ix ix_seq (pv 2) (pv 4) (fun _ _ => rfl)) (pa_cons (pe_ix ix_seq (pv 2) (pe_callTy call_intG (by rfl) B.n_int (by decide +kernel) (pa_cons (pe_op op_modG (pe_op op_addG (pv 4) pe_int) (pv 1)) pa_nil)) (fun _ _ => rfl)) pa_nil))) pa_nil)) pa_nil)) pa_nil)))))
      (pss_cons (ps_expr (pe_bm PySem.F.plainAttrs_list PySem.F.slot_list_extend PySem.F.type_list_extend mt_extend (pv 3) (pa_cons (pe_lc (own := [("pair", 5)]) (g := (gName 5)) (tt := (tTest (tOp (rEqP K) (tCall (sp__law_draw K) [] E0 (tCons (tVar 0) (tCons (tC (.int 6)) tNil))) (tC (.int 0))))) (te := (tVar 5)) (by rfl) sc__law_ring.nd (pi_seq (pe_clg g__law_all_pairs hgd hr (by decide) (by rfl) (pa_cons (pv 1) pa_nil))) (blkOk_by (own := [("pair", 5)]) (by first | decide +kernel | rfl)) (fun _ _ _ _ _ => (pg_name (i := 5) sc__law_ring.nd rfl (by first | exact Or.inl rfl | exact Or.inr rfl))) (fun _ _ _ _ _ => (pts_one (pt_cmpR (op_eqP hu) (pe_clg g__law_draw hgd hr (by decide) (by rfl) (pa_cons (pv 0) (pa_cons pe_int pa_nil))) pe_int (nomark _)))) (fun _ _ _ _ _ => (pv 5))) pa_nil)))
      (pss_one (ps_ret (pe_tup (pa_cons pe_str (pa_cons (pv 1) (pa_cons (pe_callTy call_tupG (by rfl) B.n_tuple (by decide +kernel) (pa_cons (pe_callB (cr_sortedT rfl) (by rfl) B.n_sorted (by decide +kernel) (pa_cons (pe_callTy (cr_setRows rfl hu) (by rfl) B.n_set (by decide +kernel) (pa_cons (pv 3) pa_nil)) pa_nil)) pa_nil)) pa_nil)))))))))), ?_⟩
  rintro y_pot R
  show SxW K _ _ _ R (_law_ring_w y_pot)
  unfold _law_ring_w
  refine sw_start [.im .pot, .no, .no, .no, .no, .no] rfl ?_
  refine (sw_set 1 (fun (y_persons_4421 : Int) => [.im .pot, .im (.d (eI y_persons_4421)), .no, .no, .no, .no]) (x_op x_int (x_call2 (f := _law_draw_w) (x_pot 0 rfl) x_int) r_add) stV (fun _ => rfl) fun y_persons_4421 => ?_)
  refine (sw_par 2 3 (fun (y_s_4424 : ((List Int) × (List (Int × Int)))) => [.im .pot, .im (.d (eI y_persons_4421)), .im (.d ((eL eI) y_s_4424.1)), .mu (List.map (eP2 eI eI) y_s_4424.2), .no, .no]) (xm_2 stV stL (x_close (x_call2 (f := _law_mixed_w) (x_pot 0 rfl) (x_var (e := eI) 1 rfl))) (x_lst (f := (eP2 eI eI)) xn_nil)) (fun _ => rfl) (fun _ => rfl) fun y_s_4424 => ?_)
  refine (sw_forS (js := [4]) (eI' := eI) (s0 := y_s_4424.2) (fun (y_s_4445 : (List (Int × Int))) => [.im .pot, .im (.d (eI y_persons_4421)), .im (.d ((eL eI) y_s_4424.1)), .mu (List.map (eP2 eI eI) y_s_4445), .no, .no]) (fun (y_i_4426 : Int) (y_s_4445 : (List (Int × Int))) => [.im .pot, .im (.d (eI y_persons_4421)), .im (.d ((eL eI) y_s_4424.1)), .mu (List.map (eP2 eI eI) y_s_4445), .im (.d (eI y_i_4426)), .no]) (xi_range1 (x_var (e := eI) 1 rfl)) (less_same (less_same (less_same (less_same (less_no (less_no less_nil)))))) (fun y_i_4426 y_s_4445 => (tg_name trivial)) (fun y_i_4426 y_s_4445 _ => (sw_last (sw_app (f := (eP2 eI eI)) 3 (fun (y_pairs_4463 : (List (Int × Int))) => [.im .pot, .im (.d (eI y_persons_4421)), .im (.d ((eL eI) y_s_4424.1)), .mu (List.map (eP2 eI eI) y_pairs_4463), .im (.d (eI y_i_4426)), .no]) rfl (x_cp (f := (eT eI)) (g := (eP2 eI eI)) (cp_TP2 (cp_of cv_id) (cp_of cv_id)) (x_cb1 (x_close (x_cb1 (x_close (x_lst (f := eI) (xn_cons (x_op (x_var (e := (eL eI)) 2 rfl) (x_var (e := eI) 4 rfl) r_ixL) (xn_cons (x_op (x_var (e := (eL eI)) 2 rfl) (x_cb1 (x_op (x_op (x_var (e := eI) 4 rfl) x_int r_add) (x_var (e := eI) 1 rfl) r_mod) c_int) r_ixL) xn_nil)))) c_sortL)) c_tupL)) (fun _ => rfl) fun y_pairs_4463 => (sw_end fun h => ⟨y_pairs_4463, (less_same (less_same (less_same (less_same (less_no (less_no less_nil)))))), h⟩)))) fun y_s_4465 => ?_)
  refine (sw_ext (f := (eP2 eI eI)) 3 (fun (y_pairs_4473 : (List (Int × Int))) => [.im .pot, .im (.d (eI y_persons_4421)), .im (.d ((eL eI) y_s_4424.1)), .mu (List.map (eP2 eI eI) y_pairs_4473), .no, .no]) rfl (x_lc (js := [5]) (eI' := (eP2 eI eI)) (f := (eP2 eI eI)) (es2 := fun (y_i_4467 : (Int × Int)) => [.im .pot, .im (.d (eI y_persons_4421)), .im (.d ((eL eI) y_s_4424.1)), .mu (List.map (eP2 eI eI) y_s_4465), .no, .im (.d ((eP2 eI eI) y_i_4467))]) (xi_L (x_close (x_call1 (f := _law_all_pairs_w) (x_var (e := eI) 1 rfl)))) (by decide) (fun y_i_4467 => (tg_name trivial)) (fun y_i_4467 => (t_test (x_op (x_call2 (f := _law_draw_w) (x_pot 0 rfl) x_int) x_int (r_eq ek_int dk_int (by decide))))) (fun y_i_4467 => (x_var (e := (eP2 eI eI)) 5 rfl))) (fun _ => rfl) fun y_pairs_4473 => ?_)
  refine (sw_shut 3 [.im .pot, .im (.d (eI y_persons_4421)), .im (.d ((eL eI) y_s_4424.1)), .im (.d ((eL (eP2 eI eI)) y_pairs_4473)), .no, .no] rfl rfl ?_)
  exact (sw_ret (g := fun (y_r_4480 : (Unit × Int × (List (Int × Int)))) => y_r_4480) (x_tup3 x_str (x_var (e := eI) 1 rfl) (x_cb1 (x_close (x_sortSetP (fun (y_a_4475 : (List (Int × Int))) => y_a_4475) (fun _ => .inl rfl) (x_var (e := (eL (eP2 eI eI))) 3 rfl))) c_tupL)) (fun a z hz hr => ⟨a, hz, hr⟩) (fun a z hz hr => ⟨a, hz, hr⟩))
set_option maxHeartbeats 0 in
theorem ok__law_two {f : Addr} {fd : FuncData} (F : Fun K "_law_two" "_law_two" s__law_two f fd) (B : Blt mg) (g__law_mixed : ClG P w K mg base 2 "_law_mixed" (sp__law_mixed K)) (g__law_draw : ClG P w K mg base 1 "_law_draw" (sp__law_draw K)) : FnG P w K mg base 3 f fd ["pot"] (sp__law_two K) := by
  refine fnN (xs := (fun a : Unit => [vP a])) (f := (fun a : Unit => _law_two_w a)) (eR := (eV (eP3 (eW "web") eI (eT (eP2 eI eI))))) F sc__law_two (fun _ => rfl) fun cdv A outer s H E hr hgd => ?_
  have hu := hr.units
  refine ⟨_, (pss_cons (ps_set (i := 1) sc__law_two.nd rfl (.inr rfl) (pe_clg g__law_mixed hgd hr (by decide) (by rfl) (pa_cons (pv 0) (pa_cons pe_int pa_nil))))
      (pss_cons (ps_set (i := 2) sc__law_two.nd rfl (.inl rfl) (pe_lst (pa_cons (pe_tup (pa_cons pe_int (pa_cons pe_int pa_nil))) (pa_cons (pe_tup (pa_cons pe_int (pa_cons pe_int pa_nil))) (pa_cons (pe_tup (pa_cons pe_int (pa_cons pe_int pa_nil))) (pa_cons (pe_tup (pa_cons pe_int (pa_cons pe_int pa_nil))) (pa_cons (pe_tup (pa_cons pe_int (pa_cons pe_int pa_nil))) (pa_cons (pe_tup (pa_cons pe_int (pa_cons pe_int pa_nil))) (pa_cons (pe_tup (pa_cons pe_int (pa_cons pe_int pa_nil))) pa_nil)))))))))
      (pss_cons (ps_setLc (i := 2) (own := [("pair", 3)]) (g := (gName 3)) (tt := (tTest (tOp (rGtD K) (tCall (sp__law_draw K) [] E0 (tCons (tVar 0) (tCons (tC (.int 12)) tNil))) (tC (.int 0))))) (te := (tVar 3)) (by rfl) sc__law_two.nd rfl rfl (sw_true rfl rfl rfl (by decide +kernel)) (pi_seq (pv 2)) (blkOk_by (own := [("pair", 3)]) (by first | decide +kernel | rfl)) (fun _ _ _ _ _ => (pg_name (i := 3) sc__law_two.nd rfl (by first | exact Or.inl rfl | exact Or.inr rfl))) (fun _ _ _ _ _ => (pts_one (pt_cmpR (op_gtD hu) (pe_clg g__law_draw hgd hr (by decide) (by rfl) (pa_cons (pv 0) (pa_cons pe_int pa_nil))) pe_int (nomark _)))) (fun _ _ _ _ _ => (pv 3)))
      (pss_one (ps_ret (pe_tup (pa_cons pe_str (pa_cons pe_int (pa_cons (pe_callTy call_tupG (by rfl) B.n_tuple (by decide +kernel) (pa_cons (pe_callB (cr_sortedG hu) (by rfl) B.n_sorted (by decide +kernel) (pa_cons (pe_lc (own := [("one", 4), ("other", 5)]) (g := (gTup K 2 (gCons (gName 4) (gCons (gName 5) gNil)))) (tt := tYes) (te := (tCB (rTupOf K) (tCons (tCB (rSortedG K) (tCons (tLst (tCons (tOp (rIx K) (tVar 1) (tVar 4)) (tCons (tOp (rIx K) (tVar 1) (tVar 5)) tNil))) tNil)) tNil))) (by rfl) sc__law_two.nd (pi_seq (pv 2)) (blkOk_by (own := [("one", 4), ("other", 5)]) (by first | decide +kernel | rfl)) (fun _ _ _ _ _ => (pg_tup (by rfl) (pgs_cons (pg_name (i := 4) sc__law_two.nd rfl (by first | exact Or.inl rfl | exact Or.inr rfl)) (pgs_cons (pg_name (i := 5) sc__law_two.nd rfl (by first | exact Or.inl rfl | exact Or.inr rfl)) pgs_nil)))) (fun _ _ _ _ _ => pts_nil) (fun _ _ _ _ _ => (pe_callTy call_tupG (by rfl) B.n_tuple (by decide +kernel) (pa_cons (pe_callB (cr_sortedG hu) (by rfl) B.n_sorted (by decide +kernel) (pa_cons (pe_lst (pa_cons (pe_ix ix_seq (pv 1) (pv 4) (fun _ _ => rfl)) (pa_cons (pe_ix ix_seq (pv 1) (pv 5) (fun _ _ => rfl)) pa_nil))) pa_nil)) pa_nil)))) pa_nil)) pa_nil)) pa_nil))))))))), ?_⟩
  rintro y_pot R
  show SxW K _ _ _ R (_law_two_w y_pot)
  unfold _law_two_w
  refine sw_start [.im .pot, .no, .no, .no, .no, .no] rfl ?_
  refine (sw_set 1 (fun (y_names_4486 : (List Int)) => [.im .pot, .im (.d ((eL eI) y_names_4486)), .no, .no, .no, .no]) (x_close (x_call2 (f := _law_mixed_w) (x_pot 0 rfl) x_int)) stV (fun _ => rfl) fun y_names_4486 => ?_)
  refine (sw_set 2 (fun (y_pairs_4515 : (List (Int × Int))) => [.im .pot, .im (.d ((eL eI) y_names_4486)), .im (.d ((eL (eP2 eI eI)) y_pairs_4515)), .no, .no, .no]) (x_close (x_lst (f := (eP2 eI eI)) (xn_cons (x_tup2 x_int x_int) (xn_cons (x_tup2 x_int x_int) (xn_cons (x_tup2 x_int x_int) (xn_cons (x_tup2 x_int x_int) (xn_cons (x_tup2 x_int x_int) (xn_cons (x_tup2 x_int x_int) (xn_cons (x_tup2 x_int x_int) xn_nil))))))))) stV (fun _ => rfl) fun y_pairs_4515 => ?_)
  refine (sw_set 2 (fun (y_pairs_4522 : (List (Int × Int))) => [.im .pot, .im (.d ((eL eI) y_names_4486)), .im (.d ((eL (eP2 eI eI)) y_pairs_4522)), .no, .no, .no]) (x_close (x_lc (js := [3]) (eI' := (eP2 eI eI)) (f := (eP2 eI eI)) (es2 := fun (y_i_4516 : (Int × Int)) => [.im .pot, .im (.d ((eL eI) y_names_4486)), .im (.d ((eL (eP2 eI eI)) y_pairs_4515)), .im (.d ((eP2 eI eI) y_i_4516)), .no, .no]) (xi_L (x_var (e := (eL (eP2 eI eI))) 2 rfl)) (by decide) (fun y_i_4516 => (tg_name trivial)) (fun y_i_4516 => (t_test (x_op (x_call2 (f := _law_draw_w) (x_pot 0 rfl) x_int) x_int r_gtI))) (fun y_i_4516 => (x_var (e := (eP2 eI eI)) 3 rfl)))) stV (fun _ => rfl) fun y_pairs_4522 => ?_)
  exact (sw_ret (g := fun (y_r_4541 : (Unit × Int × (List (Int × Int)))) => y_r_4541) (x_tup3 x_str x_int (x_cb1 (x_close (x_cb1 (x_close (x_lc (js := [4, 5]) (eI' := (eP2 eI eI)) (f := (eP2 eI eI)) (es2 := fun (y_i_4523 : (Int × Int)) => [.im .pot, .im (.d ((eL eI) y_names_4486)), .im (.d ((eL (eP2 eI eI)) y_pairs_4522)), .no, .im (.d (eI (y_i_4523.1))), .im (.d (eI (y_i_4523.2)))]) (xi_L (x_var (e := (eL (eP2 eI eI))) 2 rfl)) (by decide) (fun y_i_4523 => (tg_tup (js := [4, 5]) (tgs_cons (js := [4]) (ks := [5]) (tg_name trivial) (tgs_cons (js := [5]) (ks := []) (tg_name trivial) tgs_nil)) rfl)) (fun y_i_4523 => t_yes) (fun y_i_4523 => (x_cp (f := (eT eI)) (g := (eP2 eI eI)) (cp_TP2 (cp_of cv_id) (cp_of cv_id)) (x_cb1 (x_close (x_cb1 (x_close (x_lst (f := eI) (xn_cons (x_op (x_var (e := (eL eI)) 1 rfl) (x_var (e := eI) 4 rfl) r_ixL) (xn_cons (x_op (x_var (e := (eL eI)) 1 rfl) (x_var (e := eI) 5 rfl) r_ixL) xn_nil)))) c_sortL)) c_tupL))))) (c_sortP (ok_P2 ok_int ok_int ek_int ek_int (lt_irr ok_int)) (dk_P2 dk_int dk_int) (by decide) (fun _ => ⟨_, _, rfl⟩)))) c_tupL)) (fun a z hz hr => ⟨a, hz, hr⟩) (fun a z hz hr => ⟨a, hz, hr⟩))
set_option maxHeartbeats 0 in
theorem ok__law_pieces {f : Addr} {fd : FuncData} (F : Fun K "_law_pieces" "_law_pieces" s__law_pieces f fd) (B : Blt mg)  : FnG P w K mg base 1 f fd ["persons", "pairs"] (sp__law_pieces K) := by
  refine fnN (xs := (fun a : (Int × (List (Int × Int))) => [(vD eI) a.1, (vD (eL (eP2 eI eI))) a.2])) (f := (fun a : (Int × (List (Int × Int))) => _law_pieces_w a.1 a.2)) (eR := (eN (eT eI))) F sc__law_pieces (fun _ => rfl) fun cdv A outer s H E hr hgd => ?_
  have hu := hr.units
  refine ⟨_, (pss_cons (ps_par (i := 2) (j := 3) rfl sc__law_pieces.nd rfl rfl (by decide) rfl rfl (pa_cons (pe_listRg rfl (by rfl) B.n_list (prg_1 (by rfl) B.n_range (pv 0))) (pa_cons (pe_lst pa_nil) pa_nil)) (by rfl))
      (pss_cons (ps_while PassesOwn.never (pt_cmpR (op_neP hu) (pv 2) (pe_lst pa_nil) (nomark _))
      (pss_cons (ps_asg (pe_tup (pa_cons (pe_lst (pa_cons (pe_ix ix_seq (pv 2) pe_int (fun _ _ => rfl)) pa_nil)) (pa_cons (pe_lst (pa_cons (pe_ix ix_seq (pv 2) pe_int (fun _ _ => rfl)) pa_nil)) pa_nil))) (pg_tup (by rfl) (pgs_cons (pg_name (i := 4) sc__law_pieces.nd rfl (.inr rfl)) (pgs_cons (pg_name (i := 5) sc__law_pieces.nd rfl (.inl rfl)) pgs_nil))))
      (pss_cons (ps_while PassesOwn.never (pt_cmpR (op_neP hu) (pv 5) (pe_lst pa_nil) (nomark _))
      (pss_cons (ps_set (i := 6) sc__law_pieces.nd rfl (.inl rfl) (pe_bm0 PySem.F.plainAttrs_list PySem.F.slot_list_pop PySem.F.type_list_pop mt_pop (pv 5)))
      (pss_one (ps_for PassesOwn.never rfl (pi_seq (pv 1)) (pg_name (i := 7) sc__law_pieces.nd rfl (.inl rfl))
      (pss_one (ps_if (PW.pt (pw_and (pt_cmpR (op_inP hu) (pv 6) (pv 7) (by rfl)) (pw_and1 (pt_cmpR (op_notInP hu) (pe_op op_subG (pe_callB (cr_sumD rfl) (by rfl) B.n_sum (by decide +kernel) (pa_cons (pv 7) pa_nil)) (pv 6)) (pv 4) (by rfl)))))
      (pss_cons (ps_expr (pe_bm PySem.F.plainAttrs_list PySem.F.slot_list_append PySem.F.type_list_append mt_append (pv 4) (pa_cons (pe_op op_subG (pe_callB (cr_sumD rfl) (by rfl) B.n_sum (by decide +kernel) (pa_cons (pv 7) pa_nil)) (pv 6)) pa_nil)))
      (pss_one (ps_expr (pe_bm PySem.F.plainAttrs_list PySem.F.slot_list_append PySem.F.type_list_append mt_append (pv 5) (pa_cons (pe_op op_subG (pe_callB (cr_sumD rfl) (by rfl) B.n_sum (by decide +kernel) (pa_cons (pv 7) pa_nil)) (pv 6)) pa_nil)))))
      pss_nil))))))
      (pss_cons (ps_expr (pe_bm PySem.F.plainAttrs_list PySem.F.slot_list_append PySem.F.type_list_append mt_append (pv 3) (pa_cons (pe_callTy call_tupG (by rfl) B.n_tuple (by decide +kernel) (pa_cons (pe_callB (cr_sortedG hu) (by rfl) B.n_sorted (by decide +kernel) (pa_cons (pv 4) pa_nil)) pa_nil)) pa_nil)))
      (pss_one (ps_setLc (i := 2) (own := [("person", 8)]) (g := (gName 8)) (tt := (tTest (tOp (rNotInP K) (tVar 8) (tVar 4)))) (te := (tVar 8)) (by rfl) sc__law_pieces.nd rfl rfl (sw_true rfl rfl rfl (by decide +kernel)) (pi_seq (pv 2)) (blkOk_by (own := [("person", 8)]) (by first | decide +kernel | rfl)) (fun _ _ _ _ _ => (pg_name (i := 8) sc__law_pieces.nd rfl (by first | exact Or.inl rfl | exact Or.inr rfl))) (fun _ _ _ _ _ => (pts_one (pt_cmpR (op_notInP hu) (pv 8) (pv 4) (by rfl)))) (fun _ _ _ _ _ => (pv 8))))))))
      (pss_one (ps_ret (pv 3))))), ?_⟩
  rintro ⟨y_persons, y_pairs⟩ R
  show SxW K _ _ _ R (_law_pieces_w y_persons y_pairs)
  unfold _law_pieces_w
  refine sw_start [.im (.d (eI y_persons)), .im (.d ((eL (eP2 eI eI)) y_pairs)), .no, .no, .no, .no, .no, .no, .no] rfl ?_
  refine (sw_par 2 3 (fun (y_s_4543 : ((List Int) × (List (List Int)))) => [.im (.d (eI y_persons)), .im (.d ((eL (eP2 eI eI)) y_pairs)), .im (.d ((eL eI) y_s_4543.1)), .mu (List.map (eT eI) y_s_4543.2), .no, .no, .no, .no, .no]) (xm_2 stV stL (x_close (x_lstRg1 (x_var (e := eI) 0 rfl))) (x_lst (f := (eT eI)) xn_nil)) (fun _ => rfl) (fun _ => rfl) fun y_s_4543 => ?_)
  refine (sw_while (s0 := (y_s_4543.1, y_s_4543.2)) (fun (y_s_4679 : ((List Int) × (List (List Int)))) => [.im (.d (eI y_persons)), .im (.d ((eL (eP2 eI eI)) y_pairs)), .im (.d ((eL eI) y_s_4679.1)), .mu (List.map (eT eI) y_s_4679.2), .no, .no, .no, .no, .no]) (less_same (less_same (less_same (less_same (less_no (less_no (less_no (less_no (less_no less_nil))))))))) (fun y_s_4679 => (t_test (x_op (x_var (e := (eL eI)) 2 rfl) (x_close (x_lst (f := eI) xn_nil)) (r_ne (ek_L ek_int) (dk_L dk_int) (by decide))))) (fun y_s_4679 _ => (sw_tup (n := 2) [4, 5] (fun (y_s_4691 : ((List Int) × (List Int))) => [.im (.d (eI y_persons)), .im (.d ((eL (eP2 eI eI)) y_pairs)), .im (.d ((eL eI) y_s_4679.1)), .mu (List.map (eT eI) y_s_4679.2), .mu (List.map eI y_s_4691.1), .mu (List.map eI y_s_4691.2), .no, .no, .no]) (xm_2 stL stL (x_lst (f := eI) (xn_cons (x_op (x_var (e := (eL eI)) 2 rfl) x_int r_ixL) xn_nil)) (x_lst (f := eI) (xn_cons (x_op (x_var (e := (eL eI)) 2 rfl) x_int r_ixL) xn_nil))) (fun _ => rfl) rfl (by decide) (fun _ => rfl) fun y_s_4691 => (sw_while (s0 := (y_s_4691.1, y_s_4691.2)) (fun (y_s_4747 : ((List Int) × (List Int))) => [.im (.d (eI y_persons)), .im (.d ((eL (eP2 eI eI)) y_pairs)), .im (.d ((eL eI) y_s_4679.1)), .mu (List.map (eT eI) y_s_4679.2), .mu (List.map eI y_s_4747.1), .mu (List.map eI y_s_4747.2), .no, .no, .no]) (less_same (less_same (less_same (less_same (less_same (less_same (less_no (less_no (less_no less_nil))))))))) (fun y_s_4747 => (t_test (x_open 5 rfl sc_bool (x_op (x_var (e := (eL eI)) 5 rfl) (x_close (x_lst (f := eI) xn_nil)) (r_ne (ek_L ek_int) (dk_L dk_int) (by decide)))))) (fun y_s_4747 _ => (sw_pop (rest := fun (y_here_4751 : Int) (y_last_4752 : (List Int)) => (W.bind (W.pure y_pairs) fun (y_l_4803 : List (Int × Int)) => W.bind (W.forS y_l_4803 (y_s_4747.1, y_last_4752) fun (y_i_4753 : (Int × Int)) (y_s_4777 : ((List Int) × (List Int))) => (W.bind (W.bind (W.bind (W.pure y_here_4751) fun (y_a_4780 : Int) => W.bind (W.bind (W.pure y_i_4753) fun (y_a_4779 : (Int × Int)) => W.pure ((fun p => [((fun a => a) p.1), ((fun a => a) p.2)]) y_a_4779)) fun (y_b_4781 : (List Int)) => W.pure (W.mem y_a_4780 y_b_4781)) fun (y_b_4788 : Bool) => W.ite y_b_4788 (W.bind (W.bind (W.bind (W.bind (W.pure y_i_4753) fun (y_a_4782 : (Int × Int)) => W.pure ((fun p => [((fun a => a) p.1), ((fun a => a) p.2)]) y_a_4782)) fun (y_a_4783 : (List Int)) => W.pure y_a_4783.sum) fun (y_a_4784 : Int) => W.bind (W.pure y_here_4751) fun (y_b_4785 : Int) => W.pure (y_a_4784 - y_b_4785)) fun (y_a_4786 : Int) => W.bind (W.pure y_s_4777.1) fun (y_b_4787 : (List Int)) => W.pure (!W.mem y_a_4786 y_b_4787)) (W.pure false)) fun (y_b_4789 : Bool) => W.ite y_b_4789 (W.bind (W.bind (W.bind (W.bind (W.pure y_i_4753) fun (y_a_4790 : (Int × Int)) => W.pure ((fun p => [((fun a => a) p.1), ((fun a => a) p.2)]) y_a_4790)) fun (y_a_4791 : (List Int)) => W.pure y_a_4791.sum) fun (y_a_4792 : Int) => W.bind (W.pure y_here_4751) fun (y_b_4793 : Int) => W.pure (y_a_4792 - y_b_4793)) fun (y_a_4795 : Int) => W.bind (W.app y_s_4777.1 y_a_4795) fun (y_lot_4794 : (List Int)) => (W.bind (W.bind (W.bind (W.bind (W.pure y_i_4753) fun (y_a_4796 : (Int × Int)) => W.pure ((fun p => [((fun a => a) p.1), ((fun a => a) p.2)]) y_a_4796)) fun (y_a_4797 : (List Int)) => W.pure y_a_4797.sum) fun (y_a_4798 : Int) => W.bind (W.pure y_here_4751) fun (y_b_4799 : Int) => W.pure (y_a_4798 - y_b_4799)) fun (y_a_4801 : Int) => W.bind (W.app y_s_4777.2 y_a_4801) fun (y_last_4800 : (List Int)) => (W.pure (y_lot_4794, y_last_4800)))) (W.pure (y_s_4777.1, y_s_4777.2)))) fun (y_s_4802 : ((List Int) × (List Int))) => (W.pure (y_s_4802.1, y_s_4802.2)))) 5 6 (fun y_here_4751 y_last_4752 => [.im (.d (eI y_persons)), .im (.d ((eL (eP2 eI eI)) y_pairs)), .im (.d ((eL eI) y_s_4679.1)), .mu (List.map (eT eI) y_s_4679.2), .mu (List.map eI y_s_4747.1), .mu (List.map eI y_last_4752), .im (.d (eI y_here_4751)), .no, .no]) rfl (fun _ _ => rfl) fun y_here_4751 y_last_4752 => (sw_last (sw_forS (js := [7]) (eI' := (eP2 eI eI)) (s0 := (y_s_4747.1, y_last_4752)) (fun (y_s_4777 : ((List Int) × (List Int))) => [.im (.d (eI y_persons)), .im (.d ((eL (eP2 eI eI)) y_pairs)), .im (.d ((eL eI) y_s_4679.1)), .mu (List.map (eT eI) y_s_4679.2), .mu (List.map eI y_s_4777.1), .mu (List.map eI y_s_4777.2), .im (.d (eI y_here_4751)), .no, .no]) (fun (y_i_4753 : (Int × Int)) (y_s_4777 : ((List Int) × (List Int))) => [.im (.d (eI y_persons)), .im (.d ((eL (eP2 eI eI)) y_pairs)), .im (.d ((eL eI) y_s_4679.1)), .mu (List.map (eT eI) y_s_4679.2), .mu (List.map eI y_s_4777.1), .mu (List.map eI y_s_4777.2), .im (.d (eI y_here_4751)), .im (.d ((eP2 eI eI) y_i_4753)), .no]) (xi_L (x_var (e := (eL (eP2 eI eI))) 1 rfl)) (less_same (less_same (less_same (less_same (less_same (less_same (less_same (less_no (less_no less_nil))))))))) (fun y_i_4753 y_s_4777 => (tg_name trivial)) (fun y_i_4753 y_s_4777 _ => (sw_if (t_and (t_test (x_op (x_var (e := eI) 6 rfl) (x_cv (f := (eP2 eI eI)) (g := (eT eI)) (cv_PT2 cv_id cv_id) (x_var (e := (eP2 eI eI)) 7 rfl)) (r_inT ek_int dk_int (by decide)))) (t_test (x_open 4 rfl sc_bool (x_op (x_op (x_cb1 (x_cv (f := (eP2 eI eI)) (g := (eT eI)) (cv_PT2 cv_id cv_id) (x_var (e := (eP2 eI eI)) 7 rfl)) c_sumT) (x_var (e := eI) 6 rfl) r_sub) (x_var (e := (eL eI)) 4 rfl) (r_ninL ek_int dk_int (by decide)))))) (sw_app (f := eI) 4 (fun (y_lot_4794 : (List Int)) => [.im (.d (eI y_persons)), .im (.d ((eL (eP2 eI eI)) y_pairs)), .im (.d ((eL eI) y_s_4679.1)), .mu (List.map (eT eI) y_s_4679.2), .mu (List.map eI y_lot_4794), .mu (List.map eI y_s_4777.2), .im (.d (eI y_here_4751)), .im (.d ((eP2 eI eI) y_i_4753)), .no]) rfl (x_op (x_cb1 (x_cv (f := (eP2 eI eI)) (g := (eT eI)) (cv_PT2 cv_id cv_id) (x_var (e := (eP2 eI eI)) 7 rfl)) c_sumT) (x_var (e := eI) 6 rfl) r_sub) (fun _ => rfl) fun y_lot_4794 => (sw_last (sw_app (f := eI) 5 (fun (y_last_4800 : (List Int)) => [.im (.d (eI y_persons)), .im (.d ((eL (eP2 eI eI)) y_pairs)), .im (.d ((eL eI) y_s_4679.1)), .mu (List.map (eT eI) y_s_4679.2), .mu (List.map eI y_lot_4794), .mu (List.map eI y_last_4800), .im (.d (eI y_here_4751)), .im (.d ((eP2 eI eI) y_i_4753)), .no]) rfl (x_op (x_cb1 (x_cv (f := (eP2 eI eI)) (g := (eT eI)) (cv_PT2 cv_id cv_id) (x_var (e := (eP2 eI eI)) 7 rfl)) c_sumT) (x_var (e := eI) 6 rfl) r_sub) (fun _ => rfl) fun y_last_4800 => (sw_end fun h => ⟨(y_lot_4794, y_last_4800), (less_same (less_same (less_same (less_same (less_same (less_same (less_same (less_no (less_no less_nil))))))))), h⟩)))) (sw_end fun h => ⟨(y_s_4777.1, y_s_4777.2), (less_same (less_same (less_same (less_same (less_same (less_same (less_same (less_no (less_no less_nil))))))))), h⟩))) fun y_s_4802 => (sw_end fun h => ⟨(y_s_4802.1, y_s_4802.2), (less_same (less_same (less_same (less_same (less_same (less_same (less_no (less_no (less_no less_nil))))))))), h⟩))))) fun y_s_4804 => (sw_shut 4 [.im (.d (eI y_persons)), .im (.d ((eL (eP2 eI eI)) y_pairs)), .im (.d ((eL eI) y_s_4679.1)), .mu (List.map (eT eI) y_s_4679.2), .im (.d ((eL eI) y_s_4804.1)), .mu (List.map eI y_s_4804.2), .no, .no, .no] rfl rfl (sw_app (f := (eT eI)) 3 (fun (y_found_4807 : (List (List Int))) => [.im (.d (eI y_persons)), .im (.d ((eL (eP2 eI eI)) y_pairs)), .im (.d ((eL eI) y_s_4679.1)), .mu (List.map (eT eI) y_found_4807), .im (.d ((eL eI) y_s_4804.1)), .mu (List.map eI y_s_4804.2), .no, .no, .no]) rfl (x_cb1 (x_close (x_cb1 (x_var (e := (eL eI)) 4 rfl) c_sortL)) c_tupL) (fun _ => rfl) fun y_found_4807 => (sw_last (sw_set 2 (fun (y_left_4813 : (List Int)) => [.im (.d (eI y_persons)), .im (.d ((eL (eP2 eI eI)) y_pairs)), .im (.d ((eL eI) y_left_4813)), .mu (List.map (eT eI) y_found_4807), .im (.d ((eL eI) y_s_4804.1)), .mu (List.map eI y_s_4804.2), .no, .no, .no]) (x_close (x_lc (js := [8]) (eI' := eI) (f := eI) (es2 := fun (y_i_4809 : Int) => [.im (.d (eI y_persons)), .im (.d ((eL (eP2 eI eI)) y_pairs)), .im (.d ((eL eI) y_s_4679.1)), .mu (List.map (eT eI) y_found_4807), .im (.d ((eL eI) y_s_4804.1)), .mu (List.map eI y_s_4804.2), .no, .no, .im (.d (eI y_i_4809))]) (xi_L (x_var (e := (eL eI)) 2 rfl)) (by decide) (fun y_i_4809 => (tg_name trivial)) (fun y_i_4809 => (t_test (x_op (x_var (e := eI) 8 rfl) (x_var (e := (eL eI)) 4 rfl) (r_ninL ek_int dk_int (by decide))))) (fun y_i_4809 => (x_var (e := eI) 8 rfl)))) stV (fun _ => rfl) fun y_left_4813 => (sw_end fun h => ⟨(y_left_4813, y_found_4807), (less_same (less_same (less_same (less_same (less_no (less_no (less_no (less_no (less_no less_nil))))))))), h⟩)))))))) fun y_s_4816 => ?_)
  exact (sw_retMu 3 rfl fun hr => ⟨y_s_4816.2, rfl, hr⟩)
set_option maxHeartbeats 0 in
theorem ok__law_pieces_2 {f : Addr} {fd : FuncData} (F : Fun K "_law_pieces" "_law_pieces" s__law_pieces f fd) (B : Blt mg)  : FnG P w K mg base 1 f fd ["persons", "pairs"] (sp__law_pieces_2 K) := by
  refine fnN (xs := (fun a : (Int × (List (Int × Int))) => [(vD eI) a.1, (vD (eT (eP2 eI eI))) a.2])) (f := (fun a : (Int × (List (Int × Int))) => _law_pieces_2_w a.1 a.2)) (eR := (eN (eT eI))) F sc__law_pieces (fun _ => rfl) fun cdv A outer s H E hr hgd => ?_
  have hu := hr.units
  refine ⟨_, (pss_cons (ps_par (i := 2) (j := 3) rfl sc__law_pieces.nd rfl rfl (by decide) rfl rfl (pa_cons (pe_listRg rfl (by rfl) B.n_list (prg_1 (by rfl) B.n_range (pv 0))) (pa_cons (pe_lst pa_nil) pa_nil)) (by rfl))
      (pss_cons (ps_while PassesOwn.never (pt_cmpR (op_neP hu) (pv 2) (pe_lst pa_nil) (nomark _))
      (pss_cons (ps_asg (pe_tup (pa_cons (pe_lst (pa_cons (pe_ix ix_seq (pv 2) pe_int (fun _ _ => rfl)) pa_nil)) (pa_cons (pe_lst (pa_cons (pe_ix ix_seq (pv 2) pe_int (fun _ _ => rfl)) pa_nil)) pa_nil))) (pg_tup (by rfl) (pgs_cons (pg_name (i := 4) sc__law_pieces.nd rfl (.inr rfl)) (pgs_cons (pg_name (i := 5) sc__law_pieces.nd rfl (.inl rfl)) pgs_nil))))
      (pss_cons (ps_while PassesOwn.never (pt_cmpR (op_neP hu) (pv 5) (pe_lst pa_nil) (nomark _))
      (pss_cons (ps_set (i := 6) sc__law_pieces.nd rfl (.inl rfl) (pe_bm0 PySem.F.plainAttrs_list PySem.F.slot_list_pop PySem.F.type_list_pop mt_pop (pv 5)))
      (pss_one (ps_for PassesOwn.never rfl (pi_seq (pv 1)) (pg_name (i := 7) sc__law_pieces.nd rfl (.inl rfl))
      (pss_one (ps_if (PW.pt (pw_and (pt_cmpR (op_inP hu) (pv 6) (pv 7) (by rfl)) (pw_and1 (pt_cmpR (op_notInP hu) (pe_op op_subG (pe_callB (cr_sumD rfl) (by rfl) B.n_sum (by decide +kernel) (pa_cons (pv 7) pa_nil)) (pv 6)) (pv 4) (by rfl)))))
      (pss_cons (ps_expr (pe_bm PySem.F.plainAttrs_list PySem.F.slot_list_append PySem.F.type_list_append mt_append (pv 4) (pa_cons (pe_op op_subG (pe_callB (cr_sumD rfl) (by rfl) B.n_sum (by decide +kernel) (pa_cons (pv 7) pa_nil)) (pv 6)) pa_nil)))
      (pss_one (ps_expr (pe_bm PySem.F.plainAttrs_list PySem.F.slot_list_append PySem.F.type_list_append mt_append (pv 5) (pa_cons (pe_op op_subG (pe_callB (cr_sumD rfl) (by rfl) B.n_sum (by decide +kernel) (pa_cons (pv 7) pa_nil)) (pv 6)) pa_nil)))))
      pss_nil))))))
      (pss_cons (ps_expr (pe_bm PySem.F.plainAttrs_list PySem.F.slot_list_append PySem.F.type_list_append mt_append (pv 3) (pa_cons (pe_callTy call_tupG (by rfl) B.n_tuple (by decide +kernel) (pa_cons (pe_callB (cr_sortedG hu) (by rfl) B.n_sorted (by decide +kernel) (pa_cons (pv 4) pa_nil)) pa_nil)) pa_nil)))
      (pss_one (ps_setLc (i := 2) (own := [("person", 8)]) (g := (gName 8)) (tt := (tTest (tOp (rNotInP K) (tVar 8) (tVar 4)))) (te := (tVar 8)) (by rfl) sc__law_pieces.nd rfl rfl (sw_true rfl rfl rfl (by decide +kernel)) (pi_seq (pv 2)) (blkOk_by (own := [("person", 8)]) (by first | decide +kernel | rfl)) (fun _ _ _ _ _ => (pg_name (i := 8) sc__law_pieces.nd rfl (by first | exact Or.inl rfl | exact Or.inr rfl))) (fun _ _ _ _ _ => (pts_one (pt_cmpR (op_notInP hu) (pv 8) (pv 4) (by rfl)))) (fun _ _ _ _ _ => (pv 8))))))))
      (pss_one (ps_ret (pv 3))))), ?_⟩
  rintro ⟨y_persons, y_pairs⟩ R
  show SxW K _ _ _ R (_law_pieces_2_w y_persons y_pairs)
  unfold _law_pieces_2_w
  refine sw_start [.im (.d (eI y_persons)), .im (.d ((eT (eP2 eI eI)) y_pairs)), .no, .no, .no, .no, .no, .no, .no] rfl ?_
  refine (sw_par 2 3 (fun (y_s_4820 : ((List Int) × (List (List Int)))) => [.im (.d (eI y_persons)), .im (.d ((eT (eP2 eI eI)) y_pairs)), .im (.d ((eL eI) y_s_4820.1)), .mu (List.map (eT eI) y_s_4820.2), .no, .no, .no, .no, .no]) (xm_2 stV stL (x_close (x_lstRg1 (x_var (e := eI) 0 rfl))) (x_lst (f := (eT eI)) xn_nil)) (fun _ => rfl) (fun _ => rfl) fun y_s_4820 => ?_)
  refine (sw_while (s0 := (y_s_4820.1, y_s_4820.2)) (fun (y_s_4956 : ((List Int) × (List (List Int)))) => [.im (.d (eI y_persons)), .im (.d ((eT (eP2 eI eI)) y_pairs)), .im (.d ((eL eI) y_s_4956.1)), .mu (List.map (eT eI) y_s_4956.2), .no, .no, .no, .no, .no]) (less_same (less_same (less_same (less_same (less_no (less_no (less_no (less_no (less_no less_nil))))))))) (fun y_s_4956 => (t_test (x_op (x_var (e := (eL eI)) 2 rfl) (x_close (x_lst (f := eI) xn_nil)) (r_ne (ek_L ek_int) (dk_L dk_int) (by decide))))) (fun y_s_4956 _ => (sw_tup (n := 2) [4, 5] (fun (y_s_4968 : ((List Int) × (List Int))) => [.im (.d (eI y_persons)), .im (.d ((eT (eP2 eI eI)) y_pairs)), .im (.d ((eL eI) y_s_4956.1)), .mu (List.map (eT eI) y_s_4956.2), .mu (List.map eI y_s_4968.1), .mu (List.map eI y_s_4968.2), .no, .no, .no]) (xm_2 stL stL (x_lst (f := eI) (xn_cons (x_op (x_var (e := (eL eI)) 2 rfl) x_int r_ixL) xn_nil)) (x_lst (f := eI) (xn_cons (x_op (x_var (e := (eL eI)) 2 rfl) x_int r_ixL) xn_nil))) (fun _ => rfl) rfl (by decide) (fun _ => rfl) fun y_s_4968 => (sw_while (s0 := (y_s_4968.1, y_s_4968.2)) (fun (y_s_5024 : ((List Int) × (List Int))) => [.im (.d (eI y_persons)), .im (.d ((eT (eP2 eI eI)) y_pairs)), .im (.d ((eL eI) y_s_4956.1)), .mu (List.map (eT eI) y_s_4956.2), .mu (List.map eI y_s_5024.1), .mu (List.map eI y_s_5024.2), .no, .no, .no]) (less_same (less_same (less_same (less_same (less_same (less_same (less_no (less_no (less_no less_nil))))))))) (fun y_s_5024 => (t_test (x_open 5 rfl sc_bool (x_op (x_var (e := (eL eI)) 5 rfl) (x_close (x_lst (f := eI) xn_nil)) (r_ne (ek_L ek_int) (dk_L dk_int) (by decide)))))) (fun y_s_5024 _ => (sw_pop (rest := fun (y_here_5028 : Int) (y_last_5029 : (List Int)) => (W.bind (W.pure y_pairs) fun (y_l_5080 : List (Int × Int)) => W.bind (W.forS y_l_5080 (y_s_5024.1, y_last_5029) fun (y_i_5030 : (Int × Int)) (y_s_5054 : ((List Int) × (List Int))) => (W.bind (W.bind (W.bind (W.pure y_here_5028) fun (y_a_5057 : Int) => W.bind (W.bind (W.pure y_i_5030) fun (y_a_5056 : (Int × Int)) => W.pure ((fun p => [((fun a => a) p.1), ((fun a => a) p.2)]) y_a_5056)) fun (y_b_5058 : (List Int)) => W.pure (W.mem y_a_5057 y_b_5058)) fun (y_b_5065 : Bool) => W.ite y_b_5065 (W.bind (W.bind (W.bind (W.bind (W.pure y_i_5030) fun (y_a_5059 : (Int × Int)) => W.pure ((fun p => [((fun a => a) p.1), ((fun a => a) p.2)]) y_a_5059)) fun (y_a_5060 : (List Int)) => W.pure y_a_5060.sum) fun (y_a_5061 : Int) => W.bind (W.pure y_here_5028) fun (y_b_5062 : Int) => W.pure (y_a_5061 - y_b_5062)) fun (y_a_5063 : Int) => W.bind (W.pure y_s_5054.1) fun (y_b_5064 : (List Int)) => W.pure (!W.mem y_a_5063 y_b_5064)) (W.pure false)) fun (y_b_5066 : Bool) => W.ite y_b_5066 (W.bind (W.bind (W.bind (W.bind (W.pure y_i_5030) fun (y_a_5067 : (Int × Int)) => W.pure ((fun p => [((fun a => a) p.1), ((fun a => a) p.2)]) y_a_5067)) fun (y_a_5068 : (List Int)) => W.pure y_a_5068.sum) fun (y_a_5069 : Int) => W.bind (W.pure y_here_5028) fun (y_b_5070 : Int) => W.pure (y_a_5069 - y_b_5070)) fun (y_a_5072 : Int) => W.bind (W.app y_s_5054.1 y_a_5072) fun (y_lot_5071 : (List Int)) => (W.bind (W.bind (W.bind (W.bind (W.pure y_i_5030) fun (y_a_5073 : (Int × Int)) => W.pure ((fun p => [((fun a => a) p.1), ((fun a => a) p.2)]) y_a_5073)) fun (y_a_5074 : (List Int)) => W.pure y_a_5074.sum) fun (y_a_5075 : Int) => W.bind (W.pure y_here_5028) fun (y_b_5076 : Int) => W.pure (y_a_5075 - y_b_5076)) fun (y_a_5078 : Int) => W.bind (W.app y_s_5054.2 y_a_5078) fun (y_last_5077 : (List Int)) => (W.pure (y_lot_5071, y_last_5077)))) (W.pure (y_s_5054.1, y_s_5054.2)))) fun (y_s_5079 : ((List Int) × (List Int))) => (W.pure (y_s_5079.1, y_s_5079.2)))) 5 6 (fun y_here_5028 y_last_5029 => [.im (.d (eI y_persons)), .im (.d ((eT (eP2 eI eI)) y_pairs)), .im (.d ((eL eI) y_s_4956.1)), .mu (List.map (eT eI) y_s_4956.2), .mu (List.map eI y_s_5024.1), .mu (List.map eI y_last_5029), .im (.d (eI y_here_5028)), .no, .no]) rfl (fun _ _ => rfl) fun y_here_5028 y_last_5029 => (sw_last (sw_forS (js := [7]) (eI' := (eP2 eI eI)) (s0 := (y_s_5024.1, y_last_5029)) (fun (y_s_5054 : ((List Int) × (List Int))) => [.im (.d (eI y_persons)), .im (.d ((eT (eP2 eI eI)) y_pairs)), .im (.d ((eL eI) y_s_4956.1)), .mu (List.map (eT eI) y_s_4956.2), .mu (List.map eI y_s_5054.1), .mu (List.map eI y_s_5054.2), .im (.d (eI y_here_5028)), .no, .no]) (fun (y_i_5030 : (Int × Int)) (y_s_5054 : ((List Int) × (List Int))) => [.im (.d (eI y_persons)), .im (.d ((eT (eP2 eI eI)) y_pairs)), .im (.d ((eL eI) y_s_4956.1)), .mu (List.map (eT eI) y_s_4956.2), .mu (List.map eI y_s_5054.1), .mu (List.map eI y_s_5054.2), .im (.d (eI y_here_5028)), .im (.d ((eP2 eI eI) y_i_5030)), .no]) (xi_T (x_var (e := (eT (eP2 eI eI))) 1 rfl)) (less_same (less_same (less_same (less_same (less_same (less_same (less_same (less_no (less_no less_nil))))))))) (fun y_i_5030 y_s_5054 => (tg_name trivial)) (fun y_i_5030 y_s_5054 _ => (sw_if (t_and (t_test (x_op (x_var (e := eI) 6 rfl) (x_cv (f := (eP2 eI eI)) (g := (eT eI)) (cv_PT2 cv_id cv_id) (x_var (e := (eP2 eI eI)) 7 rfl)) (r_inT ek_int dk_int (by decide)))) (t_test (x_open 4 rfl sc_bool (x_op (x_op (x_cb1 (x_cv (f := (eP2 eI eI)) (g := (eT eI)) (cv_PT2 cv_id cv_id) (x_var (e := (eP2 eI eI)) 7 rfl)) c_sumT) (x_var (e := eI) 6 rfl) r_sub) (x_var (e := (eL eI)) 4 rfl) (r_ninL ek_int dk_int (by decide)))))) (sw_app (f := eI) 4 (fun (y_lot_5071 : (List Int)) => [.im (.d (eI y_persons)), .im (.d ((eT (eP2 eI eI)) y_pairs)), .im (.d ((eL eI) y_s_4956.1)), .mu (List.map (eT eI) y_s_4956.2), .mu (List.map eI y_lot_5071), .mu (List.map eI y_s_5054.2), .im (.d (eI y_here_5028)), .im (.d ((eP2 eI eI) y_i_5030)), .no]) rfl (x_op (x_cb1 (x_cv (f := (eP2 eI eI)) (g := (eT eI)) (cv_PT2 cv_id cv_id) (x_var (e := (eP2 eI eI)) 7 rfl)) c_sumT) (x_var (e := eI) 6 rfl) r_sub) (fun _ => rfl) fun y_lot_5071 => (sw_last (sw_app (f := eI) 5 (fun (y_last_5077 : (List Int)) => [.im (.d (eI y_persons)), .im (.d ((eT (eP2 eI eI)) y_pairs)), .im (.d ((eL eI) y_s_4956.1)), .mu (List.map (eT eI) y_s_4956.2), .mu (List.map eI y_lot_5071), .mu (List.map eI y_last_5077), .im (.d (eI y_here_5028)), .im (.d ((eP2 eI eI) y_i_5030)), .no]) rfl (x_op (x_cb1 (x_cv (f := (eP2 eI eI)) (g := (eT eI)) (cv_PT2 cv_id cv_id) (x_var (e := (eP2 eI eI)) 7 rfl)) c_sumT) (x_var (e := eI) 6 rfl) r_sub) (fun _ => rfl) fun y_last_5077 => (sw_end fun h => ⟨(y_lot_5071, y_last_5077), (less_same (less_same (less_same (less_same (less_same (less_same (less_same (less_no (less_no less_nil))))))))), h⟩)))) (sw_end fun h => ⟨(y_s_5054.1, y_s_5054.2), (less_same (less_same (less_same (less_same (less_same (less_same (less_same (less_no (less_no less_nil))))))))), h⟩))) fun y_s_5079 => (sw_end fun h => ⟨(y_s_5079.1, y_s_5079.2), (less_same (less_same (less_same (less_same (less_same (less_same (less_no (less_no (less_no less_nil))))))))), h⟩))))) fun y_s_5081 => (sw_shut 4 [.im (.d (eI y_persons)), .im (.d ((eT (eP2 eI eI)) y_pairs)), .im (.d ((eL eI) y_s_4956.1)), .mu (List.map (eT eI) y_s_4956.2), .im (.d ((eL eI) y_s_5081.1)), .mu (List.map eI y_s_5081.2), .no, .no, .no] rfl rfl (sw_app (f := (eT eI)) 3 (fun (y_found_5084 : (List (List Int))) => [.im (.d (eI y_persons)), .im (.d ((eT (eP2 eI eI)) y_pairs)), .im (.d ((eL eI) y_s_4956.1)), .mu (List.map (eT eI) y_found_5084), .im (.d ((eL eI) y_s_5081.1)), .mu (List.map eI y_s_5081.2), .no, .no, .no]) rfl (x_cb1 (x_close (x_cb1 (x_var (e := (eL eI)) 4 rfl) c_sortL)) c_tupL) (fun _ => rfl) fun y_found_5084 => (sw_last (sw_set 2 (fun (y_left_5090 : (List Int)) => [.im (.d (eI y_persons)), .im (.d ((eT (eP2 eI eI)) y_pairs)), .im (.d ((eL eI) y_left_5090)), .mu (List.map (eT eI) y_found_5084), .im (.d ((eL eI) y_s_5081.1)), .mu (List.map eI y_s_5081.2), .no, .no, .no]) (x_close (x_lc (js := [8]) (eI' := eI) (f := eI) (es2 := fun (y_i_5086 : Int) => [.im (.d (eI y_persons)), .im (.d ((eT (eP2 eI eI)) y_pairs)), .im (.d ((eL eI) y_s_4956.1)), .mu (List.map (eT eI) y_found_5084), .im (.d ((eL eI) y_s_5081.1)), .mu (List.map eI y_s_5081.2), .no, .no, .im (.d (eI y_i_5086))]) (xi_L (x_var (e := (eL eI)) 2 rfl)) (by decide) (fun y_i_5086 => (tg_name trivial)) (fun y_i_5086 => (t_test (x_op (x_var (e := eI) 8 rfl) (x_var (e := (eL eI)) 4 rfl) (r_ninL ek_int dk_int (by decide))))) (fun y_i_5086 => (x_var (e := eI) 8 rfl)))) stV (fun _ => rfl) fun y_left_5090 => (sw_end fun h => ⟨(y_left_5090, y_found_5084), (less_same (less_same (less_same (less_same (less_no (less_no (less_no (less_no (less_no less_nil))))))))), h⟩)))))))) fun y_s_5093 => ?_)
  exact (sw_retMu 3 rfl fun hr => ⟨y_s_5093.2, rfl, hr⟩)
set_option maxHeartbeats 0 in
theorem ok__law_is_bridge {f : Addr} {fd : FuncData} (F : Fun K "_law_is_bridge" "_law_is_bridge" s__law_is_bridge f fd) (B : Blt mg) (g__law_pieces : ClG P w K mg base 1 "_law_pieces" (sp__law_pieces K)) (g__law_pieces_2 : ClG P w K mg base 1 "_law_pieces" (sp__law_pieces_2 K)) : FnG P w K mg base 2 f fd ["web", "pair"] (sp__law_is_bridge K) := by
  refine fnN (xs := (fun a : ((Unit × Int × (List (Int × Int))) × (Int × Int)) => [(vD (eP3 (eW "web") eI (eT (eP2 eI eI)))) a.1, (vD (eP2 eI eI)) a.2])) (f := (fun a : ((Unit × Int × (List (Int × Int))) × (Int × Int)) => _law_is_bridge_w a.1 a.2)) (eR := (eV eB)) F sc__law_is_bridge (fun _ => rfl) fun cdv A outer s H E hr hgd => ?_
  have hu := hr.units
  refine ⟨_, (pss_cons (ps_setLc (i := 2) (own := [("one", 3)]) (g := (gName 3)) (tt := (tTest (tOp (rNeP K) (tVar 3) (tVar 1)))) (te := (tVar 3)) (by rfl) sc__law_is_bridge.nd rfl rfl (sw_true rfl rfl rfl (by decide +kernel)) (pi_seq (pe_ix ix_seq (pv 0) pe_int (fun _ _ => rfl))) (blkOk_by (own := [("one", 3)]) (by first | decide +kernel | rfl)) (fun _ _ _ _ _ => (pg_name (i := 3) sc__law_is_bridge.nd rfl (by first | exact Or.inl rfl | exact Or.inr rfl))) (fun _ _ _ _ _ => (pts_one (pt_cmpR (op_neP hu) (pv 3) (pv 1) (nomark _)))) (fun _ _ _ _ _ => (pv 3)))
      (pss_one (ps_ret (pe_cmpR (op_gtD hu) (pe_callB call_lenG (by rfl) B.n_len (by decide +kernel) (pa_cons (pe_clg g__law_pieces hgd hr (by decide) (by rfl) (pa_cons (pe_ix ix_seq (pv 0) pe_int (fun _ _ => rfl)) (pa_cons (pv 2) pa_nil))) pa_nil)) (pe_callB call_lenG (by rfl) B.n_len (by decide +kernel) (pa_cons (pe_clg g__law_pieces_2 hgd hr (by decide) (by rfl) (pa_cons (pe_ix ix_seq (pv 0) pe_int (fun _ _ => rfl)) (pa_cons (pe_ix ix_seq (pv 0) pe_int (fun _ _ => rfl)) pa_nil))) pa_nil)) (nomark _))))), ?_⟩
  rintro ⟨y_web, y_pair⟩ R
  show SxW K _ _ _ R (_law_is_bridge_w y_web y_pair)
  unfold _law_is_bridge_w
  refine sw_start [.im (.d ((eP3 (eW "web") eI (eT (eP2 eI eI))) y_web)), .im (.d ((eP2 eI eI) y_pair)), .no, .no] rfl ?_
  refine (sw_set 2 (fun (y_rest_5101 : (List (Int × Int))) => [.im (.d ((eP3 (eW "web") eI (eT (eP2 eI eI))) y_web)), .im (.d ((eP2 eI eI) y_pair)), .im (.d ((eL (eP2 eI eI)) y_rest_5101)), .no]) (x_close (x_lc (js := [3]) (eI' := (eP2 eI eI)) (f := (eP2 eI eI)) (es2 := fun (y_i_5097 : (Int × Int)) => [.im (.d ((eP3 (eW "web") eI (eT (eP2 eI eI))) y_web)), .im (.d ((eP2 eI eI) y_pair)), .no, .im (.d ((eP2 eI eI) y_i_5097))]) (xi_T (x_proj (e := (eP3 (eW "web") eI (eT (eP2 eI eI)))) (f := (eT (eP2 eI eI))) (2) (fun (y_a_5096 : (Unit × Int × (List (Int × Int)))) => y_a_5096.2.2) (fun _ => ⟨_, rfl, rfl⟩) (x_var (e := (eP3 (eW "web") eI (eT (eP2 eI eI)))) 0 rfl))) (by decide) (fun y_i_5097 => (tg_name trivial)) (fun y_i_5097 => (t_test (x_op (x_var (e := (eP2 eI eI)) 3 rfl) (x_var (e := (eP2 eI eI)) 1 rfl) (r_ne (ek_P2 ek_int ek_int) (dk_P2 dk_int dk_int) (by decide))))) (fun y_i_5097 => (x_var (e := (eP2 eI eI)) 3 rfl)))) stV (fun _ => rfl) fun y_rest_5101 => ?_)
  exact (sw_ret (g := fun (y_r_5113 : Bool) => y_r_5113) (x_op (x_cb1 (x_close (x_call2 (f := _law_pieces_w) (x_proj (e := (eP3 (eW "web") eI (eT (eP2 eI eI)))) (f := eI) (1) (fun (y_a_5102 : (Unit × Int × (List (Int × Int)))) => y_a_5102.2.1) (fun _ => ⟨_, rfl, rfl⟩) (x_var (e := (eP3 (eW "web") eI (eT (eP2 eI eI)))) 0 rfl)) (x_var (e := (eL (eP2 eI eI))) 2 rfl))) c_lenL) (x_cb1 (x_close (x_call2 (f := _law_pieces_2_w) (x_proj (e := (eP3 (eW "web") eI (eT (eP2 eI eI)))) (f := eI) (1) (fun (y_a_5106 : (Unit × Int × (List (Int × Int)))) => y_a_5106.2.1) (fun _ => ⟨_, rfl, rfl⟩) (x_var (e := (eP3 (eW "web") eI (eT (eP2 eI eI)))) 0 rfl)) (x_proj (e := (eP3 (eW "web") eI (eT (eP2 eI eI)))) (f := (eT (eP2 eI eI))) (2) (fun (y_a_5107 : (Unit × Int × (List (Int × Int)))) => y_a_5107.2.2) (fun _ => ⟨_, rfl, rfl⟩) (x_var (e := (eP3 (eW "web") eI (eT (eP2 eI eI)))) 0 rfl)))) c_lenL) r_gtI) (fun a z hz hr => ⟨a, hz, hr⟩) (fun a z hz hr => ⟨a, hz, hr⟩))
set_option maxHeartbeats 0 in
theorem ok_is_tuple {f : Addr} {fd : FuncData} (F : Fun K "is_tuple" "is_tuple" s_is_tuple f fd) (B : Blt mg)  : FnG P w K mg base 1 f fd ["value", "many"] (sp_is_tuple K) := by
  refine fnN (xs := (fun a : ((Unit × Int × (List (Int × Int))) × Int) => [(vD (eP3 (eW "web") eI (eT (eP2 eI eI)))) a.1, (vD eI) a.2])) (f := (fun a : ((Unit × Int × (List (Int × Int))) × Int) => is_tuple_w a.1 a.2)) (eR := (eV eB)) F sc_is_tuple (fun _ => rfl) fun cdv A outer s H E hr hgd => ?_
  have hu := hr.units
  refine ⟨_, (pss_one (ps_ret (pe_and (pe_callB call_isaG (by rfl) B.n_isinstance (by decide +kernel) (pa_cons (pv 0) (pa_cons (pe_bltn (v := .ty "tuple") (by rfl) B.n_tuple (by decide +kernel) rfl) pa_nil))) (pe_one (pe_cmpR (op_eqP hu) (pe_callB call_lenG (by rfl) B.n_len (by decide +kernel) (pa_cons (pv 0) pa_nil)) (pv 1) (nomark _)))))), ?_⟩
  rintro ⟨y_value, y_many⟩ R
  show SxW K _ _ _ R (is_tuple_w y_value y_many)
  unfold is_tuple_w
  refine sw_start [.im (.d ((eP3 (eW "web") eI (eT (eP2 eI eI))) y_value)), .im (.d (eI y_many))] rfl ?_
  exact (sw_ret (g := fun (y_r_5119 : Bool) => y_r_5119) (x_and (x_isa (c := "tuple") (fun _ => true) (x_var (e := (eP3 (eW "web") eI (eT (eP2 eI eI)))) 0 rfl) (fun a => rfl)) (x_op (x_cb1 (x_var (e := (eP3 (eW "web") eI (eT (eP2 eI eI)))) 0 rfl) (fun a => c_lenP a 3 rfl rfl)) (x_var (e := eI) 1 rfl) (r_eq ek_int dk_int (by decide)))) (fun a z hz hr => ⟨a, hz, hr⟩) (fun a z hz hr => ⟨a, hz, hr⟩))
set_option maxHeartbeats 0 in
theorem ok_is_integer {f : Addr} {fd : FuncData} (F : Fun K "is_integer" "is_integer" s_is_integer f fd) (B : Blt mg)  : FnG P w K mg base 1 f fd ["value"] (sp_is_integer K) := by
  refine fnN (xs := (fun a : Int => [(vD eI) a])) (f := (fun a : Int => is_integer_w a)) (eR := (eV eB)) F sc_is_integer (fun _ => rfl) fun cdv A outer s H E hr hgd => ?_
  have hu := hr.units
  refine ⟨_, (pss_one (ps_ret (pe_and (pe_callB call_isaG (by rfl) B.n_isinstance (by decide +kernel) (pa_cons (pv 0) (pa_cons (pe_bltn (v := .ty "int") (by rfl) B.n_int (by decide +kernel) rfl) pa_nil))) (pe_one (pe_not (pe_callB call_isaG (by rfl) B.n_isinstance (by decide +kernel) (pa_cons (pv 0) (pa_cons (pe_bltn (v := .ty "bool") (by rfl) B.n_bool (by decide +kernel) rfl) pa_nil)))))))), ?_⟩
  rintro y_value R
  show SxW K _ _ _ R (is_integer_w y_value)
  unfold is_integer_w
  refine sw_start [.im (.d (eI y_value))] rfl ?_
  exact (sw_ret (g := fun (y_r_5124 : Bool) => y_r_5124) (x_and (x_isa (c := "int") (fun _ => true) (x_var (e := eI) 0 rfl) (fun a => rfl)) (x_not (x_isa (c := "bool") (fun _ => false) (x_var (e := eI) 0 rfl) (fun a => rfl)))) (fun a z hz hr => ⟨a, hz, hr⟩) (fun a z hz hr => ⟨a, hz, hr⟩))
set_option maxHeartbeats 0 in
theorem ok_is_within {f : Addr} {fd : FuncData} (F : Fun K "is_within" "is_within" s_is_within f fd) (B : Blt mg) (g_is_integer : ClG P w K mg base 1 "is_integer" (sp_is_integer K)) : FnG P w K mg base 2 f fd ["value", "least", "most"] (sp_is_within K) := by
  refine fnN (xs := (fun a : (Int × Int × Int) => [(vD eI) a.1, (vD eI) a.2.1, (vD eI) a.2.2])) (f := (fun a : (Int × Int × Int) => is_within_w a.1 a.2.1 a.2.2)) (eR := (eV eB)) F sc_is_within (fun _ => rfl) fun cdv A outer s H E hr hgd => ?_
  have hu := hr.units
  refine ⟨_, (pss_one (ps_ret (pe_and (pe_clg g_is_integer hgd hr (by decide) (by rfl) (pa_cons (pv 0) pa_nil)) (pe_one (pe_chain (op_leD hu) (op_leD hu) (pv 1) (pv 0) (pv 2)))))), ?_⟩
  rintro ⟨y_value, y_least, y_most⟩ R
  show SxW K _ _ _ R (is_within_w y_value y_least y_most)
  unfold is_within_w
  refine sw_start [.im (.d (eI y_value)), .im (.d (eI y_least)), .im (.d (eI y_most))] rfl ?_
  exact (sw_ret (g := fun (y_r_5131 : Bool) => y_r_5131) (x_and (x_call1 (f := is_integer_w) (x_var (e := eI) 0 rfl)) (x_chain (x_var (e := eI) 1 rfl) (x_var (e := eI) 0 rfl) (x_var (e := eI) 2 rfl) r_leI r_leI)) (fun a z hz hr => ⟨a, hz, hr⟩) (fun a z hz hr => ⟨a, hz, hr⟩))
set_option maxHeartbeats 0 in
theorem ok_is_tuple_2 {f : Addr} {fd : FuncData} (F : Fun K "is_tuple" "is_tuple" s_is_tuple f fd) (B : Blt mg)  : FnG P w K mg base 1 f fd ["value", "many"] (sp_is_tuple_2 K) := by
  refine fnN (xs := (fun a : ((Int × Int) × Int) => [(vD (eP2 eI eI)) a.1, (vD eI) a.2])) (f := (fun a : ((Int × Int) × Int) => is_tuple_2_w a.1 a.2)) (eR := (eV eB)) F sc_is_tuple (fun _ => rfl) fun cdv A outer s H E hr hgd => ?_
  have hu := hr.units
  refine ⟨_, (pss_one (ps_ret (pe_and (pe_callB call_isaG (by rfl) B.n_isinstance (by decide +kernel) (pa_cons (pv 0) (pa_cons (pe_bltn (v := .ty "tuple") (by rfl) B.n_tuple (by decide +kernel) rfl) pa_nil))) (pe_one (pe_cmpR (op_eqP hu) (pe_callB call_lenG (by rfl) B.n_len (by decide +kernel) (pa_cons (pv 0) pa_nil)) (pv 1) (nomark _)))))), ?_⟩
  rintro ⟨y_value, y_many⟩ R
  show SxW K _ _ _ R (is_tuple_2_w y_value y_many)
  unfold is_tuple_2_w
  refine sw_start [.im (.d ((eP2 eI eI) y_value)), .im (.d (eI y_many))] rfl ?_
  exact (sw_ret (g := fun (y_r_5137 : Bool) => y_r_5137) (x_and (x_isa (c := "tuple") (fun _ => true) (x_var (e := (eP2 eI eI)) 0 rfl) (fun a => rfl)) (x_op (x_cb1 (x_var (e := (eP2 eI eI)) 0 rfl) (fun a => c_lenP a 2 rfl rfl)) (x_var (e := eI) 1 rfl) (r_eq ek_int dk_int (by decide)))) (fun a z hz hr => ⟨a, hz, hr⟩) (fun a z hz hr => ⟨a, hz, hr⟩))
set_option maxHeartbeats 0 in
theorem ok_is_pair_of {f : Addr} {fd : FuncData} (F : Fun K "is_pair_of" "is_pair_of" s_is_pair_of f fd) (B : Blt mg) (g_is_tuple_2 : ClG P w K mg base 1 "is_tuple" (sp_is_tuple_2 K)) (g_is_within : ClG P w K mg base 2 "is_within" (sp_is_within K)) : FnG P w K mg base 3 f fd ["persons", "value"] (sp_is_pair_of K) := by
  refine fnN (xs := (fun a : (Int × (Int × Int)) => [(vD eI) a.1, (vD (eP2 eI eI)) a.2])) (f := (fun a : (Int × (Int × Int)) => is_pair_of_w a.1 a.2)) (eR := (eV eB)) F sc_is_pair_of (fun _ => rfl) fun cdv A outer s H E hr hgd => ?_
  have hu := hr.units
  refine ⟨_, (pss_one (ps_ret (pe_and (pe_clg g_is_tuple_2 hgd hr (by decide) (by rfl) (pa_cons (pv 1) (pa_cons pe_int pa_nil))) (pe_and (pe_callB (cr_all rfl) (by rfl) B.n_all (by decide +kernel) (pa_cons (pe_lc (own := [("one", 2)]) (g := (gName 2)) (tt := tYes) (te := (tCall (sp_is_within K) [] E0 (tCons (tVar 2) (tCons (tC (.int 0)) (tCons (tOp rSubI (tVar 0) (tC (.int 1))) tNil))))) (by rfl) sc_is_pair_of.nd (pi_seq (pv 1)) (blkOk_by (own := [("one", 2)]) (by first | decide +kernel | rfl)) (fun _ _ _ _ _ => (pg_name (i := 2) sc_is_pair_of.nd rfl (by first | exact Or.inl rfl | exact Or.inr rfl))) (fun _ _ _ _ _ => pts_nil) (fun _ _ _ _ _ => (pe_clg g_is_within hgd hr (by decide) (by rfl) (pa_cons (pv 2) (pa_cons pe_int (pa_cons (pe_op op_subG (pv 0) pe_int) pa_nil)))))) pa_nil)) (pe_one (pe_cmpR (op_ltD hu) (pe_ix ix_seq (pv 1) pe_int (fun _ _ => rfl)) (pe_ix ix_seq (pv 1) pe_int (fun _ _ => rfl)) (nomark _))))))), ?_⟩
  rintro ⟨y_persons, y_value⟩ R
  show SxW K _ _ _ R (is_pair_of_w y_persons y_value)
  unfold is_pair_of_w
  refine sw_start [.im (.d (eI y_persons)), .im (.d ((eP2 eI eI) y_value)), .no] rfl ?_
  exact (sw_ret (g := fun (y_r_5155 : Bool) => y_r_5155) (x_and (x_call2 (f := is_tuple_2_w) (x_var (e := (eP2 eI eI)) 1 rfl) x_int) (x_and (x_cb1 (x_close (x_lc (js := [2]) (eI' := eI) (f := eB) (es2 := fun (y_i_5141 : Int) => [.im (.d (eI y_persons)), .im (.d ((eP2 eI eI) y_value)), .im (.d (eI y_i_5141))]) (xi_T (x_cv (f := (eP2 eI eI)) (g := (eT eI)) (cv_PT2 cv_id cv_id) (x_var (e := (eP2 eI eI)) 1 rfl))) (by decide) (fun y_i_5141 => (tg_name trivial)) (fun y_i_5141 => t_yes) (fun y_i_5141 => (x_call3 (f := is_within_w) (x_var (e := eI) 2 rfl) x_int (x_op (x_var (e := eI) 0 rfl) x_int r_sub))))) c_all) (x_op (x_proj (e := (eP2 eI eI)) (f := eI) (0) (fun (y_a_5149 : (Int × Int)) => y_a_5149.1) (fun _ => ⟨_, rfl, rfl⟩) (x_var (e := (eP2 eI eI)) 1 rfl)) (x_proj (e := (eP2 eI eI)) (f := eI) (1) (fun (y_a_5150 : (Int × Int)) => y_a_5150.2) (fun _ => ⟨_, rfl, rfl⟩) (x_var (e := (eP2 eI eI)) 1 rfl)) r_ltI))) (fun a z hz hr => ⟨a, hz, hr⟩) (fun a z hz hr => ⟨a, hz, hr⟩))
set_option maxHeartbeats 0 in
theorem ok_are_pairs_of {f : Addr} {fd : FuncData} (F : Fun K "are_pairs_of" "are_pairs_of" s_are_pairs_of f fd) (B : Blt mg) (g_is_pair_of : ClG P w K mg base 3 "is_pair_of" (sp_is_pair_of K)) : FnG P w K mg base 4 f fd ["persons", "value"] (sp_are_pairs_of K) := by
  refine fnN (xs := (fun a : (Int × (List (Int × Int))) => [(vD eI) a.1, (vD (eT (eP2 eI eI))) a.2])) (f := (fun a : (Int × (List (Int × Int))) => are_pairs_of_w a.1 a.2)) (eR := (eV eB)) F sc_are_pairs_of (fun _ => rfl) fun cdv A outer s H E hr hgd => ?_
  have hu := hr.units
  refine ⟨_, (pss_cons (ps_if (PW.pt (pw_or (pt_not (pt_val (pe_callB call_isaG (by rfl) B.n_isinstance (by decide +kernel) (pa_cons (pv 1) (pa_cons (pe_bltn (v := .ty "tuple") (by rfl) B.n_tuple (by decide +kernel) rfl) pa_nil))))) (pw_or1 (pt_not (pt_val (pe_callB (cr_all rfl) (by rfl) B.n_all (by decide +kernel) (pa_cons (pe_lc (own := [("one", 4)]) (g := (gName 4)) (tt := tYes) (te := (tCall (sp_is_pair_of K) [] E0 (tCons (tVar 0) (tCons (tVar 4) tNil)))) (by rfl) sc_are_pairs_of.nd (pi_seq (pv 1)) (blkOk_by (own := [("one", 4)]) (by first | decide +kernel | rfl)) (fun _ _ _ _ _ => (pg_name (i := 4) sc_are_pairs_of.nd rfl (by first | exact Or.inl rfl | exact Or.inr rfl))) (fun _ _ _ _ _ => pts_nil) (fun _ _ _ _ _ => (pe_clg g_is_pair_of hgd hr (by decide) (by rfl) (pa_cons (pv 0) (pa_cons (pv 4) pa_nil))))) pa_nil)))))))
      (pss_one (ps_ret pe_bl))
      pss_nil)
      (pss_one (ps_ret (pe_callB (cr_all rfl) (by rfl) B.n_all (by decide +kernel) (pa_cons (pe_lc (own := [("near", 2), ("far", 3)]) (g := (gTup K 2 (gCons (gName 2) (gCons (gName 3) gNil)))) (tt := tYes) (te := (tOp (rLtD K) (tVar 2) (tVar 3))) (by rfl) sc_are_pairs_of.nd (RZ.pi_zipA (by rfl) B.n_zip (pa_cons (pv 1) (pa_cons (pe_slice sl_seq (pv 1) (po_some pe_int) po_none) pa_nil))) (blkOk_by (own := [("near", 2), ("far", 3)]) (by first | decide +kernel | rfl)) (fun _ _ _ _ _ => (pg_tup (by rfl) (pgs_cons (pg_name (i := 2) sc_are_pairs_of.nd rfl (by first | exact Or.inl rfl | exact Or.inr rfl)) (pgs_cons (pg_name (i := 3) sc_are_pairs_of.nd rfl (by first | exact Or.inl rfl | exact Or.inr rfl)) pgs_nil)))) (fun _ _ _ _ _ => pts_nil) (fun _ _ _ _ _ => (pe_cmpR (op_ltD hu) (pv 2) (pv 3) (nomark _)))) pa_nil))))), ?_⟩
  rintro ⟨y_persons, y_value⟩ R
  show SxW K _ _ _ R (are_pairs_of_w y_persons y_value)
  unfold are_pairs_of_w
  refine sw_start [.im (.d (eI y_persons)), .im (.d ((eT (eP2 eI eI)) y_value)), .no, .no, .no] rfl ?_
  refine (sw_ifRet (t_or (t_not (t_B (x_isa (c := "tuple") (fun _ => true) (x_var (e := (eT (eP2 eI eI))) 1 rfl) (fun a => rfl)))) (t_not (t_B (x_cb1 (x_close (x_lc (js := [4]) (eI' := (eP2 eI eI)) (f := eB) (es2 := fun (y_i_5158 : (Int × Int)) => [.im (.d (eI y_persons)), .im (.d ((eT (eP2 eI eI)) y_value)), .no, .no, .im (.d ((eP2 eI eI) y_i_5158))]) (xi_T (x_var (e := (eT (eP2 eI eI))) 1 rfl)) (by decide) (fun y_i_5158 => (tg_name trivial)) (fun y_i_5158 => t_yes) (fun y_i_5158 => (x_call2 (f := is_pair_of_w) (x_var (e := eI) 0 rfl) (x_var (e := (eP2 eI eI)) 4 rfl))))) c_all)))) (sw_ret (g := fun (y_r_5166 : Bool) => y_r_5166) x_bl (fun a z hz hr => ⟨a, hz, hr⟩) (fun a z hz hr => ⟨a, hz, hr⟩)) ?_)
  exact (sw_ret (g := fun (y_r_5178 : Bool) => y_r_5178) (x_cb1 (x_close (x_lc (js := [2, 3]) (eI' := (eP2 (eP2 eI eI) (eP2 eI eI))) (f := eB) (es2 := fun (y_i_5173 : ((Int × Int) × (Int × Int))) => [.im (.d (eI y_persons)), .im (.d ((eT (eP2 eI eI)) y_value)), .im (.d ((eP2 eI eI) (y_i_5173.1))), .im (.d ((eP2 eI eI) (y_i_5173.2))), .no]) (xi_zipT (x_var (e := (eT (eP2 eI eI))) 1 rfl) (x_slT (x_var (e := (eT (eP2 eI eI))) 1 rfl) (xo_some x_int) xo_none)) (by decide) (fun y_i_5173 => (tg_tup (js := [2, 3]) (tgs_cons (js := [2]) (ks := [3]) (tg_name trivial) (tgs_cons (js := [3]) (ks := []) (tg_name trivial) tgs_nil)) rfl)) (fun y_i_5173 => t_yes) (fun y_i_5173 => (x_op (x_var (e := (eP2 eI eI)) 2 rfl) (x_var (e := (eP2 eI eI)) 3 rfl) (r_ltD (ok_P2 ok_int ok_int ek_int ek_int (lt_irr ok_int)) nn_P2 (dk_P2 dk_int dk_int) (by decide)))))) c_all) (fun a z hz hr => ⟨a, hz, hr⟩) (fun a z hz hr => ⟨a, hz, hr⟩))
set_option maxHeartbeats 0 in
theorem ok_is_web_value {f : Addr} {fd : FuncData} (F : Fun K "is_web_value" "is_web_value" s_is_web_value f fd) (B : Blt mg) (g_is_tuple : ClG P w K mg base 1 "is_tuple" (sp_is_tuple K)) (g_is_within : ClG P w K mg base 2 "is_within" (sp_is_within K)) (g_are_pairs_of : ClG P w K mg base 4 "are_pairs_of" (sp_are_pairs_of K)) (k_MOST_PERSONS : ∃ u, mg "MOST_PERSONS" = some u ∧ RelV (.int 10) u) : FnG P w K mg base 5 f fd ["value"] (sp_is_web_value K) := by
  refine fnN (xs := (fun a : (Unit × Int × (List (Int × Int))) => [(vD (eP3 (eW "web") eI (eT (eP2 eI eI)))) a])) (f := (fun a : (Unit × Int × (List (Int × Int))) => is_web_value_w a)) (eR := (eV eB)) F sc_is_web_value (fun _ => rfl) fun cdv A outer s H E hr hgd => ?_
  have hu := hr.units
  refine ⟨_, (pss_cons (ps_if (PW.pt (pw_or (pt_not (pt_val (pe_clg g_is_tuple hgd hr (by decide) (by rfl) (pa_cons (pv 0) (pa_cons pe_int pa_nil))))) (pw_or (pt_not (pt_val (pe_callB call_isaG (by rfl) B.n_isinstance (by decide +kernel) (pa_cons (pe_ix ix_seq (pv 0) pe_int (fun _ _ => rfl)) (pa_cons (pe_bltn (v := .ty "str") (by rfl) B.n_str (by decide +kernel) rfl) pa_nil))))) (pw_or1 (pt_cmpR (op_neP hu) (pe_ix ix_seq (pv 0) pe_int (fun _ _ => rfl)) pe_str (nomark _))))))
      (pss_one (ps_ret pe_bl))
      pss_nil)
      (pss_one (ps_ret (pe_and (pe_clg g_is_within hgd hr (by decide) (by rfl) (pa_cons (pe_ix ix_seq (pv 0) pe_int (fun _ _ => rfl)) (pa_cons pe_int (pa_cons (C8.pe_gc (by rfl) k_MOST_PERSONS) pa_nil)))) (pe_one (pe_clg g_are_pairs_of hgd hr (by decide) (by rfl) (pa_cons (pe_ix ix_seq (pv 0) pe_int (fun _ _ => rfl)) (pa_cons (pe_ix ix_seq (pv 0) pe_int (fun _ _ => rfl)) pa_nil)))))))), ?_⟩
  rintro y_value R
  show SxW K _ _ _ R (is_web_value_w y_value)
  unfold is_web_value_w
  refine sw_start [.im (.d ((eP3 (eW "web") eI (eT (eP2 eI eI))) y_value))] rfl ?_
  refine (sw_ifRet (t_or (t_not (t_B (x_call2 (f := is_tuple_w) (x_var (e := (eP3 (eW "web") eI (eT (eP2 eI eI)))) 0 rfl) x_int))) (t_or (t_not (t_B (x_isa (c := "str") (fun _ => true) (x_proj (e := (eP3 (eW "web") eI (eT (eP2 eI eI)))) (f := (eW "web")) (0) (fun (y_a_5182 : (Unit × Int × (List (Int × Int)))) => y_a_5182.1) (fun _ => ⟨_, rfl, rfl⟩) (x_var (e := (eP3 (eW "web") eI (eT (eP2 eI eI)))) 0 rfl)) (fun a => rfl)))) (t_test (x_op (x_proj (e := (eP3 (eW "web") eI (eT (eP2 eI eI)))) (f := (eW "web")) (0) (fun (y_a_5185 : (Unit × Int × (List (Int × Int)))) => y_a_5185.1) (fun _ => ⟨_, rfl, rfl⟩) (x_var (e := (eP3 (eW "web") eI (eT (eP2 eI eI)))) 0 rfl)) x_str (r_ne ek_word dk_word (by decide)))))) (sw_ret (g := fun (y_r_5191 : Bool) => y_r_5191) x_bl (fun a z hz hr => ⟨a, hz, hr⟩) (fun a z hz hr => ⟨a, hz, hr⟩)) ?_)
  exact (sw_ret (g := fun (y_r_5201 : Bool) => y_r_5201) (x_and (x_call3 (f := is_within_w) (x_proj (e := (eP3 (eW "web") eI (eT (eP2 eI eI)))) (f := eI) (1) (fun (y_a_5192 : (Unit × Int × (List (Int × Int)))) => y_a_5192.2.1) (fun _ => ⟨_, rfl, rfl⟩) (x_var (e := (eP3 (eW "web") eI (eT (eP2 eI eI)))) 0 rfl)) x_int x_int) (x_call2 (f := are_pairs_of_w) (x_proj (e := (eP3 (eW "web") eI (eT (eP2 eI eI)))) (f := eI) (1) (fun (y_a_5196 : (Unit × Int × (List (Int × Int)))) => y_a_5196.2.1) (fun _ => ⟨_, rfl, rfl⟩) (x_var (e := (eP3 (eW "web") eI (eT (eP2 eI eI)))) 0 rfl)) (x_proj (e := (eP3 (eW "web") eI (eT (eP2 eI eI)))) (f := (eT (eP2 eI eI))) (2) (fun (y_a_5197 : (Unit × Int × (List (Int × Int)))) => y_a_5197.2.2) (fun _ => ⟨_, rfl, rfl⟩) (x_var (e := (eP3 (eW "web") eI (eT (eP2 eI eI)))) 0 rfl)))) (fun a z hz hr => ⟨a, hz, hr⟩) (fun a z hz hr => ⟨a, hz, hr⟩))
set_option maxHeartbeats 0 in
theorem ok_want_web {f : Addr} {fd : FuncData} (F : Fun K "want_web" "want_web" s_want_web f fd) (B : Blt mg) (g_is_web_value : ClG P w K mg base 5 "is_web_value" (sp_is_web_value K)) : FnG P w K mg base 6 f fd ["web"] (sp_want_web K) := by
  refine fnN (xs := (fun a : (Unit × Int × (List (Int × Int))) => [(vD (eP3 (eW "web") eI (eT (eP2 eI eI)))) a])) (f := (fun a : (Unit × Int × (List (Int × Int))) => want_web_w a)) (eR := (eV eU)) F sc_want_web (fun _ => rfl) fun cdv A outer s H E hr hgd => ?_
  have hu := hr.units
  refine ⟨_, (pss_one (ps_if (pt_not (pt_val (pe_clg g_is_web_value hgd hr (by decide) (by rfl) (pa_cons (pv 0) pa_nil))))
      (pss_one ps_never)
      pss_nil)), ?_⟩
  rintro y_web R
  show SxW K _ _ _ R (want_web_w y_web)
  unfold want_web_w
  refine sw_start [.im (.d ((eP3 (eW "web") eI (eT (eP2 eI eI))) y_web))] rfl ?_
  exact (sw_if (t_not (t_B (x_call1 (f := is_web_value_w) (x_var (e := (eP3 (eW "web") eI (eT (eP2 eI eI)))) 0 rfl)))) (sw_never fun _ h => h) (sw_end fun h => ⟨(), rfl, h⟩))
set_option maxHeartbeats 0 in
theorem ok_pieces_of {f : Addr} {fd : FuncData} (F : Fun K "pieces_of" "pieces_of" s_pieces_of f fd) (B : Blt mg)  : FnG P w K mg base 1 f fd ["persons", "pairs"] (sp_pieces_of K) := by
  refine fnN (xs := (fun a : (Int × (List (Int × Int))) => [(vD eI) a.1, (vD (eT (eP2 eI eI))) a.2])) (f := (fun a : (Int × (List (Int × Int))) => pieces_of_w a.1 a.2)) (eR := (eN (eT eI))) F sc_pieces_of (fun _ => rfl) fun cdv A outer s H E hr hgd => ?_
  have hu := hr.units
  refine ⟨_, (pss_cons (ps_set (i := 2) sc_pieces_of.nd rfl (.inr rfl) (pe_listRg rfl (by rfl) B.n_list (prg_1 (by rfl) B.n_range (pv 0))))
      (pss_cons (ps_for PassesOwn.never rfl (pi_seq (pv 1)) (pg_tup (by rfl) (pgs_cons (pg_name (i := 3) sc_pieces_of.nd rfl (.inl rfl)) (pgs_cons (pg_name (i := 4) sc_pieces_of.nd rfl (.inl rfl)) pgs_nil)))
      (pss_cons (ps_asg (pe_tup (pa_cons (pe_callB (call_minG rfl hu) (by rfl) B.n_min (by decide +kernel) (pa_cons (pe_ix ix_seq (pv 2) (pv 3) (fun _ _ => rfl)) (pa_cons (pe_ix ix_seq (pv 2) (pv 4) (fun _ _ => rfl)) pa_nil))) (pa_cons (pe_callB (call_maxG rfl hu) (by rfl) B.n_max (by decide +kernel) (pa_cons (pe_ix ix_seq (pv 2) (pv 3) (fun _ _ => rfl)) (pa_cons (pe_ix ix_seq (pv 2) (pv 4) (fun _ _ => rfl)) pa_nil))) pa_nil))) (pg_tup (by rfl) (pgs_cons (pg_name (i := 5) sc_pieces_of.nd rfl (.inr rfl)) (pgs_cons (pg_name (i := 6) sc_pieces_of.nd rfl (.inr rfl)) pgs_nil))))
      (pss_one (ps_set (i := 2) sc_pieces_of.nd rfl (.inr rfl) (pe_lc (own := [("here", 8)]) (g := (gName 8)) (tt := tYes) (te := (tIf (tTest (tOp (rEqP K) (tVar 8) (tVar 6))) (tVar 5) (tVar 8))) (by rfl) sc_pieces_of.nd (pi_seq (pv 2)) (blkOk_by (own := [("here", 8)]) (by first | decide +kernel | rfl)) (fun _ _ _ _ _ => (pg_name (i := 8) sc_pieces_of.nd rfl (by first | exact Or.inl rfl | exact Or.inr rfl))) (fun _ _ _ _ _ => pts_nil) (fun _ _ _ _ _ => (pe_ifExp (pt_cmpR (op_eqP hu) (pv 8) (pv 6) (nomark _)) (pv 5) (pv 8))))))))
      (pss_one (ps_ret (pe_lc (own := [("least", 7)]) (g := (gName 7)) (tt := tYes) (te := (tCB (rTupOf K) (tCons (tLc (iRng1 (tCons (tVar 0) tNil)) (gName 9) (tTest (tOp (rEqP K) (tOp (rIx K) (tVar 2) (tVar 9)) (tVar 7))) (tVar 9) [9]) tNil))) (by rfl) sc_pieces_of.nd (pi_seq (pe_callB (cr_sortedSet rfl) (by rfl) B.n_sorted (by decide +kernel) (pa_cons (pe_callTy (cr_setI rfl) (by rfl) B.n_set (by decide +kernel) (pa_cons (pv 2) pa_nil)) pa_nil))) (blkOk_by (own := [("least", 7)]) (by first | decide +kernel | rfl)) (fun _ _ _ _ _ => (pg_name (i := 7) sc_pieces_of.nd rfl (by first | exact Or.inl rfl | exact Or.inr rfl))) (fun _ _ _ _ _ => pts_nil) (fun _ _ _ _ _ => (pe_callTy call_tupG (by rfl) B.n_tuple (by decide +kernel) (pa_cons (pe_lc (own := [("at", 9)]) (g := (gName 9)) (tt := (tTest (tOp (rEqP K) (tOp (rIx K) (tVar 2) (tVar 9)) (tVar 7)))) (te := (tVar 9)) (by rfl) sc_pieces_of.nd (pi_range1 (by rfl) B.n_range (pa_cons (pv 0) pa_nil)) (blkOk_by (own := [("at", 9)]) (by first | decide +kernel | rfl)) (fun _ _ _ _ _ => (pg_name (i := 9) sc_pieces_of.nd rfl (by first | exact Or.inl rfl | exact Or.inr rfl))) (fun _ _ _ _ _ => (pts_one (pt_cmpR (op_eqP hu) (pe_ix ix_seq (pv 2) (pv 9) (fun _ _ => rfl)) (pv 7) (nomark _)))) (fun _ _ _ _ _ => (pv 9))) pa_nil)))))))), ?_⟩
  rintro ⟨y_persons, y_pairs⟩ R
  show SxW K _ _ _ R (pieces_of_w y_persons y_pairs)
  unfold pieces_of_w
  refine sw_start [.im (.d (eI y_persons)), .im (.d ((eT (eP2 eI eI)) y_pairs)), .no, .no, .no, .no, .no, .no, .no, .no] rfl ?_
  refine (sw_set 2 (fun (y_home_5206 : (List Int)) => [.im (.d (eI y_persons)), .im (.d ((eT (eP2 eI eI)) y_pairs)), .im (.d ((eL eI) y_home_5206)), .no, .no, .no, .no, .no, .no, .no]) (x_close (x_lstRg1 (x_var (e := eI) 0 rfl))) stV (fun _ => rfl) fun y_home_5206 => ?_)
  refine (sw_forS (js := [3, 4]) (eI' := (eP2 eI eI)) (s0 := y_home_5206) (fun (y_s_5229 : (List Int)) => [.im (.d (eI y_persons)), .im (.d ((eT (eP2 eI eI)) y_pairs)), .im (.d ((eL eI) y_s_5229)), .no, .no, .no, .no, .no, .no, .no]) (fun (y_i_5207 : (Int × Int)) (y_s_5229 : (List Int)) => [.im (.d (eI y_persons)), .im (.d ((eT (eP2 eI eI)) y_pairs)), .im (.d ((eL eI) y_s_5229)), .im (.d (eI (y_i_5207.1))), .im (.d (eI (y_i_5207.2))), .no, .no, .no, .no, .no]) (xi_T (x_var (e := (eT (eP2 eI eI))) 1 rfl)) (less_same (less_same (less_same (less_no (less_no (less_no (less_no (less_no (less_no (less_no less_nil)))))))))) (fun y_i_5207 y_s_5229 => (tg_tup (js := [3, 4]) (tgs_cons (js := [3]) (ks := [4]) (tg_name trivial) (tgs_cons (js := [4]) (ks := []) (tg_name trivial) tgs_nil)) rfl)) (fun y_i_5207 y_s_5229 _ => (sw_tup (n := 2) [5, 6] (fun (y_s_5243 : (Int × Int)) => [.im (.d (eI y_persons)), .im (.d ((eT (eP2 eI eI)) y_pairs)), .im (.d ((eL eI) y_s_5229)), .im (.d (eI (y_i_5207.1))), .im (.d (eI (y_i_5207.2))), .im (.d (eI y_s_5243.1)), .im (.d (eI y_s_5243.2)), .no, .no, .no]) (xm_2 stV stV (x_cb2 (x_op (x_var (e := (eL eI)) 2 rfl) (x_var (e := eI) 3 rfl) r_ixL) (x_op (x_var (e := (eL eI)) 2 rfl) (x_var (e := eI) 4 rfl) r_ixL) c_min2) (x_cb2 (x_op (x_var (e := (eL eI)) 2 rfl) (x_var (e := eI) 3 rfl) r_ixL) (x_op (x_var (e := (eL eI)) 2 rfl) (x_var (e := eI) 4 rfl) r_ixL) c_max2)) (fun _ => rfl) rfl (by decide) (fun _ => rfl) fun y_s_5243 => (sw_last (sw_set 2 (fun (y_home_5249 : (List Int)) => [.im (.d (eI y_persons)), .im (.d ((eT (eP2 eI eI)) y_pairs)), .im (.d ((eL eI) y_home_5249)), .im (.d (eI (y_i_5207.1))), .im (.d (eI (y_i_5207.2))), .im (.d (eI y_s_5243.1)), .im (.d (eI y_s_5243.2)), .no, .no, .no]) (x_close (x_lc (js := [8]) (eI' := eI) (f := eI) (es2 := fun (y_i_5244 : Int) => [.im (.d (eI y_persons)), .im (.d ((eT (eP2 eI eI)) y_pairs)), .im (.d ((eL eI) y_s_5229)), .im (.d (eI (y_i_5207.1))), .im (.d (eI (y_i_5207.2))), .im (.d (eI y_s_5243.1)), .im (.d (eI y_s_5243.2)), .no, .im (.d (eI y_i_5244)), .no]) (xi_L (x_var (e := (eL eI)) 2 rfl)) (by decide) (fun y_i_5244 => (tg_name trivial)) (fun y_i_5244 => t_yes) (fun y_i_5244 => (x_if (t_test (x_op (x_var (e := eI) 8 rfl) (x_var (e := eI) 6 rfl) (r_eq ek_int dk_int (by decide)))) (x_var (e := eI) 5 rfl) (x_var (e := eI) 8 rfl))))) stV (fun _ => rfl) fun y_home_5249 => (sw_end fun h => ⟨y_home_5249, (less_same (less_same (less_same (less_no (less_no (less_no (less_no (less_no (less_no (less_no less_nil)))))))))), h⟩))))) fun y_s_5252 => ?_)
  exact (sw_ret (g := fun (y_r_5265 : (List (List Int))) => y_r_5265) (x_lc (js := [7]) (eI' := eI) (f := (eT eI)) (es2 := fun (y_i_5255 : Int) => [.im (.d (eI y_persons)), .im (.d ((eT (eP2 eI eI)) y_pairs)), .im (.d ((eL eI) y_s_5252)), .no, .no, .no, .no, .im (.d (eI y_i_5255)), .no, .no]) (xi_L (x_close (x_sortSet (fun (y_a_5253 : (List Int)) => y_a_5253) (fun _ => .inl (.inl rfl)) (x_var (e := (eL eI)) 2 rfl)))) (by decide) (fun y_i_5255 => (tg_name trivial)) (fun y_i_5255 => t_yes) (fun y_i_5255 => (x_cb1 (x_close (x_lc (js := [9]) (eI' := eI) (f := eI) (es2 := fun (y_i_5257 : Int) => [.im (.d (eI y_persons)), .im (.d ((eT (eP2 eI eI)) y_pairs)), .im (.d ((eL eI) y_s_5252)), .no, .no, .no, .no, .im (.d (eI y_i_5255)), .no, .im (.d (eI y_i_5257))]) (xi_range1 (x_var (e := eI) 0 rfl)) (by decide) (fun y_i_5257 => (tg_name trivial)) (fun y_i_5257 => (t_test (x_op (x_op (x_var (e := (eL eI)) 2 rfl) (x_var (e := eI) 9 rfl) r_ixL) (x_var (e := eI) 7 rfl) (r_eq ek_int dk_int (by decide))))) (fun y_i_5257 => (x_var (e := eI) 9 rfl)))) c_tupL))) (fun a z hz hr => ⟨a, hz, hr⟩) (fun a z hz hr => ⟨a, hz, hr⟩))
set_option maxHeartbeats 0 in
theorem ok_pieces_of_2 {f : Addr} {fd : FuncData} (F : Fun K "pieces_of" "pieces_of" s_pieces_of f fd) (B : Blt mg)  : FnG P w K mg base 1 f fd ["persons", "pairs"] (sp_pieces_of_2 K) := by
  refine fnN (xs := (fun a : (Int × (List (Int × Int))) => [(vD eI) a.1, (vD (eL (eP2 eI eI))) a.2])) (f := (fun a : (Int × (List (Int × Int))) => pieces_of_2_w a.1 a.2)) (eR := (eN (eT eI))) F sc_pieces_of (fun _ => rfl) fun cdv A outer s H E hr hgd => ?_
  have hu := hr.units
  refine ⟨_, (pss_cons (ps_set (i := 2) sc_pieces_of.nd rfl (.inr rfl) (pe_listRg rfl (by rfl) B.n_list (prg_1 (by rfl) B.n_range (pv 0))))
      (pss_cons (ps_for PassesOwn.never rfl (pi_seq (pv 1)) (pg_tup (by rfl) (pgs_cons (pg_name (i := 3) sc_pieces_of.nd rfl (.inl rfl)) (pgs_cons (pg_name (i := 4) sc_pieces_of.nd rfl (.inl rfl)) pgs_nil)))
      (pss_cons (ps_asg (pe_tup (pa_cons (pe_callB (call_minG rfl hu) (by rfl) B.n_min (by decide +kernel) (pa_cons (pe_ix ix_seq (pv 2) (pv 3) (fun _ _ => rfl)) (pa_cons (pe_ix ix_seq (pv 2) (pv 4) (fun _ _ => rfl)) pa_nil))) (pa_cons (pe_callB (call_maxG rfl hu) (by rfl) B.n_max (by decide +kernel) (pa_cons (pe_ix ix_seq (pv 2) (pv 3) (fun _ _ => rfl)) (pa_cons (pe_ix ix_seq (pv 2) (pv 4) (fun _ _ => rfl)) pa_nil))) pa_nil))) (pg_tup (by rfl) (pgs_cons (pg_name (i := 5) sc_pieces_of.nd rfl (.inr rfl)) (pgs_cons (pg_name (i := 6) sc_pieces_of.nd rfl (.inr rfl)) pgs_nil))))
      (pss_one (ps_set (i := 2) sc_pieces_of.nd rfl (.inr rfl) (pe_lc (own := [("here", 8)]) (g := (gName 8)) (tt := tYes) (te := (tIf (tTest (tOp (rEqP K) (tVar 8) (tVar 6))) (tVar 5) (tVar 8))) (by rfl) sc_pieces_of.nd (pi_seq (pv 2)) (blkOk_by (own := [("here", 8)]) (by first | decide +kernel | rfl)) (fun _ _ _ _ _ => (pg_name (i := 8) sc_pieces_of.nd rfl (by first | exact Or.inl rfl | exact Or.inr rfl))) (fun _ _ _ _ _ => pts_nil) (fun _ _ _ _ _ => (pe_ifExp (pt_cmpR (op_eqP hu) (pv 8) (pv 6) (nomark _)) (pv 5) (pv 8))))))))
      (pss_one (ps_ret (pe_lc (own := [("least", 7)]) (g := (gName 7)) (tt := tYes) (te := (tCB (rTupOf K) (tCons (tLc (iRng1 (tCons (tVar 0) tNil)) (gName 9) (tTest (tOp (rEqP K) (tOp (rIx K) (tVar 2) (tVar 9)) (tVar 7))) (tVar 9) [9]) tNil))) (by rfl) sc_pieces_of.nd (pi_seq (pe_callB (cr_sortedSet rfl) (by rfl) B.n_sorted (by decide +kernel) (pa_cons (pe_callTy (cr_setI rfl) (by rfl) B.n_set (by decide +kernel) (pa_cons (pv 2) pa_nil)) pa_nil))) (blkOk_by (own := [("least", 7)]) (by first | decide +kernel | rfl)) (fun _ _ _ _ _ => (pg_name (i := 7) sc_pieces_of.nd rfl (by first | exact Or.inl rfl | exact Or.inr rfl))) (fun _ _ _ _ _ => pts_nil) (fun _ _ _ _ _ => (pe_callTy call_tupG (by rfl) B.n_tuple (by decide +kernel) (pa_cons (pe_lc (own := [("at", 9)]) (g := (gName 9)) (tt := (tTest (tOp (rEqP K) (tOp (rIx K) (tVar 2) (tVar 9)) (tVar 7)))) (te := (tVar 9)) (by rfl) sc_pieces_of.nd (pi_range1 (by rfl) B.n_range (pa_cons (pv 0) pa_nil)) (blkOk_by (own := [("at", 9)]) (by first | decide +kernel | rfl)) (fun _ _ _ _ _ => (pg_name (i := 9) sc_pieces_of.nd rfl (by first | exact Or.inl rfl | exact Or.inr rfl))) (fun _ _ _ _ _ => (pts_one (pt_cmpR (op_eqP hu) (pe_ix ix_seq (pv 2) (pv 9) (fun _ _ => rfl)) (pv 7) (nomark _)))) (fun _ _ _ _ _ => (pv 9))) pa_nil)))))))), ?_⟩
  rintro ⟨y_persons, y_pairs⟩ R
  show SxW K _ _ _ R (pieces_of_2_w y_persons y_pairs)
  unfold pieces_of_2_w
  refine sw_start [.im (.d (eI y_persons)), .im (.d ((eL (eP2 eI eI)) y_pairs)), .no, .no, .no, .no, .no, .no, .no, .no] rfl ?_
  refine (sw_set 2 (fun (y_home_5268 : (List Int)) => [.im (.d (eI y_persons)), .im (.d ((eL (eP2 eI eI)) y_pairs)), .im (.d ((eL eI) y_home_5268)), .no, .no, .no, .no, .no, .no, .no]) (x_close (x_lstRg1 (x_var (e := eI) 0 rfl))) stV (fun _ => rfl) fun y_home_5268 => ?_)
  refine (sw_forS (js := [3, 4]) (eI' := (eP2 eI eI)) (s0 := y_home_5268) (fun (y_s_5291 : (List Int)) => [.im (.d (eI y_persons)), .im (.d ((eL (eP2 eI eI)) y_pairs)), .im (.d ((eL eI) y_s_5291)), .no, .no, .no, .no, .no, .no, .no]) (fun (y_i_5269 : (Int × Int)) (y_s_5291 : (List Int)) => [.im (.d (eI y_persons)), .im (.d ((eL (eP2 eI eI)) y_pairs)), .im (.d ((eL eI) y_s_5291)), .im (.d (eI (y_i_5269.1))), .im (.d (eI (y_i_5269.2))), .no, .no, .no, .no, .no]) (xi_L (x_var (e := (eL (eP2 eI eI))) 1 rfl)) (less_same (less_same (less_same (less_no (less_no (less_no (less_no (less_no (less_no (less_no less_nil)))))))))) (fun y_i_5269 y_s_5291 => (tg_tup (js := [3, 4]) (tgs_cons (js := [3]) (ks := [4]) (tg_name trivial) (tgs_cons (js := [4]) (ks := []) (tg_name trivial) tgs_nil)) rfl)) (fun y_i_5269 y_s_5291 _ => (sw_tup (n := 2) [5, 6] (fun (y_s_5305 : (Int × Int)) => [.im (.d (eI y_persons)), .im (.d ((eL (eP2 eI eI)) y_pairs)), .im (.d ((eL eI) y_s_5291)), .im (.d (eI (y_i_5269.1))), .im (.d (eI (y_i_5269.2))), .im (.d (eI y_s_5305.1)), .im (.d (eI y_s_5305.2)), .no, .no, .no]) (xm_2 stV stV (x_cb2 (x_op (x_var (e := (eL eI)) 2 rfl) (x_var (e := eI) 3 rfl) r_ixL) (x_op (x_var (e := (eL eI)) 2 rfl) (x_var (e := eI) 4 rfl) r_ixL) c_min2) (x_cb2 (x_op (x_var (e := (eL eI)) 2 rfl) (x_var (e := eI) 3 rfl) r_ixL) (x_op (x_var (e := (eL eI)) 2 rfl) (x_var (e := eI) 4 rfl) r_ixL) c_max2)) (fun _ => rfl) rfl (by decide) (fun _ => rfl) fun y_s_5305 => (sw_last (sw_set 2 (fun (y_home_5311 : (List Int)) => [.im (.d (eI y_persons)), .im (.d ((eL (eP2 eI eI)) y_pairs)), .im (.d ((eL eI) y_home_5311)), .im (.d (eI (y_i_5269.1))), .im (.d (eI (y_i_5269.2))), .im (.d (eI y_s_5305.1)), .im (.d (eI y_s_5305.2)), .no, .no, .no]) (x_close (x_lc (js := [8]) (eI' := eI) (f := eI) (es2 := fun (y_i_5306 : Int) => [.im (.d (eI y_persons)), .im (.d ((eL (eP2 eI eI)) y_pairs)), .im (.d ((eL eI) y_s_5291)), .im (.d (eI (y_i_5269.1))), .im (.d (eI (y_i_5269.2))), .im (.d (eI y_s_5305.1)), .im (.d (eI y_s_5305.2)), .no, .im (.d (eI y_i_5306)), .no]) (xi_L (x_var (e := (eL eI)) 2 rfl)) (by decide) (fun y_i_5306 => (tg_name trivial)) (fun y_i_5306 => t_yes) (fun y_i_5306 => (x_if (t_test (x_op (x_var (e := eI) 8 rfl) (x_var (e := eI) 6 rfl) (r_eq ek_int dk_int (by decide)))) (x_var (e := eI) 5 rfl) (x_var (e := eI) 8 rfl))))) stV (fun _ => rfl) fun y_home_5311 => (sw_end fun h => ⟨y_home_5311, (less_same (less_same (less_same (less_no (less_no (less_no (less_no (less_no (less_no (less_no less_nil)))))))))), h⟩))))) fun y_s_5314 => ?_)
  exact (sw_ret (g := fun (y_r_5327 : (List (List Int))) => y_r_5327) (x_lc (js := [7]) (eI' := eI) (f := (eT eI)) (es2 := fun (y_i_5317 : Int) => [.im (.d (eI y_persons)), .im (.d ((eL (eP2 eI eI)) y_pairs)), .im (.d ((eL eI) y_s_5314)), .no, .no, .no, .no, .im (.d (eI y_i_5317)), .no, .no]) (xi_L (x_close (x_sortSet (fun (y_a_5315 : (List Int)) => y_a_5315) (fun _ => .inl (.inl rfl)) (x_var (e := (eL eI)) 2 rfl)))) (by decide) (fun y_i_5317 => (tg_name trivial)) (fun y_i_5317 => t_yes) (fun y_i_5317 => (x_cb1 (x_close (x_lc (js := [9]) (eI' := eI) (f := eI) (es2 := fun (y_i_5319 : Int) => [.im (.d (eI y_persons)), .im (.d ((eL (eP2 eI eI)) y_pairs)), .im (.d ((eL eI) y_s_5314)), .no, .no, .no, .no, .im (.d (eI y_i_5317)), .no, .im (.d (eI y_i_5319))]) (xi_range1 (x_var (e := eI) 0 rfl)) (by decide) (fun y_i_5319 => (tg_name trivial)) (fun y_i_5319 => (t_test (x_op (x_op (x_var (e := (eL eI)) 2 rfl) (x_var (e := eI) 9 rfl) r_ixL) (x_var (e := eI) 7 rfl) (r_eq ek_int dk_int (by decide))))) (fun y_i_5319 => (x_var (e := eI) 9 rfl)))) c_tupL))) (fun a z hz hr => ⟨a, hz, hr⟩) (fun a z hz hr => ⟨a, hz, hr⟩))
set_option maxHeartbeats 0 in
theorem ok_bridges_of {f : Addr} {fd : FuncData} (F : Fun K "bridges_of" "bridges_of" s_bridges_of f fd) (B : Blt mg) (g_pieces_of : ClG P w K mg base 1 "pieces_of" (sp_pieces_of K)) (g_pieces_of_2 : ClG P w K mg base 1 "pieces_of" (sp_pieces_of_2 K)) : FnG P w K mg base 2 f fd ["persons", "pairs"] (sp_bridges_of K) := by
  refine fnN (xs := (fun a : (Int × (List (Int × Int))) => [(vD eI) a.1, (vD (eT (eP2 eI eI))) a.2])) (f := (fun a : (Int × (List (Int × Int))) => bridges_of_w a.1 a.2)) (eR := (eN (eP2 eI eI))) F sc_bridges_of (fun _ => rfl) fun cdv A outer s H E hr hgd => ?_
  have hu := hr.units
  refine ⟨_, (pss_cons (ps_set (i := 2) sc_bridges_of.nd rfl (.inr rfl) (pe_callB call_lenG (by rfl) B.n_len (by decide +kernel) (pa_cons (pe_clg g_pieces_of hgd hr (by decide) (by rfl) (pa_cons (pv 0) (pa_cons (pv 1) pa_nil))) pa_nil)))
      (pss_one (ps_ret (pe_lc (own := [("pair", 3)]) (g := (gName 3)) (tt := (tTest (tOp (rGtD K) (tCB (rLenS K) (tCons (tCall (sp_pieces_of_2 K) [] E0 (tCons (tVar 0) (tCons (tLc (iSeq K (tVar 1)) (gName 4) (tTest (tOp (rNeP K) (tVar 4) (tVar 3))) (tVar 4) [4]) tNil))) tNil)) (tVar 2)))) (te := (tVar 3)) (by rfl) sc_bridges_of.nd (pi_seq (pv 1)) (blkOk_by (own := [("pair", 3)]) (by first | decide +kernel | rfl)) (fun _ _ _ _ _ => (pg_name (i := 3) sc_bridges_of.nd rfl (by first | exact Or.inl rfl | exact Or.inr rfl))) (fun _ _ _ _ _ => (pts_one (pt_cmpR (op_gtD hu) (pe_callB call_lenG (by rfl) B.n_len (by decide +kernel) (pa_cons (pe_clg g_pieces_of_2 hgd hr (by decide) (by rfl) (pa_cons (pv 0) (pa_cons (pe_lc (own := [("one", 4)]) (g := (gName 4)) (tt := (tTest (tOp (rNeP K) (tVar 4) (tVar 3)))) (te := (tVar 4)) (by rfl) sc_bridges_of.nd (pi_seq (pv 1)) (blkOk_by (own := [("one", 4)]) (by first | decide +kernel | rfl)) (fun _ _ _ _ _ => (pg_name (i := 4) sc_bridges_of.nd rfl (by first | exact Or.inl rfl | exact Or.inr rfl))) (fun _ _ _ _ _ => (pts_one (pt_cmpR (op_neP hu) (pv 4) (pv 3) (nomark _)))) (fun _ _ _ _ _ => (pv 4))) pa_nil))) pa_nil)) (pv 2) (nomark _)))) (fun _ _ _ _ _ => (pv 3)))))), ?_⟩
  rintro ⟨y_persons, y_pairs⟩ R
  show SxW K _ _ _ R (bridges_of_w y_persons y_pairs)
  unfold bridges_of_w
  refine sw_start [.im (.d (eI y_persons)), .im (.d ((eT (eP2 eI eI)) y_pairs)), .no, .no, .no] rfl ?_
  refine (sw_set 2 (fun (y_many_5332 : Int) => [.im (.d (eI y_persons)), .im (.d ((eT (eP2 eI eI)) y_pairs)), .im (.d (eI y_many_5332)), .no, .no]) (x_cb1 (x_close (x_call2 (f := pieces_of_w) (x_var (e := eI) 0 rfl) (x_var (e := (eT (eP2 eI eI))) 1 rfl))) c_lenL) stV (fun _ => rfl) fun y_many_5332 => ?_)
  exact (sw_ret (g := fun (y_r_5344 : (List (Int × Int))) => y_r_5344) (x_lc (js := [3]) (eI' := (eP2 eI eI)) (f := (eP2 eI eI)) (es2 := fun (y_i_5333 : (Int × Int)) => [.im (.d (eI y_persons)), .im (.d ((eT (eP2 eI eI)) y_pairs)), .im (.d (eI y_many_5332)), .im (.d ((eP2 eI eI) y_i_5333)), .no]) (xi_T (x_var (e := (eT (eP2 eI eI))) 1 rfl)) (by decide) (fun y_i_5333 => (tg_name trivial)) (fun y_i_5333 => (t_test (x_op (x_cb1 (x_close (x_call2 (f := pieces_of_2_w) (x_var (e := eI) 0 rfl) (x_close (x_lc (js := [4]) (eI' := (eP2 eI eI)) (f := (eP2 eI eI)) (es2 := fun (y_i_5334 : (Int × Int)) => [.im (.d (eI y_persons)), .im (.d ((eT (eP2 eI eI)) y_pairs)), .im (.d (eI y_many_5332)), .im (.d ((eP2 eI eI) y_i_5333)), .im (.d ((eP2 eI eI) y_i_5334))]) (xi_T (x_var (e := (eT (eP2 eI eI))) 1 rfl)) (by decide) (fun y_i_5334 => (tg_name trivial)) (fun y_i_5334 => (t_test (x_op (x_var (e := (eP2 eI eI)) 4 rfl) (x_var (e := (eP2 eI eI)) 3 rfl) (r_ne (ek_P2 ek_int ek_int) (dk_P2 dk_int dk_int) (by decide))))) (fun y_i_5334 => (x_var (e := (eP2 eI eI)) 4 rfl)))))) c_lenL) (x_var (e := eI) 2 rfl) r_gtI))) (fun y_i_5333 => (x_var (e := (eP2 eI eI)) 3 rfl))) (fun a z hz hr => ⟨a, hz, hr⟩) (fun a z hz hr => ⟨a, hz, hr⟩))
set_option maxHeartbeats 0 in
theorem ok_bridges {f : Addr} {fd : FuncData} (F : Fun K "bridges" "bridges" s_bridges f fd) (B : Blt mg) (g_want_web : ClG P w K mg base 6 "want_web" (sp_want_web K)) (g_bridges_of : ClG P w K mg base 2 "bridges_of" (sp_bridges_of K)) : FnG P w K mg base 7 f fd ["web"] (sp_bridges K) := by
  refine fnN (xs := (fun a : (Unit × Int × (List (Int × Int))) => [(vD (eP3 (eW "web") eI (eT (eP2 eI eI)))) a])) (f := (fun a : (Unit × Int × (List (Int × Int))) => bridges_w a)) (eR := (eV (eT (eP2 eI eI)))) F sc_bridges (fun _ => rfl) fun cdv A outer s H E hr hgd => ?_
  have hu := hr.units
  refine ⟨_, (pss_cons (ps_expr (pe_clg g_want_web hgd hr (by decide) (by rfl) (pa_cons (pv 0) pa_nil)))
      (pss_one (ps_ret (pe_callTy call_tupG (by rfl) B.n_tuple (by decide +kernel) (pa_cons (pe_clg g_bridges_of hgd hr (by decide) (by rfl) (pa_cons (pe_ix ix_seq (pv 0) pe_int (fun _ _ => rfl)) (pa_cons (pe_ix ix_seq (pv 0) pe_int (fun _ _ => rfl)) pa_nil))) pa_nil))))), ?_⟩
  rintro y_web R
  show SxW K _ _ _ R (bridges_w y_web)
  unfold bridges_w
  refine sw_start [.im (.d ((eP3 (eW "web") eI (eT (eP2 eI eI))) y_web))] rfl ?_
  refine (sw_drop (x_call1 (f := want_web_w) (x_var (e := (eP3 (eW "web") eI (eT (eP2 eI eI)))) 0 rfl)) fun _ => ?_)
  exact (sw_ret (g := fun (y_r_5351 : (List (Int × Int))) => y_r_5351) (x_cb1 (x_close (x_call2 (f := bridges_of_w) (x_proj (e := (eP3 (eW "web") eI (eT (eP2 eI eI)))) (f := eI) (1) (fun (y_a_5346 : (Unit × Int × (List (Int × Int)))) => y_a_5346.2.1) (fun _ => ⟨_, rfl, rfl⟩) (x_var (e := (eP3 (eW "web") eI (eT (eP2 eI eI)))) 0 rfl)) (x_proj (e := (eP3 (eW "web") eI (eT (eP2 eI eI)))) (f := (eT (eP2 eI eI))) (2) (fun (y_a_5347 : (Unit × Int × (List (Int × Int)))) => y_a_5347.2.2) (fun _ => ⟨_, rfl, rfl⟩) (x_var (e := (eP3 (eW "web") eI (eT (eP2 eI eI)))) 0 rfl)))) c_tupL) (fun a z hz hr => ⟨a, hz, hr⟩) (fun a z hz hr => ⟨a, hz, hr⟩))
set_option maxHeartbeats 0 in
theorem ok_is_joined_value {f : Addr} {fd : FuncData} (F : Fun K "is_joined_value" "is_joined_value" s_is_joined_value f fd) (B : Blt mg) (g_is_web_value : ClG P w K mg base 5 "is_web_value" (sp_is_web_value K)) (g_pieces_of : ClG P w K mg base 1 "pieces_of" (sp_pieces_of K)) : FnG P w K mg base 6 f fd ["value"] (sp_is_joined_value K) := by
  refine fnN (xs := (fun a : (Unit × Int × (List (Int × Int))) => [(vD (eP3 (eW "web") eI (eT (eP2 eI eI)))) a])) (f := (fun a : (Unit × Int × (List (Int × Int))) => is_joined_value_w a)) (eR := (eV eB)) F sc_is_joined_value (fun _ => rfl) fun cdv A outer s H E hr hgd => ?_
  have hu := hr.units
  refine ⟨_, (pss_one (ps_ret (pe_and (pe_clg g_is_web_value hgd hr (by decide) (by rfl) (pa_cons (pv 0) pa_nil)) (pe_one (pe_cmpR (op_eqP hu) (pe_callB call_lenG (by rfl) B.n_len (by decide +kernel) (pa_cons (pe_clg g_pieces_of hgd hr (by decide) (by rfl) (pa_cons (pe_ix ix_seq (pv 0) pe_int (fun _ _ => rfl)) (pa_cons (pe_ix ix_seq (pv 0) pe_int (fun _ _ => rfl)) pa_nil))) pa_nil)) pe_int (nomark _)))))), ?_⟩
  rintro y_value R
  show SxW K _ _ _ R (is_joined_value_w y_value)
  unfold is_joined_value_w
  refine sw_start [.im (.d ((eP3 (eW "web") eI (eT (eP2 eI eI))) y_value))] rfl ?_
  exact (sw_ret (g := fun (y_r_5361 : Bool) => y_r_5361) (x_and (x_call1 (f := is_web_value_w) (x_var (e := (eP3 (eW "web") eI (eT (eP2 eI eI)))) 0 rfl)) (x_op (x_cb1 (x_close (x_call2 (f := pieces_of_w) (x_proj (e := (eP3 (eW "web") eI (eT (eP2 eI eI)))) (f := eI) (1) (fun (y_a_5353 : (Unit × Int × (List (Int × Int)))) => y_a_5353.2.1) (fun _ => ⟨_, rfl, rfl⟩) (x_var (e := (eP3 (eW "web") eI (eT (eP2 eI eI)))) 0 rfl)) (x_proj (e := (eP3 (eW "web") eI (eT (eP2 eI eI)))) (f := (eT (eP2 eI eI))) (2) (fun (y_a_5354 : (Unit × Int × (List (Int × Int)))) => y_a_5354.2.2) (fun _ => ⟨_, rfl, rfl⟩) (x_var (e := (eP3 (eW "web") eI (eT (eP2 eI eI)))) 0 rfl)))) c_lenL) x_int (r_eq ek_int dk_int (by decide)))) (fun a z hz hr => ⟨a, hz, hr⟩) (fun a z hz hr => ⟨a, hz, hr⟩))
set_option maxHeartbeats 0 in
theorem ok_is_firm_value {f : Addr} {fd : FuncData} (F : Fun K "is_firm_value" "is_firm_value" s_is_firm_value f fd) (B : Blt mg) (g_is_joined_value : ClG P w K mg base 6 "is_joined_value" (sp_is_joined_value K)) (g_bridges_of : ClG P w K mg base 2 "bridges_of" (sp_bridges_of K)) : FnG P w K mg base 7 f fd ["value"] (sp_is_firm_value K) := by
  refine fnN (xs := (fun a : (Unit × Int × (List (Int × Int))) => [(vD (eP3 (eW "web") eI (eT (eP2 eI eI)))) a])) (f := (fun a : (Unit × Int × (List (Int × Int))) => is_firm_value_w a)) (eR := (eV eB)) F sc_is_firm_value (fun _ => rfl) fun cdv A outer s H E hr hgd => ?_
  have hu := hr.units
  refine ⟨_, (pss_one (ps_ret (pe_and (pe_clg g_is_joined_value hgd hr (by decide) (by rfl) (pa_cons (pv 0) pa_nil)) (pe_one (pe_cmpR (op_eqP hu) (pe_clg g_bridges_of hgd hr (by decide) (by rfl) (pa_cons (pe_ix ix_seq (pv 0) pe_int (fun _ _ => rfl)) (pa_cons (pe_ix ix_seq (pv 0) pe_int (fun _ _ => rfl)) pa_nil))) (pe_lst pa_nil) (nomark _)))))), ?_⟩
  rintro y_value R
  show SxW K _ _ _ R (is_firm_value_w y_value)
  unfold is_firm_value_w
  refine sw_start [.im (.d ((eP3 (eW "web") eI (eT (eP2 eI eI))) y_value))] rfl ?_
  exact (sw_ret (g := fun (y_r_5370 : Bool) => y_r_5370) (x_and (x_call1 (f := is_joined_value_w) (x_var (e := (eP3 (eW "web") eI (eT (eP2 eI eI)))) 0 rfl)) (x_op (x_close (x_call2 (f := bridges_of_w) (x_proj (e := (eP3 (eW "web") eI (eT (eP2 eI eI)))) (f := eI) (1) (fun (y_a_5363 : (Unit × Int × (List (Int × Int)))) => y_a_5363.2.1) (fun _ => ⟨_, rfl, rfl⟩) (x_var (e := (eP3 (eW "web") eI (eT (eP2 eI eI)))) 0 rfl)) (x_proj (e := (eP3 (eW "web") eI (eT (eP2 eI eI)))) (f := (eT (eP2 eI eI))) (2) (fun (y_a_5364 : (Unit × Int × (List (Int × Int)))) => y_a_5364.2.2) (fun _ => ⟨_, rfl, rfl⟩) (x_var (e := (eP3 (eW "web") eI (eT (eP2 eI eI)))) 0 rfl)))) (x_close (x_lst (f := (eP2 eI eI)) xn_nil)) (r_eq (ek_L (ek_P2 ek_int ek_int)) (dk_L (dk_P2 dk_int dk_int)) (by decide)))) (fun a z hz hr => ⟨a, hz, hr⟩) (fun a z hz hr => ⟨a, hz, hr⟩))
set_option maxHeartbeats 0 in
theorem ok_is_firm {f : Addr} {fd : FuncData} (F : Fun K "is_firm" "is_firm" s_is_firm f fd) (B : Blt mg) (g_is_firm_value : ClG P w K mg base 7 "is_firm_value" (sp_is_firm_value K)) : FnG P w K mg base 8 f fd ["value"] (sp_is_firm K) := by
  refine fnN (xs := (fun a : (Unit × Int × (List (Int × Int))) => [(vD (eP3 (eW "web") eI (eT (eP2 eI eI)))) a])) (f := (fun a : (Unit × Int × (List (Int × Int))) => is_firm_w a)) (eR := (eV eB)) F sc_is_firm (fun _ => rfl) fun cdv A outer s H E hr hgd => ?_
  have hu := hr.units
  refine ⟨_, (pss_one (ps_ret (pe_clg g_is_firm_value hgd hr (by decide) (by rfl) (pa_cons (pv 0) pa_nil)))), ?_⟩
  rintro y_value R
  show SxW K _ _ _ R (is_firm_w y_value)
  unfold is_firm_w
  refine sw_start [.im (.d ((eP3 (eW "web") eI (eT (eP2 eI eI))) y_value))] rfl ?_
  exact (sw_ret (g := fun (y_r_5372 : Bool) => y_r_5372) (x_call1 (f := is_firm_value_w) (x_var (e := (eP3 (eW "web") eI (eT (eP2 eI eI)))) 0 rfl)) (fun a z hz hr => ⟨a, hz, hr⟩) (fun a z hz hr => ⟨a, hz, hr⟩))
set_option maxHeartbeats 0 in
theorem ok__law_pick_2 {f : Addr} {fd : FuncData} (F : Fun K "_law_pick" "_law_pick" s__law_pick f fd) (B : Blt mg) (g__law_draw : ClG P w K mg base 1 "_law_draw" (sp__law_draw K)) : FnG P w K mg base 2 f fd ["pot", "some"] (sp__law_pick_2 K) := by
  refine fnN (xs := (fun a : (Unit × (List (Unit × Int × (List (Int × Int))))) => [vP a.1, (vD (eL (eP3 (eW "web") eI (eT (eP2 eI eI))))) a.2])) (f := (fun a : (Unit × (List (Unit × Int × (List (Int × Int))))) => _law_pick_2_w a.1 a.2)) (eR := (eV (eP3 (eW "web") eI (eT (eP2 eI eI))))) F sc__law_pick (fun _ => rfl) fun cdv A outer s H E hr hgd => ?_
  have hu := hr.units
  refine ⟨_, (pss_one (ps_ret (pe_ix ix_seq (pv 1) (pe_clg g__law_draw hgd hr (by decide) (by rfl) (pa_cons (pv 0) (pa_cons (pe_callB call_lenG (by rfl) B.n_len (by decide +kernel) (pa_cons (pv 1) pa_nil)) pa_nil))) (fun _ _ => rfl)))), ?_⟩
  rintro ⟨y_pot, y_some⟩ R
  show SxW K _ _ _ R (_law_pick_2_w y_pot y_some)
  unfold _law_pick_2_w
  refine sw_start [.im .pot, .im (.d ((eL (eP3 (eW "web") eI (eT (eP2 eI eI)))) y_some))] rfl ?_
  exact (sw_ret (g := fun (y_r_5378 : (Unit × Int × (List (Int × Int)))) => y_r_5378) (x_op (x_var (e := (eL (eP3 (eW "web") eI (eT (eP2 eI eI))))) 1 rfl) (x_call2 (f := _law_draw_w) (x_pot 0 rfl) (x_cb1 (x_var (e := (eL (eP3 (eW "web") eI (eT (eP2 eI eI))))) 1 rfl) c_lenL)) r_ixL) (fun a z hz hr => ⟨a, hz, hr⟩) (fun a z hz hr => ⟨a, hz, hr⟩))
set_option maxHeartbeats 0 in
theorem ok__law_pick_3 {f : Addr} {fd : FuncData} (F : Fun K "_law_pick" "_law_pick" s__law_pick f fd) (B : Blt mg) (g__law_draw : ClG P w K mg base 1 "_law_draw" (sp__law_draw K)) : FnG P w K mg base 2 f fd ["pot", "some"] (sp__law_pick_3 K) := by
  refine fnN (xs := (fun a : (Unit × (List PyData)) => [vP a.1, (vD (eL eA)) a.2])) (f := (fun a : (Unit × (List PyData)) => _law_pick_3_w a.1 a.2)) (eR := (eV eA)) F sc__law_pick (fun _ => rfl) fun cdv A outer s H E hr hgd => ?_
  have hu := hr.units
  refine ⟨_, (pss_one (ps_ret (pe_ix ix_seq (pv 1) (pe_clg g__law_draw hgd hr (by decide) (by rfl) (pa_cons (pv 0) (pa_cons (pe_callB call_lenG (by rfl) B.n_len (by decide +kernel) (pa_cons (pv 1) pa_nil)) pa_nil))) (fun _ _ => rfl)))), ?_⟩
  rintro ⟨y_pot, y_some⟩ R
  show SxW K _ _ _ R (_law_pick_3_w y_pot y_some)
  unfold _law_pick_3_w
  refine sw_start [.im .pot, .im (.d ((eL eA) y_some))] rfl ?_
  exact (sw_ret (g := fun (y_r_5384 : PyData) => y_r_5384) (x_op (x_var (e := (eL eA)) 1 rfl) (x_call2 (f := _law_draw_w) (x_pot 0 rfl) (x_cb1 (x_var (e := (eL eA)) 1 rfl) c_lenL)) r_ixL) (fun a z hz hr => ⟨a, hz, hr⟩) (fun a z hz hr => ⟨a, hz, hr⟩))
set_option maxHeartbeats 0 in
theorem ok__law_bent {f : Addr} {fd : FuncData} (F : Fun K "_law_bent" "_law_bent" s__law_bent f fd) (B : Blt mg) (g__law_draw : ClG P w K mg base 1 "_law_draw" (sp__law_draw K)) (g__law_pick_3 : ClG P w K mg base 2 "_law_pick" (sp__law_pick_3 K)) : FnG P w K mg base 3 f fd ["pot", "value"] (sp__law_bent K) := by
  refine fnN (xs := (fun a : (Unit × (Unit × Int × (List (Int × Int)))) => [vP a.1, (vD (eP3 (eW "web") eI (eT (eP2 eI eI)))) a.2])) (f := (fun a : (Unit × (Unit × Int × (List (Int × Int)))) => _law_bent_w a.1 a.2)) (eR := (eV eA)) F sc__law_bent (fun _ => rfl) fun cdv A outer s H E hr hgd => ?_
  have hu := hr.units
  refine ⟨_, (pss_cons (ps_par (i := 2) (j := 3) rfl sc__law_bent.nd rfl rfl (by decide) rfl rfl (pa_cons (pe_lst pa_nil) (pa_cons (pv 1) pa_nil)) (by rfl))
      (pss_cons (ps_while PassesOwn.never (PW.pt (pw_and (pt_val (pe_callB call_isaG (by rfl) B.n_isinstance (by decide +kernel) (pa_cons (pv 3) (pa_cons (pe_bltn (v := .ty "tuple") (by rfl) B.n_tuple (by decide +kernel) rfl) pa_nil)))) (pw_and (pt_cmpR (op_gtD hu) (pe_callB call_lenG (by rfl) B.n_len (by decide +kernel) (pa_cons (pv 3) pa_nil)) pe_int (nomark _)) (pw_and (pt_cmpR (op_ltD hu) (pe_callB call_lenG (by rfl) B.n_len (by decide +kernel) (pa_cons (pv 2) pa_nil)) pe_int (nomark _)) (pw_and1 (pt_cmpR (op_gtD hu) (pe_clg g__law_draw hgd hr (by decide) (by rfl) (pa_cons (pv 0) (pa_cons pe_int pa_nil))) pe_int (nomark _)))))))
      (pss_cons (ps_expr (pe_bm PySem.F.plainAttrs_list PySem.F.slot_list_append PySem.F.type_list_append mt_append (pv 2) (pa_cons (pe_tup (pa_cons (pv 3) (pa_cons (pe_clg g__law_draw hgd hr (by decide) (by rfl) (pa_cons (pv 0) (pa_cons (pe_callB call_lenG (by rfl) B.n_len (by decide +kernel) (pa_cons (pv 3) pa_nil)) pa_nil))) pa_nil))) pa_nil)))
      (pss_one (ps_set (i := 3) sc__law_bent.nd rfl (.inl rfl) (pe_ix ix_seq (pv 3) (pe_ix ix_seq (pe_ix ix_seq (pv 2) (pe_un un_neg pe_int) (fun _ _ => rfl)) pe_int (fun _ _ => rfl)) (fun _ _ => rfl))))))
      (pss_cons (ps_set (i := 4) sc__law_bent.nd rfl (.inl rfl) (pe_clg g__law_draw hgd hr (by decide) (by rfl) (pa_cons (pv 0) (pa_cons pe_int pa_nil))))
      (pss_cons (ps_if (PW.pt (pw_and (pt_val (pe_callB call_isaG (by rfl) B.n_isinstance (by decide +kernel) (pa_cons (pv 3) (pa_cons (pe_bltn (v := .ty "tuple") (by rfl) B.n_tuple (by decide +kernel) rfl) pa_nil)))) (pw_and (pt_cmpR (op_gtD hu) (pe_callB call_lenG (by rfl) B.n_len (by decide +kernel) (pa_cons (pv 3) pa_nil)) pe_int (nomark _)) (pw_and1 (pt_cmpR (op_ltD hu) (pv 4) pe_int (nomark _))))))
      (pss_cons (ps_set (i := 6) sc__law_bent.nd rfl (.inl rfl) (pe_clg g__law_draw hgd hr (by decide) (by rfl) (pa_cons (pv 0) (pa_cons (pe_callB call_lenG (by rfl) B.n_len (by decide +kernel) (pa_cons (pv 3) pa_nil)) pa_nil))))
      (pss_one (ps_set (i := 3) sc__law_bent.nd rfl (.inl rfl) (pe_ix ix_seq (pe_lst (pa_cons (pe_op op_addG (pe_slice sl_seq (pv 3) po_none (po_some (pv 6))) (pe_slice sl_seq (pv 3) (po_some (pe_op op_addG (pv 6) pe_int)) po_none)) (pa_cons (pe_op op_addG (pe_slice sl_seq (pv 3) po_none (po_some (pe_op op_addG (pv 6) pe_int))) (pe_slice sl_seq (pv 3) (po_some (pv 6)) po_none)) (pa_cons (pe_revT (pv 3)) (pa_cons (pe_callTy call_lstG (by rfl) B.n_list (by decide +kernel) (pa_cons (pv 3) pa_nil)) pa_nil))))) (pv 4) (fun _ _ => rfl)))))
      (pss_one (ps_if (pt_val (pe_callB call_isaG (by rfl) B.n_isinstance (by decide +kernel) (pa_cons (pv 3) (pa_cons (pe_bltn (v := .ty "int") (by rfl) B.n_int (by decide +kernel) rfl) pa_nil))))
      (pss_one (ps_set (i := 3) sc__law_bent.nd rfl (.inl rfl) (pe_clg g__law_pick_3 hgd hr (by decide) (by rfl) (pa_cons (pv 0) (pa_cons (pe_lst (pa_cons (pe_op op_addG (pv 3) pe_int) (pa_cons (pe_op op_subG (pv 3) pe_int) (pa_cons pe_bl (pa_cons pe_non (pa_cons pe_int (pa_cons pe_int (pa_cons (pe_tup (pa_cons (pv 3) pa_nil)) (pa_cons pe_str pa_nil))))))))) pa_nil)))))
      (pss_one (ps_set (i := 3) sc__law_bent.nd rfl (.inl rfl) (pe_clg g__law_pick_3 hgd hr (by decide) (by rfl) (pa_cons (pv 0) (pa_cons (pe_lst (pa_cons pe_non (pa_cons pe_int (pa_cons (pe_tup pa_nil) (pa_cons (pe_lst pa_nil) (pa_cons pe_str (pa_cons pe_str (pa_cons pe_dnewK (pa_cons (pe_tup (pa_cons pe_int (pa_cons pe_int pa_nil))) (pa_cons pe_str pa_nil)))))))))) pa_nil))))))))
      (pss_cons (ps_for PassesOwn.never rfl (pi_seq (pe_revL (pv 2))) (pg_tup (by rfl) (pgs_cons (pg_name (i := 5) sc__law_bent.nd rfl (.inl rfl)) (pgs_cons (pg_name (i := 6) sc__law_bent.nd rfl (.inl rfl)) pgs_nil)))
      (pss_one (ps_set (i := 3) sc__law_bent.nd rfl (.inl rfl) (pe_op op_addG (pe_op op_addG (pe_slice sl_seq (pv 5) po_none (po_some (pv 6))) (pe_tup (pa_cons (pv 3) pa_nil))) (pe_slice sl_seq (pv 5) (po_some (pe_op op_addG (pv 6) pe_int)) po_none)))))
      (pss_one (ps_ret (pv 3)))))))), ?_⟩
  rintro ⟨y_pot, y_value⟩ R
  show SxW K _ _ _ R (_law_bent_w y_pot y_value)
  unfold _law_bent_w
  refine sw_start [.im .pot, .im (.d ((eP3 (eW "web") eI (eT (eP2 eI eI))) y_value)), .no, .no, .no, .no, .no] rfl ?_
  refine (sw_par 2 3 (fun (y_s_5385 : ((List (PyData × Int)) × (Unit × Int × (List (Int × Int))))) => [.im .pot, .im (.d ((eP3 (eW "web") eI (eT (eP2 eI eI))) y_value)), .mu (List.map (eP2 eA eI) y_s_5385.1), .im (.d ((eP3 (eW "web") eI (eT (eP2 eI eI))) y_s_5385.2)), .no, .no, .no]) (xm_2 stL stV (x_lst (f := (eP2 eA eI)) xn_nil) (x_var (e := (eP3 (eW "web") eI (eT (eP2 eI eI)))) 1 rfl)) (fun _ => rfl) (fun _ => rfl) fun y_s_5385 => ?_)
  refine (sw_while (s0 := (y_s_5385.1, ((eP3 (eW "web") eI (eT (eP2 eI eI))) y_s_5385.2))) (fun (y_s_5457 : ((List (PyData × Int)) × PyData)) => [.im .pot, .im (.d ((eP3 (eW "web") eI (eT (eP2 eI eI))) y_value)), .mu (List.map (eP2 eA eI) y_s_5457.1), .im (.d (eA y_s_5457.2)), .no, .no, .no]) (less_same (less_same (less_same (less_same (less_no (less_no (less_no less_nil))))))) (fun y_s_5457 => (t_and (t_B (x_isa (c := "tuple") (fun d => PyData.isTuple d) (x_var (e := eA) 3 rfl) isa_tuple)) (t_and (t_test (x_op (x_cb1 (x_var (e := eA) 3 rfl) c_lenA) x_int r_gtI)) (t_and (t_test (x_open 2 rfl sc_bool (x_op (x_cb1 (x_var (e := (eL (eP2 eA eI))) 2 rfl) c_lenL) x_int r_ltI))) (t_test (x_op (x_call2 (f := _law_draw_w) (x_pot 0 rfl) x_int) x_int r_gtI)))))) (fun y_s_5457 _ => (sw_app (f := (eP2 eA eI)) 2 (fun (y_spots_5478 : (List (PyData × Int))) => [.im .pot, .im (.d ((eP3 (eW "web") eI (eT (eP2 eI eI))) y_value)), .mu (List.map (eP2 eA eI) y_spots_5478), .im (.d (eA y_s_5457.2)), .no, .no, .no]) rfl (x_tup2 (x_var (e := eA) 3 rfl) (x_call2 (f := _law_draw_w) (x_pot 0 rfl) (x_cb1 (x_var (e := eA) 3 rfl) c_lenA))) (fun _ => rfl) fun y_spots_5478 => (sw_last (sw_set 3 (fun (y_here_5492 : PyData) => [.im .pot, .im (.d ((eP3 (eW "web") eI (eT (eP2 eI eI))) y_value)), .mu (List.map (eP2 eA eI) y_spots_5478), .im (.d (eA y_here_5492)), .no, .no, .no]) (x_op (x_var (e := eA) 3 rfl) (x_openN 2 rfl (ni_V nl_int) (x_proj (e := (eP2 eA eI)) (f := eI) (1) (fun (y_a_5489 : (PyData × Int)) => y_a_5489.2) (fun _ => ⟨_, rfl, rfl⟩) (x_op (x_var (e := (eL (eP2 eA eI))) 2 rfl) (x_neg x_int) r_ixL))) r_ixA) stV (fun _ => rfl) fun y_here_5492 => (sw_end fun h => ⟨(y_spots_5478, y_here_5492), (less_same (less_same (less_same (less_same (less_no (less_no (less_no less_nil))))))), h⟩))))) fun y_s_5493 => ?_)
  refine (sw_shut 2 [.im .pot, .im (.d ((eP3 (eW "web") eI (eT (eP2 eI eI))) y_value)), .im (.d ((eL (eP2 eA eI)) y_s_5493.1)), .im (.d (eA y_s_5493.2)), .no, .no, .no] rfl rfl ?_)
  refine (sw_set 4 (fun (y_way_5496 : Int) => [.im .pot, .im (.d ((eP3 (eW "web") eI (eT (eP2 eI eI))) y_value)), .im (.d ((eL (eP2 eA eI)) y_s_5493.1)), .im (.d (eA y_s_5493.2)), .im (.d (eI y_way_5496)), .no, .no]) (x_call2 (f := _law_draw_w) (x_pot 0 rfl) x_int) stV (fun _ => rfl) fun y_way_5496 => ?_)
  refine (sw_ifJ (fun (y_s_5625 : PyData) => [.im .pot, .im (.d ((eP3 (eW "web") eI (eT (eP2 eI eI))) y_value)), .im (.d ((eL (eP2 eA eI)) y_s_5493.1)), .im (.d (eA y_s_5625)), .im (.d (eI y_way_5496)), .no, .no]) (t_and (t_B (x_isa (c := "tuple") (fun d => PyData.isTuple d) (x_var (e := eA) 3 rfl) isa_tuple)) (t_and (t_test (x_op (x_cb1 (x_var (e := eA) 3 rfl) c_lenA) x_int r_gtI)) (t_test (x_op (x_var (e := eI) 4 rfl) x_int r_ltI)))) (sw_set 6 (fun (y_at_5629 : Int) => [.im .pot, .im (.d ((eP3 (eW "web") eI (eT (eP2 eI eI))) y_value)), .im (.d ((eL (eP2 eA eI)) y_s_5493.1)), .im (.d (eA y_s_5493.2)), .im (.d (eI y_way_5496)), .no, .im (.d (eI y_at_5629))]) (x_call2 (f := _law_draw_w) (x_pot 0 rfl) (x_cb1 (x_var (e := eA) 3 rfl) c_lenA)) stV (fun _ => rfl) fun y_at_5629 => (sw_last (sw_set 3 (fun (y_here_5676 : PyData) => [.im .pot, .im (.d ((eP3 (eW "web") eI (eT (eP2 eI eI))) y_value)), .im (.d ((eL (eP2 eA eI)) y_s_5493.1)), .im (.d (eA y_here_5676)), .im (.d (eI y_way_5496)), .no, .im (.d (eI y_at_5629))]) (x_op (x_close (x_lst (f := eA) (xn_cons (x_cv (f := (eT eA)) (g := eA) cv_any (x_op (x_slT (x_cp (f := eA) (g := (eT eA)) (cp_AT (cp_of cv_id)) (x_var (e := eA) 3 rfl)) xo_none (xo_some (x_var (e := eI) 6 rfl))) (x_slT (x_cp (f := eA) (g := (eT eA)) (cp_AT (cp_of cv_id)) (x_var (e := eA) 3 rfl)) (xo_some (x_op (x_var (e := eI) 6 rfl) x_int r_add)) xo_none) r_catT)) (xn_cons (x_cv (f := (eT eA)) (g := eA) cv_any (x_op (x_slT (x_cp (f := eA) (g := (eT eA)) (cp_AT (cp_of cv_id)) (x_var (e := eA) 3 rfl)) xo_none (xo_some (x_op (x_var (e := eI) 6 rfl) x_int r_add))) (x_slT (x_cp (f := eA) (g := (eT eA)) (cp_AT (cp_of cv_id)) (x_var (e := eA) 3 rfl)) (xo_some (x_var (e := eI) 6 rfl)) xo_none) r_catT)) (xn_cons (x_cv (f := (eT eA)) (g := eA) cv_any (x_revT (x_cp (f := eA) (g := (eT eA)) (cp_AT (cp_of cv_id)) (x_var (e := eA) 3 rfl)))) (xn_cons (x_cv (f := (eL eA)) (g := eA) cv_any (x_close (x_cb1 (x_cp (f := eA) (g := (eT eA)) (cp_AT (cp_of cv_id)) (x_var (e := eA) 3 rfl)) c_lstT))) xn_nil)))))) (x_var (e := eI) 4 rfl) r_ixL) stV (fun _ => rfl) fun y_here_5676 => (sw_end fun h => ⟨y_here_5676, (less_same (less_same (less_same (less_same (less_same (less_no (less_no less_nil))))))), h⟩)))) (sw_if (t_B (x_isa (c := "int") (fun d => PyData.isInt d) (x_var (e := eA) 3 rfl) isa_int)) (sw_last (sw_set 3 (fun (y_here_5712 : PyData) => [.im .pot, .im (.d ((eP3 (eW "web") eI (eT (eP2 eI eI))) y_value)), .im (.d ((eL (eP2 eA eI)) y_s_5493.1)), .im (.d (eA y_here_5712)), .im (.d (eI y_way_5496)), .no, .no]) (x_call2 (f := _law_pick_3_w) (x_pot 0 rfl) (x_close (x_lst (f := eA) (xn_cons (x_cv (f := eI) (g := eA) cv_any (x_op (x_cp (f := eA) (g := eI) cp_AI (x_var (e := eA) 3 rfl)) x_int r_add)) (xn_cons (x_cv (f := eI) (g := eA) cv_any (x_op (x_cp (f := eA) (g := eI) cp_AI (x_var (e := eA) 3 rfl)) x_int r_sub)) (xn_cons (x_cv (f := eB) (g := eA) cv_any x_bl) (xn_cons (x_cv (f := eU) (g := eA) cv_any x_non) (xn_cons (x_cv (f := eI) (g := eA) cv_any x_int) (xn_cons (x_cv (f := eI) (g := eA) cv_any x_int) (xn_cons (x_cv (f := (eP1 eA)) (g := eA) cv_any (x_tup1 (x_var (e := eA) 3 rfl))) (xn_cons (x_cv (f := (eW "1")) (g := eA) cv_any x_str) xn_nil))))))))))) stV (fun _ => rfl) fun y_here_5712 => (sw_end fun h => ⟨y_here_5712, (less_same (less_same (less_same (less_same (less_same (less_no (less_no less_nil))))))), h⟩))) (sw_last (sw_set 3 (fun (y_here_5744 : PyData) => [.im .pot, .im (.d ((eP3 (eW "web") eI (eT (eP2 eI eI))) y_value)), .im (.d ((eL (eP2 eA eI)) y_s_5493.1)), .im (.d (eA y_here_5744)), .im (.d (eI y_way_5496)), .no, .no]) (x_call2 (f := _law_pick_3_w) (x_pot 0 rfl) (x_close (x_lst (f := eA) (xn_cons (x_cv (f := eU) (g := eA) cv_any x_non) (xn_cons (x_cv (f := eI) (g := eA) cv_any x_int) (xn_cons (x_cv (f := (eT eI)) (g := eA) cv_any (x_tupN (f := eI) xn_nil)) (xn_cons (x_cv (f := (eL eI)) (g := eA) cv_any (x_close (x_lst (f := eI) xn_nil))) (xn_cons (x_cv (f := (eW "web")) (g := eA) cv_any x_str) (xn_cons (x_cv (f := (eW "Web")) (g := eA) cv_any x_str) (xn_cons (x_cv (f := eD) (g := eA) cv_any x_dict) (xn_cons (x_cv (f := (eP2 eI eI)) (g := eA) cv_any (x_tup2 x_int x_int)) (xn_cons (x_cv (f := (eW "odd")) (g := eA) cv_any x_str) xn_nil)))))))))))) stV (fun _ => rfl) fun y_here_5744 => (sw_end fun h => ⟨y_here_5744, (less_same (less_same (less_same (less_same (less_same (less_no (less_no less_nil))))))), h⟩)))) fun y_s_5625 => ?_)
  refine (sw_forS (js := [5, 6]) (eI' := (eP2 eA eI)) (s0 := y_s_5625) (fun (y_s_5766 : PyData) => [.im .pot, .im (.d ((eP3 (eW "web") eI (eT (eP2 eI eI))) y_value)), .im (.d ((eL (eP2 eA eI)) y_s_5493.1)), .im (.d (eA y_s_5766)), .im (.d (eI y_way_5496)), .no, .no]) (fun (y_i_5746 : (PyData × Int)) (y_s_5766 : PyData) => [.im .pot, .im (.d ((eP3 (eW "web") eI (eT (eP2 eI eI))) y_value)), .im (.d ((eL (eP2 eA eI)) y_s_5493.1)), .im (.d (eA y_s_5766)), .im (.d (eI y_way_5496)), .im (.d (eA (y_i_5746.1))), .im (.d (eI (y_i_5746.2)))]) (xi_L (x_close (x_revL (x_var (e := (eL (eP2 eA eI))) 2 rfl)))) (less_same (less_same (less_same (less_same (less_same (less_no (less_no less_nil))))))) (fun y_i_5746 y_s_5766 => (tg_tup (js := [5, 6]) (tgs_cons (js := [5]) (ks := [6]) (tg_name trivial) (tgs_cons (js := [6]) (ks := []) (tg_name trivial) tgs_nil)) rfl)) (fun y_i_5746 y_s_5766 _ => (sw_last (sw_set 3 (fun (y_here_5786 : (List PyData)) => [.im .pot, .im (.d ((eP3 (eW "web") eI (eT (eP2 eI eI))) y_value)), .im (.d ((eL (eP2 eA eI)) y_s_5493.1)), .im (.d ((eT eA) y_here_5786)), .im (.d (eI y_way_5496)), .im (.d (eA (y_i_5746.1))), .im (.d (eI (y_i_5746.2)))]) (x_op (x_op (x_slT (x_cp (f := eA) (g := (eT eA)) (cp_AT (cp_of cv_id)) (x_var (e := eA) 5 rfl)) xo_none (xo_some (x_var (e := eI) 6 rfl))) (x_tupN (f := eA) (xn_cons (x_var (e := eA) 3 rfl) xn_nil)) r_catT) (x_slT (x_cp (f := eA) (g := (eT eA)) (cp_AT (cp_of cv_id)) (x_var (e := eA) 5 rfl)) (xo_some (x_op (x_var (e := eI) 6 rfl) x_int r_add)) xo_none) r_catT) stV (fun _ => rfl) fun y_here_5786 => (sw_end fun h => ⟨((eT eA) y_here_5786), (less_same (less_same (less_same (less_same (less_same (less_no (less_no less_nil))))))), h⟩)))) fun y_s_5787 => ?_)
  exact (sw_ret (g := fun (y_r_5788 : PyData) => y_r_5788) (x_var (e := eA) 3 rfl) (fun a z hz hr => ⟨a, hz, hr⟩) (fun a z hz hr => ⟨a, hz, hr⟩))
set_option maxHeartbeats 0 in
theorem ok__law_is_whole {f : Addr} {fd : FuncData} (F : Fun K "_law_is_whole" "_law_is_whole" s__law_is_whole f fd) (B : Blt mg)  : FnG P w K mg base 1 f fd ["value", "least", "most"] (sp__law_is_whole K) := by
  refine fnN (xs := (fun a : (PyData × Int × Int) => [(vD eA) a.1, (vD eI) a.2.1, (vD eI) a.2.2])) (f := (fun a : (PyData × Int × Int) => _law_is_whole_w a.1 a.2.1 a.2.2)) (eR := (eV eB)) F sc__law_is_whole (fun _ => rfl) fun cdv A outer s H E hr hgd => ?_
  have hu := hr.units
  refine ⟨_, (pss_one (ps_ret (pe_and (pe_callB call_isaG (by rfl) B.n_isinstance (by decide +kernel) (pa_cons (pv 0) (pa_cons (pe_bltn (v := .ty "int") (by rfl) B.n_int (by decide +kernel) rfl) pa_nil))) (pe_and (pe_not (pe_callB call_isaG (by rfl) B.n_isinstance (by decide +kernel) (pa_cons (pv 0) (pa_cons (pe_bltn (v := .ty "bool") (by rfl) B.n_bool (by decide +kernel) rfl) pa_nil)))) (pe_one (pe_chain (op_leD hu) (op_leD hu) (pv 1) (pv 0) (pv 2))))))), ?_⟩
  rintro ⟨y_value, y_least, y_most⟩ R
  show SxW K _ _ _ R (_law_is_whole_w y_value y_least y_most)
  unfold _law_is_whole_w
  refine sw_start [.im (.d (eA y_value)), .im (.d (eI y_least)), .im (.d (eI y_most))] rfl ?_
  exact (sw_ret (g := fun (y_r_5802 : Bool) => y_r_5802) (x_and (x_isa (c := "int") (fun d => PyData.isInt d) (x_var (e := eA) 0 rfl) isa_int) (x_and (x_not (x_isa (c := "bool") (fun d => PyData.isBool d) (x_var (e := eA) 0 rfl) isa_bool)) (x_chain (x_var (e := eI) 1 rfl) (x_cp (f := eA) (g := eI) cp_AI (x_var (e := eA) 0 rfl)) (x_var (e := eI) 2 rfl) r_leI r_leI))) (fun a z hz hr => ⟨a, hz, hr⟩) (fun a z hz hr => ⟨a, hz, hr⟩))
set_option maxHeartbeats 0 in
theorem ok__law_is_web {f : Addr} {fd : FuncData} (F : Fun K "_law_is_web" "_law_is_web" s__law_is_web f fd) (B : Blt mg) (g__law_is_whole : ClG P w K mg base 1 "_law_is_whole" (sp__law_is_whole K)) : FnG P w K mg base 2 f fd ["value"] (sp__law_is_web K) := by
  refine fnN (xs := (fun a : PyData => [(vD eA) a])) (f := (fun a : PyData => _law_is_web_w a)) (eR := (eV eB)) F sc__law_is_web (fun _ => rfl) fun cdv A outer s H E hr hgd => ?_
  have hu := hr.units
  refine ⟨_, (pss_cons (ps_if (PW.pt (pw_or (pt_not (pt_val (pe_callB call_isaG (by rfl) B.n_isinstance (by decide +kernel) (pa_cons (pv 0) (pa_cons (pe_bltn (v := .ty "tuple") (by rfl) B.n_tuple (by decide +kernel) rfl) pa_nil))))) (pw_or (pt_cmpR (op_neP hu) (pe_callB call_lenG (by rfl) B.n_len (by decide +kernel) (pa_cons (pv 0) pa_nil)) pe_int (nomark _)) (pw_or (pt_not (pt_val (pe_callB call_isaG (by rfl) B.n_isinstance (by decide +kernel) (pa_cons (pe_ix ix_seq (pv 0) pe_int (fun _ _ => rfl)) (pa_cons (pe_bltn (v := .ty "str") (by rfl) B.n_str (by decide +kernel) rfl) pa_nil))))) (pw_or1 (pt_cmpR (op_neP hu) (pe_ix ix_seq (pv 0) pe_int (fun _ _ => rfl)) pe_str (nomark _)))))))
      (pss_one (ps_ret pe_bl))
      pss_nil)
      (pss_cons (ps_if (PW.pt (pw_or (pt_not (pt_val (pe_clg g__law_is_whole hgd hr (by decide) (by rfl) (pa_cons (pe_ix ix_seq (pv 0) pe_int (fun _ _ => rfl)) (pa_cons pe_int (pa_cons pe_int pa_nil)))))) (pw_or1 (pt_not (pt_val (pe_callB call_isaG (by rfl) B.n_isinstance (by decide +kernel) (pa_cons (pe_ix ix_seq (pv 0) pe_int (fun _ _ => rfl)) (pa_cons (pe_bltn (v := .ty "tuple") (by rfl) B.n_tuple (by decide +kernel) rfl) pa_nil))))))))
      (pss_one (ps_ret pe_bl))
      pss_nil)
      (pss_cons (ps_for PassesOwn.never rfl (pi_seq (pe_ix ix_seq (pv 0) pe_int (fun _ _ => rfl))) (pg_name (i := 1) sc__law_is_web.nd rfl (.inl rfl))
      (pss_one (ps_if (PW.pt (pw_or (pt_not (pt_val (pe_callB call_isaG (by rfl) B.n_isinstance (by decide +kernel) (pa_cons (pv 1) (pa_cons (pe_bltn (v := .ty "tuple") (by rfl) B.n_tuple (by decide +kernel) rfl) pa_nil))))) (pw_or (pt_cmpR (op_neP hu) (pe_callB call_lenG (by rfl) B.n_len (by decide +kernel) (pa_cons (pv 1) pa_nil)) pe_int (nomark _)) (pw_or1 (pt_not (pt_val (pe_callB (cr_all rfl) (by rfl) B.n_all (by decide +kernel) (pa_cons (pe_lc (own := [("one", 4)]) (g := (gName 4)) (tt := tYes) (te := (tCall (sp__law_is_whole K) [] E0 (tCons (tVar 4) (tCons (tC (.int 0)) (tCons (tOp rSubI (tOp (rIx K) (tVar 0) (tC (.int 1))) (tC (.int 1))) tNil))))) (by rfl) sc__law_is_web.nd (pi_seq (pv 1)) (blkOk_by (own := [("one", 4)]) (by first | decide +kernel | rfl)) (fun _ _ _ _ _ => (pg_name (i := 4) sc__law_is_web.nd rfl (by first | exact Or.inl rfl | exact Or.inr rfl))) (fun _ _ _ _ _ => pts_nil) (fun _ _ _ _ _ => (pe_clg g__law_is_whole hgd hr (by decide) (by rfl) (pa_cons (pv 4) (pa_cons pe_int (pa_cons (pe_op op_subG (pe_ix ix_seq (pv 0) pe_int (fun _ _ => rfl)) pe_int) pa_nil)))))) pa_nil))))))))
      (pss_one (ps_ret pe_bl))
      pss_nil)))
      (pss_one (ps_ret (pe_and (pe_callB (cr_all rfl) (by rfl) B.n_all (by decide +kernel) (pa_cons (pe_lc (own := [("pair", 1)]) (g := (gName 1)) (tt := tYes) (te := (tOp (rLtD K) (tOp (rIx K) (tVar 1) (tC (.int 0))) (tOp (rIx K) (tVar 1) (tC (.int 1))))) (by rfl) sc__law_is_web.nd (pi_seq (pe_ix ix_seq (pv 0) pe_int (fun _ _ => rfl))) (blkOk_by (own := [("pair", 1)]) (by first | decide +kernel | rfl)) (fun _ _ _ _ _ => (pg_name (i := 1) sc__law_is_web.nd rfl (by first | exact Or.inl rfl | exact Or.inr rfl))) (fun _ _ _ _ _ => pts_nil) (fun _ _ _ _ _ => (pe_cmpR (op_ltD hu) (pe_ix ix_seq (pv 1) pe_int (fun _ _ => rfl)) (pe_ix ix_seq (pv 1) pe_int (fun _ _ => rfl)) (nomark _)))) pa_nil)) (pe_one (pe_callB (cr_all rfl) (by rfl) B.n_all (by decide +kernel) (pa_cons (pe_lc (own := [("near", 2), ("far", 3)]) (g := (gTup K 2 (gCons (gName 2) (gCons (gName 3) gNil)))) (tt := tYes) (te := (tOp (rLtD K) (tVar 2) (tVar 3))) (by rfl) sc__law_is_web.nd (RZ.pi_zipA (by rfl) B.n_zip (pa_cons (pe_ix ix_seq (pv 0) pe_int (fun _ _ => rfl)) (pa_cons (pe_slice sl_seq (pe_ix ix_seq (pv 0) pe_int (fun _ _ => rfl)) (po_some pe_int) po_none) pa_nil))) (blkOk_by (own := [("near", 2), ("far", 3)]) (by first | decide +kernel | rfl)) (fun _ _ _ _ _ => (pg_tup (by rfl) (pgs_cons (pg_name (i := 2) sc__law_is_web.nd rfl (by first | exact Or.inl rfl | exact Or.inr rfl)) (pgs_cons (pg_name (i := 3) sc__law_is_web.nd rfl (by first | exact Or.inl rfl | exact Or.inr rfl)) pgs_nil)))) (fun _ _ _ _ _ => pts_nil) (fun _ _ _ _ _ => (pe_cmpR (op_ltD hu) (pv 2) (pv 3) (nomark _)))) pa_nil))))))))), ?_⟩
  rintro y_value R
  show SxW K _ _ _ R (_law_is_web_w y_value)
  unfold _law_is_web_w
  refine sw_start [.im (.d (eA y_value)), .no, .no, .no, .no] rfl ?_
  refine (sw_ifRet (t_or (t_not (t_B (x_isa (c := "tuple") (fun d => PyData.isTuple d) (x_var (e := eA) 0 rfl) isa_tuple))) (t_or (t_test (x_op (x_cb1 (x_var (e := eA) 0 rfl) c_lenA) x_int (r_ne ek_int dk_int (by decide)))) (t_or (t_not (t_B (x_isa (c := "str") (fun d => PyData.isStr d) (x_op (x_var (e := eA) 0 rfl) x_int r_ixA) isa_str))) (t_test (x_op (x_op (x_var (e := eA) 0 rfl) x_int r_ixA) (x_cv (f := (eW "web")) (g := eA) cv_any x_str) r_neA))))) (sw_ret (g := fun (y_r_5821 : Bool) => y_r_5821) x_bl (fun a z hz hr => ⟨a, hz, hr⟩) (fun a z hz hr => ⟨a, hz, hr⟩)) ?_)
  refine (sw_ifRet (t_or (t_not (t_B (x_call3 (f := _law_is_whole_w) (x_op (x_var (e := eA) 0 rfl) x_int r_ixA) x_int x_int))) (t_not (t_B (x_isa (c := "tuple") (fun d => PyData.isTuple d) (x_op (x_var (e := eA) 0 rfl) x_int r_ixA) isa_tuple)))) (sw_ret (g := fun (y_r_5834 : Bool) => y_r_5834) x_bl (fun a z hz hr => ⟨a, hz, hr⟩) (fun a z hz hr => ⟨a, hz, hr⟩)) ?_)
  refine (sw_forF (js := [1]) (eI' := eA) (s0 := ()) (r := (fun (r : Bool) => r)) (fun (y_s_5861 : Unit) => [.im (.d (eA y_value)), .no, .no, .no, .no]) (fun (y_i_5838 : PyData) (y_s_5861 : Unit) => [.im (.d (eA y_value)), .im (.d (eA y_i_5838)), .no, .no, .no]) (xi_T (x_cp (f := eA) (g := (eT eA)) (cp_AT (cp_of cv_id)) (x_op (x_var (e := eA) 0 rfl) x_int r_ixA))) (less_same (less_no (less_no (less_no (less_no less_nil))))) (fun y_i_5838 y_s_5861 => (tg_name trivial)) (fun y_i_5838 y_s_5861 _ y_h_5862 => (sw_if (t_or (t_not (t_B (x_isa (c := "tuple") (fun d => PyData.isTuple d) (x_var (e := eA) 1 rfl) isa_tuple))) (t_or (t_test (x_op (x_cb1 (x_var (e := eA) 1 rfl) c_lenA) x_int (r_ne ek_int dk_int (by decide)))) (t_not (t_B (x_cb1 (x_close (x_lc (js := [4]) (eI' := eA) (f := eB) (es2 := fun (y_i_5869 : PyData) => [.im (.d (eA y_value)), .im (.d (eA y_i_5838)), .no, .no, .im (.d (eA y_i_5869))]) (xi_T (x_cp (f := eA) (g := (eT eA)) (cp_AT (cp_of cv_id)) (x_var (e := eA) 1 rfl))) (by decide) (fun y_i_5869 => (tg_name trivial)) (fun y_i_5869 => t_yes) (fun y_i_5869 => (x_call3 (f := _law_is_whole_w) (x_var (e := eA) 4 rfl) x_int (x_op (x_cp (f := eA) (g := eI) cp_AI (x_op (x_var (e := eA) 0 rfl) x_int r_ixA)) x_int r_sub))))) c_all))))) (sw_ret (g := fun (y_r_5884 : Bool) => (W.Fl.rt y_r_5884)) x_bl (fun a z hz hr => ⟨a, hz, (y_h_5862 a hr)⟩) (fun a z hz hr => ⟨a, hz, (y_h_5862 a hr)⟩)) (sw_end fun h => ⟨(), (less_same (less_no (less_no (less_no (less_no less_nil))))), h⟩))) fun y_s_5885 => ?_)
  exact (sw_ret (g := fun (y_r_5916 : Bool) => y_r_5916) (x_and (x_cb1 (x_close (x_lc (js := [1]) (eI' := eA) (f := eB) (es2 := fun (y_i_5889 : PyData) => [.im (.d (eA y_value)), .im (.d (eA y_i_5889)), .no, .no, .no]) (xi_T (x_cp (f := eA) (g := (eT eA)) (cp_AT (cp_of cv_id)) (x_op (x_var (e := eA) 0 rfl) x_int r_ixA))) (by decide) (fun y_i_5889 => (tg_name trivial)) (fun y_i_5889 => t_yes) (fun y_i_5889 => (x_op (x_op (x_var (e := eA) 1 rfl) x_int r_ixA) (x_op (x_var (e := eA) 1 rfl) x_int r_ixA) r_ltA)))) c_all) (x_cb1 (x_close (x_lc (js := [2, 3]) (eI' := (eP2 eA eA)) (f := eB) (es2 := fun (y_i_5910 : (PyData × PyData)) => [.im (.d (eA y_value)), .no, .im (.d (eA (y_i_5910.1))), .im (.d (eA (y_i_5910.2))), .no]) (xi_zipT (x_cp (f := eA) (g := (eT eA)) (cp_AT (cp_of cv_id)) (x_op (x_var (e := eA) 0 rfl) x_int r_ixA)) (x_slT (x_cp (f := eA) (g := (eT eA)) (cp_AT (cp_of cv_id)) (x_op (x_var (e := eA) 0 rfl) x_int r_ixA)) (xo_some x_int) xo_none)) (by decide) (fun y_i_5910 => (tg_tup (js := [2, 3]) (tgs_cons (js := [2]) (ks := [3]) (tg_name trivial) (tgs_cons (js := [3]) (ks := []) (tg_name trivial) tgs_nil)) rfl)) (fun y_i_5910 => t_yes) (fun y_i_5910 => (x_op (x_var (e := eA) 2 rfl) (x_var (e := eA) 3 rfl) r_ltA)))) c_all)) (fun a z hz hr => ⟨a, hz, hr⟩) (fun a z hz hr => ⟨a, hz, hr⟩))
set_option maxHeartbeats 0 in
theorem ok__law_is_joined {f : Addr} {fd : FuncData} (F : Fun K "_law_is_joined" "_law_is_joined" s__law_is_joined f fd) (B : Blt mg) (g__law_is_web : ClG P w K mg base 2 "_law_is_web" (sp__law_is_web K)) (g__law_pieces_2 : ClG P w K mg base 1 "_law_pieces" (sp__law_pieces_2 K)) : FnG P w K mg base 3 f fd ["value"] (sp__law_is_joined K) := by
  refine fnN (xs := (fun a : PyData => [(vD eA) a])) (f := (fun a : PyData => _law_is_joined_w a)) (eR := (eV eB)) F sc__law_is_joined (fun _ => rfl) fun cdv A outer s H E hr hgd => ?_
  have hu := hr.units
  refine ⟨_, (pss_one (ps_ret (pe_and (pe_clg g__law_is_web hgd hr (by decide) (by rfl) (pa_cons (pv 0) pa_nil)) (pe_one (pe_cmpR (op_eqP hu) (pe_callB call_lenG (by rfl) B.n_len (by decide +kernel) (pa_cons (pe_clg g__law_pieces_2 hgd hr (by decide) (by rfl) (pa_cons (pe_ix ix_seq (pv 0) pe_int (fun _ _ => rfl)) (pa_cons (pe_ix ix_seq (pv 0) pe_int (fun _ _ => rfl)) pa_nil))) pa_nil)) pe_int (nomark _)))))), ?_⟩
  rintro y_value R
  show SxW K _ _ _ R (_law_is_joined_w y_value)
  unfold _law_is_joined_w
  refine sw_start [.im (.d (eA y_value))] rfl ?_
  exact (sw_ret (g := fun (y_r_5931 : Bool) => y_r_5931) (x_and (x_call1 (f := _law_is_web_w) (x_var (e := eA) 0 rfl)) (x_op (x_cb1 (x_close (x_call2 (f := _law_pieces_2_w) (x_cp (f := eA) (g := eI) cp_AI (x_op (x_var (e := eA) 0 rfl) x_int r_ixA)) (x_cp (f := eA) (g := (eT (eP2 eI eI))) (cp_AT (cp_AP (cp_TP2 cp_AI cp_AI))) (x_op (x_var (e := eA) 0 rfl) x_int r_ixA)))) c_lenL) x_int (r_eq ek_int dk_int (by decide)))) (fun a z hz hr => ⟨a, hz, hr⟩) (fun a z hz hr => ⟨a, hz, hr⟩))
set_option maxHeartbeats 0 in
theorem ok__law_is_firm {f : Addr} {fd : FuncData} (F : Fun K "_law_is_firm" "_law_is_firm" s__law_is_firm f fd) (B : Blt mg) (g__law_is_joined : ClG P w K mg base 3 "_law_is_joined" (sp__law_is_joined K)) (g__law_is_bridge : ClG P w K mg base 2 "_law_is_bridge" (sp__law_is_bridge K)) : FnG P w K mg base 4 f fd ["value"] (sp__law_is_firm K) := by
  refine fnN (xs := (fun a : PyData => [(vD eA) a])) (f := (fun a : PyData => _law_is_firm_w a)) (eR := (eV eB)) F sc__law_is_firm (fun _ => rfl) fun cdv A outer s H E hr hgd => ?_
  have hu := hr.units
  refine ⟨_, (pss_one (ps_ret (pe_and (pe_clg g__law_is_joined hgd hr (by decide) (by rfl) (pa_cons (pv 0) pa_nil)) (pe_one (pe_not (pe_callB (cr_any rfl) (by rfl) B.n_any (by decide +kernel) (pa_cons (pe_lc (own := [("pair", 1)]) (g := (gName 1)) (tt := tYes) (te := (tCall (sp__law_is_bridge K) [] E0 (tCons (tVar 0) (tCons (tVar 1) tNil)))) (by rfl) sc__law_is_firm.nd (pi_seq (pe_ix ix_seq (pv 0) pe_int (fun _ _ => rfl))) (blkOk_by (own := [("pair", 1)]) (by first | decide +kernel | rfl)) (fun _ _ _ _ _ => (pg_name (i := 1) sc__law_is_firm.nd rfl (by first | exact Or.inl rfl | exact Or.inr rfl))) (fun _ _ _ _ _ => pts_nil) (fun _ _ _ _ _ => (pe_clg g__law_is_bridge hgd hr (by decide) (by rfl) (pa_cons (pv 0) (pa_cons (pv 1) pa_nil))))) pa_nil))))))), ?_⟩
  rintro y_value R
  show SxW K _ _ _ R (_law_is_firm_w y_value)
  unfold _law_is_firm_w
  refine sw_start [.im (.d (eA y_value)), .no] rfl ?_
  exact (sw_ret (g := fun (y_r_5945 : Bool) => y_r_5945) (x_and (x_call1 (f := _law_is_joined_w) (x_var (e := eA) 0 rfl)) (x_not (x_cb1 (x_close (x_lc (js := [1]) (eI' := eA) (f := eB) (es2 := fun (y_i_5936 : PyData) => [.im (.d (eA y_value)), .im (.d (eA y_i_5936))]) (xi_T (x_cp (f := eA) (g := (eT eA)) (cp_AT (cp_of cv_id)) (x_op (x_var (e := eA) 0 rfl) x_int r_ixA))) (by decide) (fun y_i_5936 => (tg_name trivial)) (fun y_i_5936 => t_yes) (fun y_i_5936 => (x_call2 (f := _law_is_bridge_w) (x_cp (f := eA) (g := (eP3 (eW "web") eI (eT (eP2 eI eI)))) (cp_AP (cp_TP3 cp_AW cp_AI (cp_AT (cp_AP (cp_TP2 cp_AI cp_AI))))) (x_var (e := eA) 0 rfl)) (x_cp (f := eA) (g := (eP2 eI eI)) (cp_AP (cp_TP2 cp_AI cp_AI)) (x_var (e := eA) 1 rfl)))))) c_any))) (fun a z hz hr => ⟨a, hz, hr⟩) (fun a z hz hr => ⟨a, hz, hr⟩))
set_option maxHeartbeats 0 in
theorem ok_is_tuple_3 {f : Addr} {fd : FuncData} (F : Fun K "is_tuple" "is_tuple" s_is_tuple f fd) (B : Blt mg)  : FnG P w K mg base 1 f fd ["value", "many"] (sp_is_tuple_3 K) := by
  refine fnN (xs := (fun a : (PyData × Int) => [(vD eA) a.1, (vD eI) a.2])) (f := (fun a : (PyData × Int) => is_tuple_3_w a.1 a.2)) (eR := (eV eB)) F sc_is_tuple (fun _ => rfl) fun cdv A outer s H E hr hgd => ?_
  have hu := hr.units
  refine ⟨_, (pss_one (ps_ret (pe_and (pe_callB call_isaG (by rfl) B.n_isinstance (by decide +kernel) (pa_cons (pv 0) (pa_cons (pe_bltn (v := .ty "tuple") (by rfl) B.n_tuple (by decide +kernel) rfl) pa_nil))) (pe_one (pe_cmpR (op_eqP hu) (pe_callB call_lenG (by rfl) B.n_len (by decide +kernel) (pa_cons (pv 0) pa_nil)) (pv 1) (nomark _)))))), ?_⟩
  rintro ⟨y_value, y_many⟩ R
  show SxW K _ _ _ R (is_tuple_3_w y_value y_many)
  unfold is_tuple_3_w
  refine sw_start [.im (.d (eA y_value)), .im (.d (eI y_many))] rfl ?_
  exact (sw_ret (g := fun (y_r_5951 : Bool) => y_r_5951) (x_and (x_isa (c := "tuple") (fun d => PyData.isTuple d) (x_var (e := eA) 0 rfl) isa_tuple) (x_op (x_cb1 (x_var (e := eA) 0 rfl) c_lenA) (x_var (e := eI) 1 rfl) (r_eq ek_int dk_int (by decide)))) (fun a z hz hr => ⟨a, hz, hr⟩) (fun a z hz hr => ⟨a, hz, hr⟩))
set_option maxHeartbeats 0 in
theorem ok_is_integer_2 {f : Addr} {fd : FuncData} (F : Fun K "is_integer" "is_integer" s_is_integer f fd) (B : Blt mg)  : FnG P w K mg base 1 f fd ["value"] (sp_is_integer_2 K) := by
  refine fnN (xs := (fun a : PyData => [(vD eA) a])) (f := (fun a : PyData => is_integer_2_w a)) (eR := (eV eB)) F sc_is_integer (fun _ => rfl) fun cdv A outer s H E hr hgd => ?_
  have hu := hr.units
  refine ⟨_, (pss_one (ps_ret (pe_and (pe_callB call_isaG (by rfl) B.n_isinstance (by decide +kernel) (pa_cons (pv 0) (pa_cons (pe_bltn (v := .ty "int") (by rfl) B.n_int (by decide +kernel) rfl) pa_nil))) (pe_one (pe_not (pe_callB call_isaG (by rfl) B.n_isinstance (by decide +kernel) (pa_cons (pv 0) (pa_cons (pe_bltn (v := .ty "bool") (by rfl) B.n_bool (by decide +kernel) rfl) pa_nil)))))))), ?_⟩
  rintro y_value R
  show SxW K _ _ _ R (is_integer_2_w y_value)
  unfold is_integer_2_w
  refine sw_start [.im (.d (eA y_value))] rfl ?_
  exact (sw_ret (g := fun (y_r_5956 : Bool) => y_r_5956) (x_and (x_isa (c := "int") (fun d => PyData.isInt d) (x_var (e := eA) 0 rfl) isa_int) (x_not (x_isa (c := "bool") (fun d => PyData.isBool d) (x_var (e := eA) 0 rfl) isa_bool))) (fun a z hz hr => ⟨a, hz, hr⟩) (fun a z hz hr => ⟨a, hz, hr⟩))
set_option maxHeartbeats 0 in
theorem ok_is_within_2 {f : Addr} {fd : FuncData} (F : Fun K "is_within" "is_within" s_is_within f fd) (B : Blt mg) (g_is_integer_2 : ClG P w K mg base 1 "is_integer" (sp_is_integer_2 K)) : FnG P w K mg base 2 f fd ["value", "least", "most"] (sp_is_within_2 K) := by
  refine fnN (xs := (fun a : (PyData × Int × Int) => [(vD eA) a.1, (vD eI) a.2.1, (vD eI) a.2.2])) (f := (fun a : (PyData × Int × Int) => is_within_2_w a.1 a.2.1 a.2.2)) (eR := (eV eB)) F sc_is_within (fun _ => rfl) fun cdv A outer s H E hr hgd => ?_
  have hu := hr.units
  refine ⟨_, (pss_one (ps_ret (pe_and (pe_clg g_is_integer_2 hgd hr (by decide) (by rfl) (pa_cons (pv 0) pa_nil)) (pe_one (pe_chain (op_leD hu) (op_leD hu) (pv 1) (pv 0) (pv 2)))))), ?_⟩
  rintro ⟨y_value, y_least, y_most⟩ R
  show SxW K _ _ _ R (is_within_2_w y_value y_least y_most)
  unfold is_within_2_w
  refine sw_start [.im (.d (eA y_value)), .im (.d (eI y_least)), .im (.d (eI y_most))] rfl ?_
  exact (sw_ret (g := fun (y_r_5964 : Bool) => y_r_5964) (x_and (x_call1 (f := is_integer_2_w) (x_var (e := eA) 0 rfl)) (x_chain (x_var (e := eI) 1 rfl) (x_cp (f := eA) (g := eI) cp_AI (x_var (e := eA) 0 rfl)) (x_var (e := eI) 2 rfl) r_leI r_leI)) (fun a z hz hr => ⟨a, hz, hr⟩) (fun a z hz hr => ⟨a, hz, hr⟩))
set_option maxHeartbeats 0 in
theorem ok_is_pair_of_2 {f : Addr} {fd : FuncData} (F : Fun K "is_pair_of" "is_pair_of" s_is_pair_of f fd) (B : Blt mg) (g_is_tuple_3 : ClG P w K mg base 1 "is_tuple" (sp_is_tuple_3 K)) (g_is_within_2 : ClG P w K mg base 2 "is_within" (sp_is_within_2 K)) : FnG P w K mg base 3 f fd ["persons", "value"] (sp_is_pair_of_2 K) := by
  refine fnN (xs := (fun a : (PyData × PyData) => [(vD eA) a.1, (vD eA) a.2])) (f := (fun a : (PyData × PyData) => is_pair_of_2_w a.1 a.2)) (eR := (eV eB)) F sc_is_pair_of (fun _ => rfl) fun cdv A outer s H E hr hgd => ?_
  have hu := hr.units
  refine ⟨_, (pss_one (ps_ret (pe_and (pe_clg g_is_tuple_3 hgd hr (by decide) (by rfl) (pa_cons (pv 1) (pa_cons pe_int pa_nil))) (pe_and (pe_callB (cr_all rfl) (by rfl) B.n_all (by decide +kernel) (pa_cons (pe_lc (own := [("one", 2)]) (g := (gName 2)) (tt := tYes) (te := (tCall (sp_is_within_2 K) [] E0 (tCons (tVar 2) (tCons (tC (.int 0)) (tCons (tOp rSubI (tVar 0) (tC (.int 1))) tNil))))) (by rfl) sc_is_pair_of.nd (pi_seq (pv 1)) (blkOk_by (own := [("one", 2)]) (by first | decide +kernel | rfl)) (fun _ _ _ _ _ => (pg_name (i := 2) sc_is_pair_of.nd rfl (by first | exact Or.inl rfl | exact Or.inr rfl))) (fun _ _ _ _ _ => pts_nil) (fun _ _ _ _ _ => (pe_clg g_is_within_2 hgd hr (by decide) (by rfl) (pa_cons (pv 2) (pa_cons pe_int (pa_cons (pe_op op_subG (pv 0) pe_int) pa_nil)))))) pa_nil)) (pe_one (pe_cmpR (op_ltD hu) (pe_ix ix_seq (pv 1) pe_int (fun _ _ => rfl)) (pe_ix ix_seq (pv 1) pe_int (fun _ _ => rfl)) (nomark _))))))), ?_⟩
  rintro ⟨y_persons, y_value⟩ R
  show SxW K _ _ _ R (is_pair_of_2_w y_persons y_value)
  unfold is_pair_of_2_w
  refine sw_start [.im (.d (eA y_persons)), .im (.d (eA y_value)), .no] rfl ?_
  exact (sw_ret (g := fun (y_r_5985 : Bool) => y_r_5985) (x_and (x_call2 (f := is_tuple_3_w) (x_var (e := eA) 1 rfl) x_int) (x_and (x_cb1 (x_close (x_lc (js := [2]) (eI' := eA) (f := eB) (es2 := fun (y_i_5968 : PyData) => [.im (.d (eA y_persons)), .im (.d (eA y_value)), .im (.d (eA y_i_5968))]) (xi_T (x_cp (f := eA) (g := (eT eA)) (cp_AT (cp_of cv_id)) (x_var (e := eA) 1 rfl))) (by decide) (fun y_i_5968 => (tg_name trivial)) (fun y_i_5968 => t_yes) (fun y_i_5968 => (x_call3 (f := is_within_2_w) (x_var (e := eA) 2 rfl) x_int (x_op (x_cp (f := eA) (g := eI) cp_AI (x_var (e := eA) 0 rfl)) x_int r_sub))))) c_all) (x_op (x_op (x_var (e := eA) 1 rfl) x_int r_ixA) (x_op (x_var (e := eA) 1 rfl) x_int r_ixA) r_ltA))) (fun a z hz hr => ⟨a, hz, hr⟩) (fun a z hz hr => ⟨a, hz, hr⟩))
set_option maxHeartbeats 0 in
theorem ok_are_pairs_of_2 {f : Addr} {fd : FuncData} (F : Fun K "are_pairs_of" "are_pairs_of" s_are_pairs_of f fd) (B : Blt mg) (g_is_pair_of_2 : ClG P w K mg base 3 "is_pair_of" (sp_is_pair_of_2 K)) : FnG P w K mg base 4 f fd ["persons", "value"] (sp_are_pairs_of_2 K) := by
  refine fnN (xs := (fun a : (PyData × PyData) => [(vD eA) a.1, (vD eA) a.2])) (f := (fun a : (PyData × PyData) => are_pairs_of_2_w a.1 a.2)) (eR := (eV eB)) F sc_are_pairs_of (fun _ => rfl) fun cdv A outer s H E hr hgd => ?_
  have hu := hr.units
  refine ⟨_, (pss_cons (ps_if (PW.pt (pw_or (pt_not (pt_val (pe_callB call_isaG (by rfl) B.n_isinstance (by decide +kernel) (pa_cons (pv 1) (pa_cons (pe_bltn (v := .ty "tuple") (by rfl) B.n_tuple (by decide +kernel) rfl) pa_nil))))) (pw_or1 (pt_not (pt_val (pe_callB (cr_all rfl) (by rfl) B.n_all (by decide +kernel) (pa_cons (pe_lc (own := [("one", 4)]) (g := (gName 4)) (tt := tYes) (te := (tCall (sp_is_pair_of_2 K) [] E0 (tCons (tVar 0) (tCons (tVar 4) tNil)))) (by rfl) sc_are_pairs_of.nd (pi_seq (pv 1)) (blkOk_by (own := [("one", 4)]) (by first | decide +kernel | rfl)) (fun _ _ _ _ _ => (pg_name (i := 4) sc_are_pairs_of.nd rfl (by first | exact Or.inl rfl | exact Or.inr rfl))) (fun _ _ _ _ _ => pts_nil) (fun _ _ _ _ _ => (pe_clg g_is_pair_of_2 hgd hr (by decide) (by rfl) (pa_cons (pv 0) (pa_cons (pv 4) pa_nil))))) pa_nil)))))))
      (pss_one (ps_ret pe_bl))
      pss_nil)
      (pss_one (ps_ret (pe_callB (cr_all rfl) (by rfl) B.n_all (by decide +kernel) (pa_cons (pe_lc (own := [("near", 2), ("far", 3)]) (g := (gTup K 2 (gCons (gName 2) (gCons (gName 3) gNil)))) (tt := tYes) (te := (tOp (rLtD K) (tVar 2) (tVar 3))) (by rfl) sc_are_pairs_of.nd (RZ.pi_zipA (by rfl) B.n_zip (pa_cons (pv 1) (pa_cons (pe_slice sl_seq (pv 1) (po_some pe_int) po_none) pa_nil))) (blkOk_by (own := [("near", 2), ("far", 3)]) (by first | decide +kernel | rfl)) (fun _ _ _ _ _ => (pg_tup (by rfl) (pgs_cons (pg_name (i := 2) sc_are_pairs_of.nd rfl (by first | exact Or.inl rfl | exact Or.inr rfl)) (pgs_cons (pg_name (i := 3) sc_are_pairs_of.nd rfl (by first | exact Or.inl rfl | exact Or.inr rfl)) pgs_nil)))) (fun _ _ _ _ _ => pts_nil) (fun _ _ _ _ _ => (pe_cmpR (op_ltD hu) (pv 2) (pv 3) (nomark _)))) pa_nil))))), ?_⟩
  rintro ⟨y_persons, y_value⟩ R
  show SxW K _ _ _ R (are_pairs_of_2_w y_persons y_value)
  unfold are_pairs_of_2_w
  refine sw_start [.im (.d (eA y_persons)), .im (.d (eA y_value)), .no, .no, .no] rfl ?_
  refine (sw_ifRet (t_or (t_not (t_B (x_isa (c := "tuple") (fun d => PyData.isTuple d) (x_var (e := eA) 1 rfl) isa_tuple))) (t_not (t_B (x_cb1 (x_close (x_lc (js := [4]) (eI' := eA) (f := eB) (es2 := fun (y_i_5989 : PyData) => [.im (.d (eA y_persons)), .im (.d (eA y_value)), .no, .no, .im (.d (eA y_i_5989))]) (xi_T (x_cp (f := eA) (g := (eT eA)) (cp_AT (cp_of cv_id)) (x_var (e := eA) 1 rfl))) (by decide) (fun y_i_5989 => (tg_name trivial)) (fun y_i_5989 => t_yes) (fun y_i_5989 => (x_call2 (f := is_pair_of_2_w) (x_var (e := eA) 0 rfl) (x_var (e := eA) 4 rfl))))) c_all)))) (sw_ret (g := fun (y_r_5997 : Bool) => y_r_5997) x_bl (fun a z hz hr => ⟨a, hz, hr⟩) (fun a z hz hr => ⟨a, hz, hr⟩)) ?_)
  exact (sw_ret (g := fun (y_r_6011 : Bool) => y_r_6011) (x_cb1 (x_close (x_lc (js := [2, 3]) (eI' := (eP2 eA eA)) (f := eB) (es2 := fun (y_i_6006 : (PyData × PyData)) => [.im (.d (eA y_persons)), .im (.d (eA y_value)), .im (.d (eA (y_i_6006.1))), .im (.d (eA (y_i_6006.2))), .no]) (xi_zipT (x_cp (f := eA) (g := (eT eA)) (cp_AT (cp_of cv_id)) (x_var (e := eA) 1 rfl)) (x_slT (x_cp (f := eA) (g := (eT eA)) (cp_AT (cp_of cv_id)) (x_var (e := eA) 1 rfl)) (xo_some x_int) xo_none)) (by decide) (fun y_i_6006 => (tg_tup (js := [2, 3]) (tgs_cons (js := [2]) (ks := [3]) (tg_name trivial) (tgs_cons (js := [3]) (ks := []) (tg_name trivial) tgs_nil)) rfl)) (fun y_i_6006 => t_yes) (fun y_i_6006 => (x_op (x_var (e := eA) 2 rfl) (x_var (e := eA) 3 rfl) r_ltA)))) c_all) (fun a z hz hr => ⟨a, hz, hr⟩) (fun a z hz hr => ⟨a, hz, hr⟩))
set_option maxHeartbeats 0 in
theorem ok_is_web_value_2 {f : Addr} {fd : FuncData} (F : Fun K "is_web_value" "is_web_value" s_is_web_value f fd) (B : Blt mg) (g_is_tuple_3 : ClG P w K mg base 1 "is_tuple" (sp_is_tuple_3 K)) (g_is_within_2 : ClG P w K mg base 2 "is_within" (sp_is_within_2 K)) (g_are_pairs_of_2 : ClG P w K mg base 4 "are_pairs_of" (sp_are_pairs_of_2 K)) (k_MOST_PERSONS : ∃ u, mg "MOST_PERSONS" = some u ∧ RelV (.int 10) u) : FnG P w K mg base 5 f fd ["value"] (sp_is_web_value_2 K) := by
  refine fnN (xs := (fun a : PyData => [(vD eA) a])) (f := (fun a : PyData => is_web_value_2_w a)) (eR := (eV eB)) F sc_is_web_value (fun _ => rfl) fun cdv A outer s H E hr hgd => ?_
  have hu := hr.units
  refine ⟨_, (pss_cons (ps_if (PW.pt (pw_or (pt_not (pt_val (pe_clg g_is_tuple_3 hgd hr (by decide) (by rfl) (pa_cons (pv 0) (pa_cons pe_int pa_nil))))) (pw_or (pt_not (pt_val (pe_callB call_isaG (by rfl) B.n_isinstance (by decide +kernel) (pa_cons (pe_ix ix_seq (pv 0) pe_int (fun _ _ => rfl)) (pa_cons (pe_bltn (v := .ty "str") (by rfl) B.n_str (by decide +kernel) rfl) pa_nil))))) (pw_or1 (pt_cmpR (op_neP hu) (pe_ix ix_seq (pv 0) pe_int (fun _ _ => rfl)) pe_str (nomark _))))))
      (pss_one (ps_ret pe_bl))
      pss_nil)
      (pss_one (ps_ret (pe_and (pe_clg g_is_within_2 hgd hr (by decide) (by rfl) (pa_cons (pe_ix ix_seq (pv 0) pe_int (fun _ _ => rfl)) (pa_cons pe_int (pa_cons (C8.pe_gc (by rfl) k_MOST_PERSONS) pa_nil)))) (pe_one (pe_clg g_are_pairs_of_2 hgd hr (by decide) (by rfl) (pa_cons (pe_ix ix_seq (pv 0) pe_int (fun _ _ => rfl)) (pa_cons (pe_ix ix_seq (pv 0) pe_int (fun _ _ => rfl)) pa_nil)))))))), ?_⟩
  rintro y_value R
  show SxW K _ _ _ R (is_web_value_2_w y_value)
  unfold is_web_value_2_w
  refine sw_start [.im (.d (eA y_value))] rfl ?_
  refine (sw_ifRet (t_or (t_not (t_B (x_call2 (f := is_tuple_3_w) (x_var (e := eA) 0 rfl) x_int))) (t_or (t_not (t_B (x_isa (c := "str") (fun d => PyData.isStr d) (x_op (x_var (e := eA) 0 rfl) x_int r_ixA) isa_str))) (t_test (x_op (x_op (x_var (e := eA) 0 rfl) x_int r_ixA) (x_cv (f := (eW "web")) (g := eA) cv_any x_str) r_neA)))) (sw_ret (g := fun (y_r_6027 : Bool) => y_r_6027) x_bl (fun a z hz hr => ⟨a, hz, hr⟩) (fun a z hz hr => ⟨a, hz, hr⟩)) ?_)
  exact (sw_ret (g := fun (y_r_6040 : Bool) => y_r_6040) (x_and (x_call3 (f := is_within_2_w) (x_op (x_var (e := eA) 0 rfl) x_int r_ixA) x_int x_int) (x_call2 (f := are_pairs_of_2_w) (x_op (x_var (e := eA) 0 rfl) x_int r_ixA) (x_op (x_var (e := eA) 0 rfl) x_int r_ixA))) (fun a z hz hr => ⟨a, hz, hr⟩) (fun a z hz hr => ⟨a, hz, hr⟩))
set_option maxHeartbeats 0 in
theorem ok_is_joined_value_2 {f : Addr} {fd : FuncData} (F : Fun K "is_joined_value" "is_joined_value" s_is_joined_value f fd) (B : Blt mg) (g_is_web_value_2 : ClG P w K mg base 5 "is_web_value" (sp_is_web_value_2 K)) (g_pieces_of : ClG P w K mg base 1 "pieces_of" (sp_pieces_of K)) : FnG P w K mg base 6 f fd ["value"] (sp_is_joined_value_2 K) := by
  refine fnN (xs := (fun a : PyData => [(vD eA) a])) (f := (fun a : PyData => is_joined_value_2_w a)) (eR := (eV eB)) F sc_is_joined_value (fun _ => rfl) fun cdv A outer s H E hr hgd => ?_
  have hu := hr.units
  refine ⟨_, (pss_one (ps_ret (pe_and (pe_clg g_is_web_value_2 hgd hr (by decide) (by rfl) (pa_cons (pv 0) pa_nil)) (pe_one (pe_cmpR (op_eqP hu) (pe_callB call_lenG (by rfl) B.n_len (by decide +kernel) (pa_cons (pe_clg g_pieces_of hgd hr (by decide) (by rfl) (pa_cons (pe_ix ix_seq (pv 0) pe_int (fun _ _ => rfl)) (pa_cons (pe_ix ix_seq (pv 0) pe_int (fun _ _ => rfl)) pa_nil))) pa_nil)) pe_int (nomark _)))))), ?_⟩
  rintro y_value R
  show SxW K _ _ _ R (is_joined_value_2_w y_value)
  unfold is_joined_value_2_w
  refine sw_start [.im (.d (eA y_value))] rfl ?_
  exact (sw_ret (g := fun (y_r_6054 : Bool) => y_r_6054) (x_and (x_call1 (f := is_web_value_2_w) (x_var (e := eA) 0 rfl)) (x_op (x_cb1 (x_close (x_call2 (f := pieces_of_w) (x_cp (f := eA) (g := eI) cp_AI (x_op (x_var (e := eA) 0 rfl) x_int r_ixA)) (x_cp (f := eA) (g := (eT (eP2 eI eI))) (cp_AT (cp_AP (cp_TP2 cp_AI cp_AI))) (x_op (x_var (e := eA) 0 rfl) x_int r_ixA)))) c_lenL) x_int (r_eq ek_int dk_int (by decide)))) (fun a z hz hr => ⟨a, hz, hr⟩) (fun a z hz hr => ⟨a, hz, hr⟩))
set_option maxHeartbeats 0 in
theorem ok_is_joined {f : Addr} {fd : FuncData} (F : Fun K "is_joined" "is_joined" s_is_joined f fd) (B : Blt mg) (g_is_joined_value_2 : ClG P w K mg base 6 "is_joined_value" (sp_is_joined_value_2 K)) : FnG P w K mg base 7 f fd ["value"] (sp_is_joined K) := by
  refine fnN (xs := (fun a : PyData => [(vD eA) a])) (f := (fun a : PyData => is_joined_w a)) (eR := (eV eB)) F sc_is_joined (fun _ => rfl) fun cdv A outer s H E hr hgd => ?_
  have hu := hr.units
  refine ⟨_, (pss_one (ps_ret (pe_clg g_is_joined_value_2 hgd hr (by decide) (by rfl) (pa_cons (pv 0) pa_nil)))), ?_⟩
  rintro y_value R
  show SxW K _ _ _ R (is_joined_w y_value)
  unfold is_joined_w
  refine sw_start [.im (.d (eA y_value))] rfl ?_
  exact (sw_ret (g := fun (y_r_6056 : Bool) => y_r_6056) (x_call1 (f := is_joined_value_2_w) (x_var (e := eA) 0 rfl)) (fun a z hz hr => ⟨a, hz, hr⟩) (fun a z hz hr => ⟨a, hz, hr⟩))
set_option maxHeartbeats 0 in
theorem ok_is_firm_value_2 {f : Addr} {fd : FuncData} (F : Fun K "is_firm_value" "is_firm_value" s_is_firm_value f fd) (B : Blt mg) (g_is_joined_value_2 : ClG P w K mg base 6 "is_joined_value" (sp_is_joined_value_2 K)) (g_bridges_of : ClG P w K mg base 2 "bridges_of" (sp_bridges_of K)) : FnG P w K mg base 7 f fd ["value"] (sp_is_firm_value_2 K) := by
  refine fnN (xs := (fun a : PyData => [(vD eA) a])) (f := (fun a : PyData => is_firm_value_2_w a)) (eR := (eV eB)) F sc_is_firm_value (fun _ => rfl) fun cdv A outer s H E hr hgd => ?_
  have hu := hr.units
  refine ⟨_, (pss_one (ps_ret (pe_and (pe_clg g_is_joined_value_2 hgd hr (by decide) (by rfl) (pa_cons (pv 0) pa_nil)) (pe_one (pe_cmpR (op_eqP hu) (pe_clg g_bridges_of hgd hr (by decide) (by rfl) (pa_cons (pe_ix ix_seq (pv 0) pe_int (fun _ _ => rfl)) (pa_cons (pe_ix ix_seq (pv 0) pe_int (fun _ _ => rfl)) pa_nil))) (pe_lst pa_nil) (nomark _)))))), ?_⟩
  rintro y_value R
  show SxW K _ _ _ R (is_firm_value_2_w y_value)
  unfold is_firm_value_2_w
  refine sw_start [.im (.d (eA y_value))] rfl ?_
  exact (sw_ret (g := fun (y_r_6069 : Bool) => y_r_6069) (x_and (x_call1 (f := is_joined_value_2_w) (x_var (e := eA) 0 rfl)) (x_op (x_close (x_call2 (f := bridges_of_w) (x_cp (f := eA) (g := eI) cp_AI (x_op (x_var (e := eA) 0 rfl) x_int r_ixA)) (x_cp (f := eA) (g := (eT (eP2 eI eI))) (cp_AT (cp_AP (cp_TP2 cp_AI cp_AI))) (x_op (x_var (e := eA) 0 rfl) x_int r_ixA)))) (x_close (x_lst (f := (eP2 eI eI)) xn_nil)) (r_eq (ek_L (ek_P2 ek_int ek_int)) (dk_L (dk_P2 dk_int dk_int)) (by decide)))) (fun a z hz hr => ⟨a, hz, hr⟩) (fun a z hz hr => ⟨a, hz, hr⟩))
set_option maxHeartbeats 0 in
theorem ok_is_firm_2 {f : Addr} {fd : FuncData} (F : Fun K "is_firm" "is_firm" s_is_firm f fd) (B : Blt mg) (g_is_firm_value_2 : ClG P w K mg base 7 "is_firm_value" (sp_is_firm_value_2 K)) : FnG P w K mg base 8 f fd ["value"] (sp_is_firm_2 K) := by
  refine fnN (xs := (fun a : PyData => [(vD eA) a])) (f := (fun a : PyData => is_firm_2_w a)) (eR := (eV eB)) F sc_is_firm (fun _ => rfl) fun cdv A outer s H E hr hgd => ?_
  have hu := hr.units
  refine ⟨_, (pss_one (ps_ret (pe_clg g_is_firm_value_2 hgd hr (by decide) (by rfl) (pa_cons (pv 0) pa_nil)))), ?_⟩
  rintro y_value R
  show SxW K _ _ _ R (is_firm_2_w y_value)
  unfold is_firm_2_w
  refine sw_start [.im (.d (eA y_value))] rfl ?_
  exact (sw_ret (g := fun (y_r_6071 : Bool) => y_r_6071) (x_call1 (f := is_firm_value_2_w) (x_var (e := eA) 0 rfl)) (fun a z hz hr => ⟨a, hz, hr⟩) (fun a z hz hr => ⟨a, hz, hr⟩))
set_option maxHeartbeats 0 in
theorem ok__law_right {f : Addr} {fd : FuncData} (F : Fun K "_law_right" "_law_right" s__law_right f fd) (B : Blt mg) (g__law_web : ClG P w K mg base 3 "_law_web" (sp__law_web K)) (g__law_forest : ClG P w K mg base 3 "_law_forest" (sp__law_forest K)) (g__law_ring : ClG P w K mg base 3 "_law_ring" (sp__law_ring K)) (g__law_two : ClG P w K mg base 3 "_law_two" (sp__law_two K)) (g__law_is_bridge : ClG P w K mg base 2 "_law_is_bridge" (sp__law_is_bridge K)) (g_bridges : ClG P w K mg base 7 "bridges" (sp_bridges K)) (g_is_firm : ClG P w K mg base 8 "is_firm" (sp_is_firm K)) (g__law_pick_2 : ClG P w K mg base 2 "_law_pick" (sp__law_pick_2 K)) (g__law_bent : ClG P w K mg base 3 "_law_bent" (sp__law_bent K)) (g__law_is_joined : ClG P w K mg base 3 "_law_is_joined" (sp__law_is_joined K)) (g__law_is_firm : ClG P w K mg base 4 "_law_is_firm" (sp__law_is_firm K)) (g_is_joined : ClG P w K mg base 7 "is_joined" (sp_is_joined K)) (g_is_firm_2 : ClG P w K mg base 8 "is_firm" (sp_is_firm_2 K)) (q_bridges_web_0 : ClK P w K mg base 7 "bridges" 0 ["web"] [0] (sp_bridges K)) (q_is_joined_value_0 : ClK P w K mg base 7 "is_joined" 0 ["value"] [0] (sp_is_joined K)) (q_is_firm_2_value_0 : ClK P w K mg base 8 "is_firm" 0 ["value"] [0] (sp_is_firm_2 K)) : FnG P w K mg base 9 f fd ["pot"] (sp__law_right K) := by
  refine fnN (xs := (fun a : Unit => [vP a])) (f := (fun a : Unit => _law_right_w a)) (eR := (eV eB)) F sc__law_right (fun _ => rfl) fun cdv A outer s H E hr hgd => ?_
  have hu := hr.units
  refine ⟨_, (pss_cons (ps_set (i := 1) sc__law_right.nd rfl (.inl rfl) (pe_lst (pa_cons (pe_clg g__law_web hgd hr (by decide) (by rfl) (pa_cons (pv 0) (pa_cons pe_int pa_nil))) (pa_cons (pe_clg g__law_forest hgd hr (by decide) (by rfl) (pa_cons (pv 0) (pa_cons pe_int pa_nil))) (pa_cons (pe_clg g__law_ring hgd hr (by decide) (by rfl) (pa_cons (pv 0) pa_nil)) (pa_cons (pe_clg g__law_two hgd hr (by decide) (by rfl) (pa_cons (pv 0) pa_nil)) pa_nil))))))
      (pss_cons (ps_for PassesOwn.never rfl (pi_seq (pv 1)) (pg_name (i := 2) sc__law_right.nd rfl (.inr rfl))
      (pss_cons (ps_par (i := 6) (j := 7) rfl sc__law_right.nd rfl rfl (by decide) rfl rfl (pa_cons (pe_callB (call_reprG hgd hu) (by rfl) B.n_repr (by decide +kernel) (pa_cons (pv 2) pa_nil)) (pa_cons (pe_callTy call_tupG (by rfl) B.n_tuple (by decide +kernel) (pa_cons (pe_lc (own := [("pair", 9)]) (g := (gName 9)) (tt := (tB (tCall (sp__law_is_bridge K) [] E0 (tCons (tVar 2) (tCons (tVar 9) tNil))))) (te := (tVar 9)) (by rfl) sc__law_right.nd (pi_seq (pe_ix ix_seq (pv 2) pe_int (fun _ _ => rfl))) (blkOk_by (own := [("pair", 9)]) (by first | decide +kernel | rfl)) (fun _ _ _ _ _ => (pg_name (i := 9) sc__law_right.nd rfl (by first | exact Or.inl rfl | exact Or.inr rfl))) (fun _ _ _ _ _ => (pts_one (pt_val (pe_clg g__law_is_bridge hgd hr (by decide) (by rfl) (pa_cons (pv 2) (pa_cons (pv 9) pa_nil)))))) (fun _ _ _ _ _ => (pv 9))) pa_nil)) pa_nil)) (by rfl))
      (pss_one (ps_if (PW.pt (pw_or (pt_cmpR (op_neP hu) (pe_callB (call_reprG hgd hu) (by rfl) B.n_repr (by decide +kernel) (pa_cons (pe_lst (pa_cons (pe_clg g_bridges hgd hr (by decide) (by rfl) (pa_cons (pv 2) pa_nil)) (pa_cons (pe_clk0 q_bridges_web_0 hgd hr (by decide) (by rfl) (pk_cons (pv 2) pk_nil)) pa_nil))) pa_nil)) (pe_callB (call_reprG hgd hu) (by rfl) B.n_repr (by decide +kernel) (pa_cons (pe_lst (pa_cons (pv 7) (pa_cons (pv 7) pa_nil))) pa_nil)) (nomark _)) (pw_or1 (pt_cmpR (op_neP hu) (pe_callB (call_reprG hgd hu) (by rfl) B.n_repr (by decide +kernel) (pa_cons (pv 2) pa_nil)) (pv 6) (nomark _)))))
      (pss_one (ps_ret pe_bl))
      pss_nil))))
      (pss_cons (ps_if (PW.pt (pw_or (pt_cmpR (op_neP hu) (pe_clg g_bridges hgd hr (by decide) (by rfl) (pa_cons (pe_ix ix_seq (pv 1) pe_int (fun _ _ => rfl)) pa_nil)) (pe_ix ix_seq (pe_ix ix_seq (pv 1) pe_int (fun _ _ => rfl)) pe_int (fun _ _ => rfl)) (nomark _)) (pw_or1 (pt_cmpR op_isNotG (pe_clg g_is_firm hgd hr (by decide) (by rfl) (pa_cons (pe_ix ix_seq (pv 1) pe_int (fun _ _ => rfl)) pa_nil)) pe_bl (nomark _)))))
      (pss_one (ps_ret pe_bl))
      pss_nil)
      (pss_cons (ps_set (i := 3) sc__law_right.nd rfl (.inl rfl) (pe_op op_addG (pv 1) (pe_lst (pa_cons pe_non (pa_cons pe_int (pa_cons (pe_tup pa_nil) (pa_cons pe_str (pa_cons (pe_tup (pa_cons pe_str (pa_cons pe_int (pa_cons (pe_tup pa_nil) pa_nil)))) (pa_cons (pe_tup (pa_cons pe_str (pa_cons pe_int (pa_cons (pe_tup pa_nil) pa_nil)))) (pa_cons (pe_tup (pa_cons pe_str (pa_cons pe_int (pa_cons (pe_tup (pa_cons (pe_tup (pa_cons pe_int (pa_cons pe_int pa_nil))) pa_nil)) pa_nil)))) pa_nil))))))))))
      (pss_cons (ps_for PassesOwn.never rfl (pi_range1 (by rfl) B.n_range (pa_cons pe_int pa_nil)) (pg_name (i := 4) sc__law_right.nd rfl (.inl rfl))
      (pss_one (ps_expr (pe_bm PySem.F.plainAttrs_list PySem.F.slot_list_append PySem.F.type_list_append mt_append (pv 3) (pa_cons (pe_clg g__law_bent hgd hr (by decide) (by rfl) (pa_cons (pv 0) (pa_cons (pe_clg g__law_pick_2 hgd hr (by decide) (by rfl) (pa_cons (pv 0) (pa_cons (pv 1) pa_nil))) pa_nil))) pa_nil)))))
      (pss_cons (ps_for PassesOwn.never rfl (pi_seq (pv 3)) (pg_name (i := 5) sc__law_right.nd rfl (.inl rfl))
      (pss_cons (ps_par (i := 7) (j := 8) rfl sc__law_right.nd rfl rfl (by decide) rfl rfl (pa_cons (pe_lst (pa_cons (pe_clg g__law_is_joined hgd hr (by decide) (by rfl) (pa_cons (pv 5) pa_nil)) (pa_cons (pe_clg g__law_is_firm hgd hr (by decide) (by rfl) (pa_cons (pv 5) pa_nil)) pa_nil))) (pa_cons (pe_callB (call_reprG hgd hu) (by rfl) B.n_repr (by decide +kernel) (pa_cons (pv 5) pa_nil)) pa_nil)) (by rfl))
      (pss_one (ps_if (PW.pt (pw_or (pt_cmpR (op_neP hu) (pe_callB (call_reprG hgd hu) (by rfl) B.n_repr (by decide +kernel) (pa_cons (pe_lst (pa_cons (pe_clg g_is_joined hgd hr (by decide) (by rfl) (pa_cons (pv 5) pa_nil)) (pa_cons (pe_clg g_is_firm_2 hgd hr (by decide) (by rfl) (pa_cons (pv 5) pa_nil)) (pa_cons (pe_clk0 q_is_joined_value_0 hgd hr (by decide) (by rfl) (pk_cons (pv 5) pk_nil)) (pa_cons (pe_clk0 q_is_firm_2_value_0 hgd hr (by decide) (by rfl) (pk_cons (pv 5) pk_nil)) pa_nil))))) pa_nil)) (pe_callB (call_reprG hgd hu) (by rfl) B.n_repr (by decide +kernel) (pa_cons (pe_op op_addG (pv 7) (pv 7)) pa_nil)) (nomark _)) (pw_or1 (pt_cmpR (op_neP hu) (pe_callB (call_reprG hgd hu) (by rfl) B.n_repr (by decide +kernel) (pa_cons (pv 5) pa_nil)) (pv 8) (nomark _)))))
      (pss_one (ps_ret pe_bl))
      pss_nil))))
      (pss_one (ps_ret pe_bl)))))))), ?_⟩
  rintro y_pot R
  show SxW K _ _ _ R (_law_right_w y_pot)
  unfold _law_right_w
  refine sw_start [.im .pot, .no, .no, .no, .no, .no, .no, .no, .no, .no] rfl ?_
  refine (sw_set 1 (fun (y_made_6086 : (List (Unit × Int × (List (Int × Int))))) => [.im .pot, .im (.d ((eL (eP3 (eW "web") eI (eT (eP2 eI eI)))) y_made_6086)), .no, .no, .no, .no, .no, .no, .no, .no]) (x_close (x_lst (f := (eP3 (eW "web") eI (eT (eP2 eI eI)))) (xn_cons (x_call2 (f := _law_web_w) (x_pot 0 rfl) x_int) (xn_cons (x_call2 (f := _law_forest_w) (x_pot 0 rfl) x_int) (xn_cons (x_call1 (f := _law_ring_w) (x_pot 0 rfl)) (xn_cons (x_call1 (f := _law_two_w) (x_pot 0 rfl)) xn_nil)))))) stV (fun _ => rfl) fun y_made_6086 => ?_)
  refine (sw_forF (js := [2]) (eI' := (eP3 (eW "web") eI (eT (eP2 eI eI)))) (s0 := ()) (r := (fun (r : Bool) => r)) (fun (y_s_6120 : Unit) => [.im .pot, .im (.d ((eL (eP3 (eW "web") eI (eT (eP2 eI eI)))) y_made_6086)), .no, .no, .no, .no, .no, .no, .no, .no]) (fun (y_i_6087 : (Unit × Int × (List (Int × Int)))) (y_s_6120 : Unit) => [.im .pot, .im (.d ((eL (eP3 (eW "web") eI (eT (eP2 eI eI)))) y_made_6086)), .im (.d ((eP3 (eW "web") eI (eT (eP2 eI eI))) y_i_6087)), .no, .no, .no, .no, .no, .no, .no]) (xi_L (x_var (e := (eL (eP3 (eW "web") eI (eT (eP2 eI eI))))) 1 rfl)) (less_same (less_same (less_no (less_no (less_no (less_no (less_no (less_no (less_no (less_no less_nil)))))))))) (fun y_i_6087 y_s_6120 => (tg_name trivial)) (fun y_i_6087 y_s_6120 _ y_h_6121 => (sw_par 6 7 (fun (y_s_6129 : (Str × (List (Int × Int)))) => [.im .pot, .im (.d ((eL (eP3 (eW "web") eI (eT (eP2 eI eI)))) y_made_6086)), .im (.d ((eP3 (eW "web") eI (eT (eP2 eI eI))) y_i_6087)), .no, .no, .no, .im (.d (eS y_s_6129.1)), .im (.d ((eT (eP2 eI eI)) y_s_6129.2)), .no, .no]) (xm_2 stV stV (x_cb1 (x_var (e := (eP3 (eW "web") eI (eT (eP2 eI eI)))) 2 rfl) c_repr) (x_cb1 (x_close (x_lc (js := [9]) (eI' := (eP2 eI eI)) (f := (eP2 eI eI)) (es2 := fun (y_i_6124 : (Int × Int)) => [.im .pot, .im (.d ((eL (eP3 (eW "web") eI (eT (eP2 eI eI)))) y_made_6086)), .im (.d ((eP3 (eW "web") eI (eT (eP2 eI eI))) y_i_6087)), .no, .no, .no, .no, .no, .no, .im (.d ((eP2 eI eI) y_i_6124))]) (xi_T (x_proj (e := (eP3 (eW "web") eI (eT (eP2 eI eI)))) (f := (eT (eP2 eI eI))) (2) (fun (y_a_6123 : (Unit × Int × (List (Int × Int)))) => y_a_6123.2.2) (fun _ => ⟨_, rfl, rfl⟩) (x_var (e := (eP3 (eW "web") eI (eT (eP2 eI eI)))) 2 rfl))) (by decide) (fun y_i_6124 => (tg_name trivial)) (fun y_i_6124 => (t_B (x_call2 (f := _law_is_bridge_w) (x_var (e := (eP3 (eW "web") eI (eT (eP2 eI eI)))) 2 rfl) (x_var (e := (eP2 eI eI)) 9 rfl)))) (fun y_i_6124 => (x_var (e := (eP2 eI eI)) 9 rfl)))) c_tupL)) (fun _ => rfl) (fun _ => rfl) fun y_s_6129 => (sw_if (t_or (t_test (x_op (x_cb1 (x_close (x_lst (f := (eT (eP2 eI eI))) (xn_cons (x_call1 (f := bridges_w) (x_var (e := (eP3 (eW "web") eI (eT (eP2 eI eI)))) 2 rfl)) (xn_cons (x_kcallN (fun (y_p_6132 : Unit) (y_k_6133 : (Unit × Int × (List (Int × Int)))) => y_k_6133) xa_nil (xa_1 (x_var (e := (eP3 (eW "web") eI (eT (eP2 eI eI)))) 2 rfl)) (fun _ => rfl) (fun _ => rfl) (fun _ _ => rfl) (fun _ _ => rfl)) xn_nil)))) c_repr) (x_cb1 (x_close (x_lst (f := (eT (eP2 eI eI))) (xn_cons (x_var (e := (eT (eP2 eI eI))) 7 rfl) (xn_cons (x_var (e := (eT (eP2 eI eI))) 7 rfl) xn_nil)))) c_repr) (r_ne ek_str dk_str (by decide)))) (t_test (x_op (x_cb1 (x_var (e := (eP3 (eW "web") eI (eT (eP2 eI eI)))) 2 rfl) c_repr) (x_var (e := eS) 6 rfl) (r_ne ek_str dk_str (by decide))))) (sw_ret (g := fun (y_r_6151 : Bool) => (W.Fl.rt y_r_6151)) x_bl (fun a z hz hr => ⟨a, hz, (y_h_6121 a hr)⟩) (fun a z hz hr => ⟨a, hz, (y_h_6121 a hr)⟩)) (sw_end fun h => ⟨(), (less_same (less_same (less_no (less_no (less_no (less_no (less_no (less_no (less_no (less_no less_nil)))))))))), h⟩)))) fun y_s_6154 => ?_)
  refine (sw_ifRet (t_or (t_test (x_op (x_call1 (f := bridges_w) (x_op (x_var (e := (eL (eP3 (eW "web") eI (eT (eP2 eI eI))))) 1 rfl) x_int r_ixL)) (x_proj (e := (eP3 (eW "web") eI (eT (eP2 eI eI)))) (f := (eT (eP2 eI eI))) (2) (fun (y_a_6160 : (Unit × Int × (List (Int × Int)))) => y_a_6160.2.2) (fun _ => ⟨_, rfl, rfl⟩) (x_op (x_var (e := (eL (eP3 (eW "web") eI (eT (eP2 eI eI))))) 1 rfl) x_int r_ixL)) (r_ne (ek_T (ek_P2 ek_int ek_int)) (dk_T (dk_P2 dk_int dk_int)) (by decide)))) (t_test (x_op (x_call1 (f := is_firm_w) (x_op (x_var (e := (eL (eP3 (eW "web") eI (eT (eP2 eI eI))))) 1 rfl) x_int r_ixL)) x_bl r_notB))) (sw_ret (g := fun (y_r_6170 : Bool) => y_r_6170) x_bl (fun a z hz hr => ⟨a, hz, hr⟩) (fun a z hz hr => ⟨a, hz, hr⟩)) ?_)
  refine (sw_set 3 (fun (y_values_6207 : (List PyData)) => [.im .pot, .im (.d ((eL (eP3 (eW "web") eI (eT (eP2 eI eI)))) y_made_6086)), .no, .mu (List.map eA y_values_6207), .no, .no, .no, .no, .no, .no]) (x_op (x_cv (f := (eL (eP3 (eW "web") eI (eT (eP2 eI eI))))) (g := (eL eA)) (cv_L cv_any) (x_var (e := (eL (eP3 (eW "web") eI (eT (eP2 eI eI))))) 1 rfl)) (x_close (x_lst (f := eA) (xn_cons (x_cv (f := eU) (g := eA) cv_any x_non) (xn_cons (x_cv (f := eI) (g := eA) cv_any x_int) (xn_cons (x_cv (f := (eT eI)) (g := eA) cv_any (x_tupN (f := eI) xn_nil)) (xn_cons (x_cv (f := (eW "web")) (g := eA) cv_any x_str) (xn_cons (x_cv (f := (eP3 (eW "web") eI (eT eI))) (g := eA) cv_any (x_tup3 x_str x_int (x_tupN (f := eI) xn_nil))) (xn_cons (x_cv (f := (eP3 (eW "web") eI (eT eI))) (g := eA) cv_any (x_tup3 x_str x_int (x_tupN (f := eI) xn_nil))) (xn_cons (x_cv (f := (eP3 (eW "web") eI (eP1 (eP2 eI eI)))) (g := eA) cv_any (x_tup3 x_str x_int (x_tup1 (x_tup2 x_int x_int)))) xn_nil))))))))) r_catL) stL (fun _ => rfl) fun y_values_6207 => ?_)
  refine (sw_forS (js := [4]) (eI' := eI) (s0 := y_values_6207) (fun (y_s_6216 : (List PyData)) => [.im .pot, .im (.d ((eL (eP3 (eW "web") eI (eT (eP2 eI eI)))) y_made_6086)), .no, .mu (List.map eA y_s_6216), .no, .no, .no, .no, .no, .no]) (fun (y_i_6209 : Int) (y_s_6216 : (List PyData)) => [.im .pot, .im (.d ((eL (eP3 (eW "web") eI (eT (eP2 eI eI)))) y_made_6086)), .no, .mu (List.map eA y_s_6216), .im (.d (eI y_i_6209)), .no, .no, .no, .no, .no]) (xi_range1 x_int) (less_same (less_same (less_no (less_same (less_no (less_no (less_no (less_no (less_no (less_no less_nil)))))))))) (fun y_i_6209 y_s_6216 => (tg_name trivial)) (fun y_i_6209 y_s_6216 _ => (sw_last (sw_app (f := eA) 3 (fun (y_values_6222 : (List PyData)) => [.im .pot, .im (.d ((eL (eP3 (eW "web") eI (eT (eP2 eI eI)))) y_made_6086)), .no, .mu (List.map eA y_values_6222), .im (.d (eI y_i_6209)), .no, .no, .no, .no, .no]) rfl (x_call2 (f := _law_bent_w) (x_pot 0 rfl) (x_call2 (f := _law_pick_2_w) (x_pot 0 rfl) (x_var (e := (eL (eP3 (eW "web") eI (eT (eP2 eI eI))))) 1 rfl))) (fun _ => rfl) fun y_values_6222 => (sw_end fun h => ⟨y_values_6222, (less_same (less_same (less_no (less_same (less_no (less_no (less_no (less_no (less_no (less_no less_nil)))))))))), h⟩)))) fun y_s_6224 => ?_)
  refine (sw_shut 3 [.im .pot, .im (.d ((eL (eP3 (eW "web") eI (eT (eP2 eI eI)))) y_made_6086)), .no, .im (.d ((eL eA) y_s_6224)), .no, .no, .no, .no, .no, .no] rfl rfl ?_)
  refine (sw_forF (js := [5]) (eI' := eA) (s0 := ()) (r := (fun (r : Bool) => r)) (fun (y_s_6264 : Unit) => [.im .pot, .im (.d ((eL (eP3 (eW "web") eI (eT (eP2 eI eI)))) y_made_6086)), .no, .im (.d ((eL eA) y_s_6224)), .no, .no, .no, .no, .no, .no]) (fun (y_i_6225 : PyData) (y_s_6264 : Unit) => [.im .pot, .im (.d ((eL (eP3 (eW "web") eI (eT (eP2 eI eI)))) y_made_6086)), .no, .im (.d ((eL eA) y_s_6224)), .no, .im (.d (eA y_i_6225)), .no, .no, .no, .no]) (xi_L (x_var (e := (eL eA)) 3 rfl)) (less_same (less_same (less_no (less_same (less_no (less_no (less_no (less_no (less_no (less_no less_nil)))))))))) (fun y_i_6225 y_s_6264 => (tg_name trivial)) (fun y_i_6225 y_s_6264 _ y_h_6265 => (sw_par 7 8 (fun (y_s_6273 : ((List Bool) × Str)) => [.im .pot, .im (.d ((eL (eP3 (eW "web") eI (eT (eP2 eI eI)))) y_made_6086)), .no, .im (.d ((eL eA) y_s_6224)), .no, .im (.d (eA y_i_6225)), .no, .im (.d ((eL eB) y_s_6273.1)), .im (.d (eS y_s_6273.2)), .no]) (xm_2 stV stV (x_close (x_lst (f := eB) (xn_cons (x_call1 (f := _law_is_joined_w) (x_var (e := eA) 5 rfl)) (xn_cons (x_call1 (f := _law_is_firm_w) (x_var (e := eA) 5 rfl)) xn_nil)))) (x_cb1 (x_var (e := eA) 5 rfl) c_repr)) (fun _ => rfl) (fun _ => rfl) fun y_s_6273 => (sw_if (t_or (t_test (x_op (x_cb1 (x_close (x_lst (f := eB) (xn_cons (x_call1 (f := is_joined_w) (x_var (e := eA) 5 rfl)) (xn_cons (x_call1 (f := is_firm_2_w) (x_var (e := eA) 5 rfl)) (xn_cons (x_kcallN (fun (y_p_6277 : Unit) (y_k_6278 : PyData) => y_k_6278) xa_nil (xa_1 (x_var (e := eA) 5 rfl)) (fun _ => rfl) (fun _ => rfl) (fun _ _ => rfl) (fun _ _ => rfl)) (xn_cons (x_kcallN (fun (y_p_6280 : Unit) (y_k_6281 : PyData) => y_k_6281) xa_nil (xa_1 (x_var (e := eA) 5 rfl)) (fun _ => rfl) (fun _ => rfl) (fun _ _ => rfl) (fun _ _ => rfl)) xn_nil)))))) c_repr) (x_cb1 (x_close (x_op (x_var (e := (eL eB)) 7 rfl) (x_var (e := (eL eB)) 7 rfl) r_catL)) c_repr) (r_ne ek_str dk_str (by decide)))) (t_test (x_op (x_cb1 (x_var (e := eA) 5 rfl) c_repr) (x_var (e := eS) 8 rfl) (r_ne ek_str dk_str (by decide))))) (sw_ret (g := fun (y_r_6301 : Bool) => (W.Fl.rt y_r_6301)) x_bl (fun a z hz hr => ⟨a, hz, (y_h_6265 a hr)⟩) (fun a z hz hr => ⟨a, hz, (y_h_6265 a hr)⟩)) (sw_end fun h => ⟨(), (less_same (less_same (less_no (less_same (less_no (less_no (less_no (less_no (less_no (less_no less_nil)))))))))), h⟩)))) fun y_s_6304 => ?_)
  exact (sw_ret (g := fun (y_r_6305 : Bool) => y_r_6305) x_bl (fun a z hz hr => ⟨a, hz, hr⟩) (fun a z hz hr => ⟨a, hz, hr⟩))
set_option maxHeartbeats 0 in
theorem ok_law {f : Addr} {fd : FuncData} (F : Fun K "law" "law" s_law f fd) (B : Blt mg) (g__law_pot : ClG P w K mg base 1 "_law_pot" (sp__law_pot K)) (g__law_right : ClG P w K mg base 9 "_law_right" (sp__law_right K)) : FnG P w K mg base 10 f fd ["script"] (sp_law K) := by
  refine fnN (xs := (fun a : (List Int) => [(vD (eL eI)) a])) (f := (fun a : (List Int) => law_w a)) (eR := (eV eB)) F sc_law (fun _ => rfl) fun cdv A outer s H E hr hgd => ?_
  have hu := hr.units
  refine ⟨_, (pss_one (ps_ret (pe_callB (cr_all rfl) (by rfl) B.n_all (by decide +kernel) (pa_cons (pe_lc (own := [("k", 1)]) (g := (gName 1)) (tt := tYes) (te := (tCall (sp__law_right K) [] E0 (tCons (tCall (sp__law_pot K) [] E0 (tCons (tVar 0) (tCons (tVar 1) tNil))) tNil))) (by rfl) sc_law.nd (pi_range1 (by rfl) B.n_range (pa_cons (pe_callB (call_maxG rfl hu) (by rfl) B.n_max (by decide +kernel) (pa_cons pe_int (pa_cons (pe_callB (call_minG rfl hu) (by rfl) B.n_min (by decide +kernel) (pa_cons pe_int (pa_cons (pe_callB call_lenG (by rfl) B.n_len (by decide +kernel) (pa_cons (pv 0) pa_nil)) pa_nil))) pa_nil))) pa_nil)) (blkOk_by (own := [("k", 1)]) (by first | decide +kernel | rfl)) (fun _ _ _ _ _ => (pg_name (i := 1) sc_law.nd rfl (by first | exact Or.inl rfl | exact Or.inr rfl))) (fun _ _ _ _ _ => pts_nil) (fun _ _ _ _ _ => (pe_clg g__law_right hgd hr (by decide) (by rfl) (pa_cons (pe_clg g__law_pot hgd hr (by decide) (by rfl) (pa_cons (pv 0) (pa_cons (pv 1) pa_nil))) pa_nil)))) pa_nil)))), ?_⟩
  rintro y_script R
  show SxW K _ _ _ R (law_w y_script)
  unfold law_w
  refine sw_start [.im (.d ((eL eI) y_script)), .no] rfl ?_
  exact (sw_ret (g := fun (y_r_6321 : Bool) => y_r_6321) (x_cb1 (x_close (x_lc (js := [1]) (eI' := eI) (f := eB) (es2 := fun (y_i_6315 : Int) => [.im (.d ((eL eI) y_script)), .im (.d (eI y_i_6315))]) (xi_range1 (x_cb2 x_int (x_cb2 x_int (x_cb1 (x_var (e := (eL eI)) 0 rfl) c_lenL) c_min2) c_max2)) (by decide) (fun y_i_6315 => (tg_name trivial)) (fun y_i_6315 => t_yes) (fun y_i_6315 => (x_call1 (f := _law_right_w) (x_call2 (f := _law_pot_p) (x_var (e := (eL eI)) 0 rfl) (x_var (e := eI) 1 rfl)))))) c_all) (fun a z hz hr => ⟨a, hz, hr⟩) (fun a z hz hr => ⟨a, hz, hr⟩))
end
end K93
end
section
namespace K93
open PySem PySem.Spec PyProof.Rows L2 RZ HM
/-! stage 1: looks, webs, counts, pieces -/
theorem is_within_eq (v l m : Int) : is_within_w v l m = W.pure (decide (l ≤ v) && decide (v ≤ m)) := by
  simp only [is_within_w, is_integer_w, W.pure_bind, W.bind_assoc, W.ite_t, W.ite_f]
  by_cases h : l ≤ v <;> simp [h]
theorem is_within_t {v l m : Int} (h1 : l ≤ v) (h2 : v ≤ m) : is_within_w v l m = W.pure true := by
  rw [is_within_eq]
  simp [h1, h2]
theorem is_pair_of_t {n : Int} {p : Pr} (h : PairOk n p) : is_pair_of_w n p = W.pure true := by
  obtain ⟨h0, h1, h2⟩ := h
  have e : W.compC [p.1, p.2] (fun _ => W.pure true) (fun x => is_within_w x 0 (n - 1)) = W.pure ([p.1, p.2].map fun _ => true) := W.compC_map (fun _ => true) (by simp) fun x hx => by
    rcases List.mem_cons.mp hx with rfl | hx
    · exact is_within_t h0 (by omega)
    · rw [List.mem_singleton.mp hx]; exact is_within_t (by omega) (by omega)
  simp only [is_pair_of_w, is_tuple_w, is_tuple_2_w, is_tuple_3_w, W.pure_bind, W.bind_assoc, W.ite_t, e]
  simp [h1]
theorem are_pairs_of_t {n : Int} {ps : List Pr} (h : Pairs n ps) (hl : ps.length ≤ 1000000) : are_pairs_of_w n ps = W.pure true := by
  have e : W.compC ps (fun _ => W.pure true) (fun p => is_pair_of_w n p) = W.pure (ps.map fun _ => true) := W.compC_map (fun _ => true) (by omega) fun p hp => is_pair_of_t (h.ok p hp)
  have e2 : W.compC (ps.zip (ps.drop 1)) (fun _ => W.pure true) (fun q => W.pure (W.ltP W.ltI W.ltI q.1 q.2)) = W.pure ((ps.zip (ps.drop 1)).map fun _ => true) := W.compC_map (fun _ => true) (by rw [List.length_zip]; omega) fun q hq => by
    rw [show W.ltP W.ltI W.ltI q.1 q.2 = true from W.zip_next h.lt q hq]
  simp only [are_pairs_of_w, W.pure_bind, W.bind_assoc, W.cut_1, e, e2, Bool.not_true, W.ite_f, W.all_map_id]
  simp
theorem is_web_value_t {w : WebT} (h : IsWeb w) : is_web_value_w w = W.pure true := by
  have hl := h.ps.len h.hi
  simp only [is_web_value_w, is_tuple_w, is_tuple_2_w, is_tuple_3_w, W.pure_bind, W.bind_assoc, is_within_t h.lo h.hi, are_pairs_of_t h.ps (by omega)]
  simp
theorem want_web_t {w : WebT} (h : IsWeb w) : want_web_w w = W.pure () := by
  simp only [want_web_w, W.pure_bind, W.bind_assoc, is_web_value_t h]
  simp
theorem all_pairs_run {n : Int} (hn : n ≤ 1000) (h0 : 0 ≤ n) {f : Int → List Pr → W (List Pr)} (hf : ∀ i s, 0 ≤ i → i < n → s.length ≤ i.toNat * 1000 → f i s = W.bind (W.bind (W.range2 (i + 1) n) fun l => W.compC l (fun _ => W.pure true) fun j => W.pure (i, j)) fun o => W.ext s o) :
    W.forS (W.rangeI 0 n) [] f = W.pure (allP n) := by
  have e : ∀ k : Nat, k ≤ n.toNat → ∀ xs ys : List Int, ys ++ xs = W.rangeI 0 n → ys.length = k → ∀ s, s = ys.flatMap (fun i => (W.rangeI (i + 1) n).map fun j => (i, j)) → W.forS xs s f = W.pure (s ++ xs.flatMap fun i => (W.rangeI (i + 1) n).map fun j => (i, j)) := by
    intro k hk xs
    induction xs generalizing k with
    | nil => intro ys _ _ s _; unfold W.forS; simp
    | cons x xs ih =>
      intro ys hy hl s hs
      have hx : x = (k : Int) := by
        have h1 : (ys ++ x :: xs)[k]? = some x := by rw [List.getElem?_append_right (by omega), hl]; simp
        rw [hy] at h1
        obtain ⟨h2, h3⟩ := List.getElem?_eq_some_iff.mp h1
        rw [W.rangeI_getElem] at h3
        omega
      have hkn : k < n.toNat := by
        have := congrArg List.length hy
        rw [List.length_append, List.length_cons, W.rangeI_length] at this
        omega
      have hsl : s.length ≤ k * 1000 := by
        rw [hs, ← hl]
        refine flatMap_len fun i hi => ?_
        have : i ∈ W.rangeI 0 n := by rw [← hy]; exact List.mem_append_left _ hi
        rw [List.length_map, W.rangeI_length]
        have := W.mem_rangeI.mp this
        omega
      have hk2 : k * 1000 ≤ 1000 * 1000 := Nat.mul_le_mul_right _ (by omega)
      unfold W.forS
      rw [hf x s (by omega) (by omega) (by rw [hx]; simpa using hsl), W.range2_eq (by omega) (by omega) (by omega) (by omega), W.pure_bind, W.compC_map (fun j => (x, j)) (by rw [W.rangeI_length]; omega) fun _ _ => rfl, W.pure_bind, W.ext, W.chk_pos ⟨by omega, by rw [List.length_map, W.rangeI_length]; omega⟩, W.pure_bind,
        ih (k + 1) (by omega) (ys ++ [x]) (by rw [List.append_assoc]; exact hy) (by rw [List.length_append, hl]; rfl) _ (by rw [hs, List.flatMap_append]; simp)]
      rw [List.flatMap_cons, List.append_assoc]
  have := e 0 (Nat.zero_le _) (W.rangeI 0 n) [] rfl rfl [] rfl
  rw [this]
  rfl
theorem law_all_pairs_eq {n : Int} (h0 : 0 ≤ n) (hn : n ≤ 1000) : _law_all_pairs_w n = W.pure (allP n) := by
  simp only [_law_all_pairs_w, W.pure_bind, W.bind_assoc, W.range1_eq (show -1000000 < n by omega) (show n < 1000000 by omega)]
  rw [all_pairs_run hn h0]
  · rfl
  · intros; rfl
theorem pcs_run {n : Int} {h : List Int} (h0 : 0 ≤ n) (hn : n ≤ 60) (hl : h.length = n.toNat) (hm : ∀ l ∈ W.setL h, True) :
    W.compC (W.setL h) (fun _ => W.pure true) (fun l => W.bind (W.compC (W.rangeI 0 n) (fun i => W.bind (W.at' h i) fun a => W.pure (decide (a = l))) fun i => W.pure i) fun t => W.pure t) = W.pure (pcs n h) := by
  have hs : (W.setL h).length ≤ 60 := by
    have : (W.setL h).length ≤ h.length := by
      unfold W.setL
      rw [W.sortL_len]
      have : ∀ xs : List Int, (W.nub xs).length ≤ xs.length := fun xs => by
        induction xs with
        | nil => exact Nat.le_refl _
        | cons x xs ih => unfold W.nub; split <;> simp <;> omega
      exact this h
    omega
  refine W.compC_map (fun l => (W.rangeI 0 n).filter fun i => decide (at0 h i = l)) (by omega) fun l _ => ?_
  rw [W.compC_pure (fun i => decide (at0 h i = l)) (fun i => i) (by rw [W.rangeI_length]; omega) (fun i hi => ?_) fun _ _ _ => rfl, W.pure_bind]
  · simp
  · have := W.mem_rangeI.mp hi
    rw [W.at_getD 0 (by omega) (by omega), W.pure_bind]
theorem pieces_of_eq {n : Int} {ps : List Pr} (h0 : 0 ≤ n) (hn : n ≤ 60) (h : ∀ p ∈ ps, PairOk n p) : pieces_of_w n ps = W.pure (pcs n (labels n ps)) := by
  have lab := labels_ok h
  have e : W.forS ps (W.rangeI 0 n) (fun (y : Pr) (s : List Int) => W.bind (W.bind (W.bind (W.at' s y.1) fun a => W.bind (W.at' s y.2) fun b => W.pure (min a b)) fun t => W.bind (W.bind (W.at' s y.1) fun a => W.bind (W.at' s y.2) fun b => W.pure (max a b)) fun u => W.pure (t, u)) fun z => W.bind (W.compC s (fun _ => W.pure true) fun x => W.ite (decide (x = z.2)) (W.pure z.1) (W.pure x)) fun r => W.pure r) = W.pure (labels n ps) := by
    refine W.forS_pure (fun y s => joinL s y) (fun s => s.length = n.toNat) (by rw [W.rangeI_length]; omega) fun p hp s hs => ?_
    obtain ⟨p0, p1, p2⟩ := h p hp
    refine ⟨?_, by unfold joinL; rw [List.length_map, hs]⟩
    simp only [W.at_getD 0 p0 (show p.1 < (s.length : Int) by omega), W.at_getD 0 (show 0 ≤ p.2 by omega) (show p.2 < (s.length : Int) by omega), W.pure_bind, W.bind_assoc]
    rw [W.compC_map (fun x => if x = max (at0 s p.1) (at0 s p.2) then min (at0 s p.1) (at0 s p.2) else x) (by omega) fun x _ => by by_cases q : x = max (at0 s p.1) (at0 s p.2) <;> simp [q]]
    rfl
  simp only [pieces_of_w, W.pure_bind, W.bind_assoc, W.range1_eq (show -1000000 < n by omega) (show n < 1000000 by omega)]
  simp only [W.pure_bind, W.bind_assoc] at e
  rw [e, W.pure_bind, W.chk_pos (by rw [lab.len]; omega), W.pure_bind]
  exact pcs_run h0 hn lab.len fun _ _ => trivial

/-! any data: looks -/
theorem is_integer_A (d : PyData) : is_integer_2_w d = W.pure (d.isInt && !d.isBool) := by
  cases d <;> simp [is_integer_2_w, PyData.isInt, PyData.isBool]
theorem is_within_A (lo hi : Int) (d : PyData) : is_within_2_w d lo hi = W.pure (isI lo hi d) := by
  cases d with
  | int i => by_cases h : lo ≤ i <;> simp [is_within_2_w, is_integer_A, PyData.isInt, PyData.isBool, isI, W.anyI, h]
  | _ => simp [is_within_2_w, is_integer_A, PyData.isInt, PyData.isBool, isI]
theorem is_tuple_A (k : Nat) (d : PyData) : is_tuple_3_w d (k : Int) = W.pure (match d with | .tuple xs => decide (xs.length = k) | _ => false) := by
  cases d with
  | tuple xs =>
    have e : ((xs.length : Int) = (k : Int)) = (xs.length = k) := propext ⟨fun h => by omega, fun h => by omega⟩
    simp [is_tuple_3_w, PyData.isTuple, W.seqA, e]
  | _ => simp [is_tuple_3_w, PyData.isTuple]
theorem is_pair_of_A {n : Int} {d : PyData} : is_pair_of_2_w (.int n) d = W.pure (isPr n d) := by
  unfold is_pair_of_2_w
  simp only [W.pure_bind, W.bind_assoc, show (2 : Int) = ((2 : Nat) : Int) from rfl, is_tuple_A]
  cases d with
  | tuple xs =>
    match xs with
    | [x, y] =>
      have e : W.compC [x, y] (fun _ => W.pure true) (fun z => W.bind (W.get (W.anyI (.int n))) fun m => is_within_2_w z 0 (m - 1)) = W.pure ([x, y].map (isI 0 (n - 1))) := W.compC_map _ (by simp) fun z _ => by simp [W.anyI, is_within_A]
      simp only [List.length_cons, List.length_nil, decide_true, W.ite_t, anyT_tup, W.get_some, W.pure_bind, e, W.all_map_id, List.all_cons, List.all_nil, Bool.and_true]
      cases h : (isI 0 (n - 1) x && isI 0 (n - 1) y) with
      | false => simp [h, isPr_two h]
      | true =>
        obtain ⟨a, b, rfl, rfl, h1, h2, h3, h4⟩ := isI_two h
        simp [h, seqA_tup, at2_0, at2_1, W.chk_of cmp_ints, PySem.W.dataLt_int, isPr, h1, h4]
    | [] => simp [isPr]
    | [_] => simp [isPr]
    | _ :: _ :: _ :: _ => simp [isPr]
  | _ => simp [isPr]
theorem are_pairs_of_A {n : Int} {m k : Nat} {dk lk : Bool} {b : Nat} {d : PyData} (h : Ni m dk lk k b d) (hm : m ≤ 1000000) : are_pairs_of_2_w (.int n) d = W.pure (isPrs n d) := by
  unfold are_pairs_of_2_w
  cases d with
  | tuple xs =>
    have hl := h.ofTup.1
    have e : W.compC xs (fun _ => W.pure true) (fun z => is_pair_of_2_w (.int n) z) = W.pure (xs.map (isPr n)) := W.compC_map _ (by omega) fun z _ => is_pair_of_A
    simp only [PyData.isTuple, Bool.not_true, W.ite_f, W.pure_bind, W.bind_assoc, anyT_tup, W.get_some, e, W.all_map_id, W.cut_1]
    cases q : xs.all (isPr n) with
    | false => simp [isPrs, q]
    | true =>
      obtain ⟨ps, rfl, hp⟩ := isPr_all q
      have e2 : W.compC ((ps.map (eP2 eI eI)).zip ((ps.map (eP2 eI eI)).drop 1)) (fun _ => W.pure true) (fun z => W.chk (CmpA z.1 z.2) (PySem.W.dataLt z.1 z.2)) = W.pure (((ps.map (eP2 eI eI)).zip ((ps.map (eP2 eI eI)).drop 1)).map fun z => PySem.W.dataLt z.1 z.2) := W.compC_map _ (by rw [List.length_zip]; omega) fun z hz => by
        rw [← List.map_drop, List.zip_map] at hz
        obtain ⟨w, hw, rfl⟩ := List.mem_map.mp hz
        exact W.chk_of cmp_prs
      simp only [Bool.not_true, W.ite_f, e2, W.pure_bind, W.all_map_id, isPrs, q, Bool.true_and, upA]
  | _ => simp [PyData.isTuple, isPrs]
theorem isWb_no {xs : List PyData} (h : xs.length ≠ 3) : isWb (.tuple xs) = false := by
  match xs with
  | [] => simp [isWb]
  | [_] => simp [isWb]
  | [_, _] => simp [isWb]
  | [_, _, _] => exact absurd rfl h
  | _ :: _ :: _ :: _ :: _ => simp [isWb]
theorem isWb_far {n : Int} {z : PyData} {s : Str} (q : (decide (1 ≤ n) && decide (n ≤ 10)) = false) : isWb (.tuple [.str s, .int n, z]) = false := by
  cases hh : isWb (.tuple [.str s, .int n, z]) with
  | false => rfl
  | true =>
    obtain ⟨w, e, hw⟩ := isWb_iff.mp hh
    simp only [PyData.tuple.injEq, List.cons.injEq, PyData.int.injEq] at e
    rw [e.2.1] at q
    simp [hw.lo, hw.hi] at q
theorem is_web_value_A {m k : Nat} {dk lk : Bool} {b : Nat} {d : PyData} (h : Ni m dk lk k b d) (hm : m ≤ 1000000) : is_web_value_2_w d = W.pure (isWb d) := by
  unfold is_web_value_2_w
  simp only [W.pure_bind, W.bind_assoc, show (3 : Int) = ((3 : Nat) : Int) from rfl, is_tuple_A]
  cases d with
  | tuple xs =>
    by_cases hl : xs.length = 3
    · match xs, hl with
      | [x, y, z], _ =>
        have hz := h.ofTup.2.2.mem (x := z) (by simp)
        simp only [List.length_cons, List.length_nil, decide_true, Bool.not_true, W.ite_f, seqA_tup, W.get_some, W.pure_bind, W.bind_assoc, at3_0, at3_1, at3_2]
        cases x with
        | str s =>
          have e : W.chk (Flat (.str s) ∧ Flat (eW "web" ())) (!PyData.eqv (.str s) (eW "web" ())) = W.pure (!decide (s = "web")) := by
            rw [W.chk_of ⟨flat_strZ _, flat_strZ _⟩, eqv_str]
          simp only [PyData.isStr, Bool.not_true, W.ite_f, e, W.pure_bind]
          by_cases hs : s = "web"
          · subst hs
            simp only [decide_true, Bool.not_true, W.ite_f, is_within_A, W.pure_bind]
            cases y with
            | int n =>
              simp only [isI, are_pairs_of_A hz hm]
              cases q : (decide (1 ≤ n) && decide (n ≤ 10)) with
              | false => rw [isWb_far q]; rfl
              | true =>
                simp only [Bool.and_eq_true, decide_eq_true_eq] at q
                simp [q.1, q.2, isWb]
            | _ => simp [isI, isWb]
          · cases y <;> simp [hs, isWb]
        | _ => simp [PyData.isStr, isWb]
    · simp [hl, isWb_no hl]
  | _ => simp [isWb]

end K93
end
section
namespace K93
open PySem PySem.Spec PyProof.Rows L2 RZ HM
/-! pot, draws, the law over the script -/
theorem law_pot_t {s : List Int} {k : Int} (h0 : 0 ≤ k) (h1 : k ≤ 1000) {R : Unit → Prop} (hR : R ()) : (_law_pot_p s k).wp R := by
  have e10 : CPow 10 18 := by unfold CPow; omega
  have cl : ∀ x y : Int, 0 ≤ y → y ≤ 100000 → CMul x y := fun x y a b => .inr ⟨by omega, by omega⟩
  have cr : ∀ x y : Int, 0 ≤ x → x ≤ 100000 → CMul x y := fun x y a b => .inl ⟨by omega, by omega⟩
  unfold _law_pot_p _law_pot_w
  by_cases h : k < (s.length : Int)
  · simp only [W.pure_bind, W.bind_assoc, h, decide_true, W.ite_t, W.at_getD 0 h0 h, W.wp_bind, W.wp_chk, W.wp_pure, W.pot]
    generalize (10 : Int) ^ Int.toNat 18 = t
    generalize ((s.getD k.toNat 0).natAbs : Int) = c
    repeat' apply And.intro
    all_goals first | exact hR | exact e10 | exact cl _ _ (by omega) (by omega) | exact cr _ _ (by omega) (by omega) | omega | exact ⟨_, _, rfl, by omega, by omega, by omega⟩
  · simp only [W.pure_bind, W.bind_assoc, h, decide_false, W.ite_f, W.wp_bind, W.wp_chk, W.wp_pure, W.pot]
    generalize (10 : Int) ^ Int.toNat 18 = t
    repeat' apply And.intro
    all_goals first | exact hR | exact e10 | exact cl _ _ (by omega) (by omega) | exact cr _ _ (by omega) (by omega) | omega | exact ⟨_, _, rfl, by omega, by omega, by omega⟩
theorem draw_t {n : Int} {P : Int → Prop} (h0 : 0 < n) (h1 : n ≤ 1000000) (h : ∀ d, 0 ≤ d → d < n → P d) : (_law_draw_w () n).wp P := W.draw_wp h0 h1 h
theorem law_pick_t {α : Type} {f : Unit → List α → W α} (hf : ∀ s, f () s = W.bind (_law_draw_w () (s.length : Int)) fun i => W.at' s i) {s : List α} {P : α → Prop} (h0 : s ≠ []) (h1 : s.length ≤ 1000000) (h : ∀ x ∈ s, P x) : (f () s).wp P := by
  rw [hf]
  have : 0 < s.length := List.length_pos_iff.mpr h0
  refine draw_t (by omega) (by omega) fun d d0 d1 => ?_
  show (W.at' s d).wp P
  rw [W.at_eq d0 d1]
  exact h _ (List.getElem_mem _)
theorem law_of {ns : List Int} (hR : (_law_right_w ()).wp (· = true)) : (law_w ns).wp (· = true) := by
  unfold law_w
  simp only [W.pure_bind, W.bind_assoc]
  rw [W.range1_eq (by omega) (by omega), W.pure_bind]
  refine W.bind_wp (Q := fun (bs : List Bool) => ∀ b ∈ bs, b = true) ?_ fun bs h => List.all_eq_true.mpr h
  refine W.imp (W.compC_allP (Q := (· = true)) (by rw [W.rangeI_length]; omega) fun k hk => ?_) fun bs h => h.2
  have := W.mem_rangeI.mp hk
  exact law_pot_t this.1 (by omega) hR

/-! pieces by a search -/
abbrev srStep (here : Int) (p : Pr) (s : List Int × List Int) : W (List Int × List Int) :=
  W.bind (W.ite (W.mem here [p.1, p.2]) (W.pure (!W.mem ([p.1, p.2].sum - here) s.1)) (W.pure false)) fun b =>
    W.ite b (W.bind (W.app s.1 ([p.1, p.2].sum - here)) fun lot => W.bind (W.app s.2 ([p.1, p.2].sum - here)) fun last => W.pure (lot, last)) (W.pure (s.1, s.2))
theorem sr_loop {n a here : Int} {ps : List Pr} (h0 : 0 ≤ n) (hn : n ≤ 60) (h : ∀ p ∈ ps, PairOk n p) {m : Nat} {lot last : List Int} (S : Srch n ps a lot last) (hh : here ∈ lot) (hm : 2 * (n.toNat - lot.length) + last.length ≤ m) (hmm : m < 8000000)
    (cl : ∀ x ∈ lot, x ∉ last → x ≠ here → ∀ y, Nbr ps x y → y ∈ lot) :
    (W.forS ps (lot, last) (srStep here)).wp fun s => Srch n ps a s.1 s.2 ∧ 2 * (n.toNat - s.1.length) + s.2.length ≤ m ∧ ∀ x ∈ s.1, x ∉ s.2 → ∀ y, Nbr ps x y → y ∈ s.1 := by
  let I : List Pr → List Pr → List Int × List Int → Prop := fun ys zs s => ys ++ zs = ps ∧ Srch n ps a s.1 s.2 ∧ here ∈ s.1 ∧ 2 * (n.toNat - s.1.length) + s.2.length ≤ m ∧ (∀ x ∈ s.1, x ∉ s.2 → x ≠ here → ∀ y, Nbr ps x y → y ∈ s.1) ∧ ∀ y, Nbr ys here y → y ∈ s.1
  have start : I [] ps (lot, last) := ⟨rfl, S, hh, hm, cl, fun y hy => hy.elim (fun z => nomatch z) fun z => nomatch z⟩
  refine W.imp (W.forS_wp I start fun ys p zs s hI => ?_) fun s hs => ?_
  · obtain ⟨e, S, hh, hm, cl, new⟩ := hI
    have hp : p ∈ ps := by rw [← e]; exact List.mem_append_right _ List.mem_cons_self
    have ok := h p hp
    have nx : (ys ++ [p]) ++ zs = ps := by rw [← e]; simp
    unfold srStep
    by_cases q : here = p.1 ∨ here = p.2
    · have mq : W.mem here [p.1, p.2] = true := by simp [q]
      have os : [p.1, p.2].sum - here = if here = p.1 then p.2 else p.1 := by
        simp only [List.sum_cons, List.sum_nil]
        split <;> omega
      have nb : Nbr ps here ([p.1, p.2].sum - here) := by
        rw [os]
        unfold PairOk at ok
        by_cases z : here = p.1
        · rw [if_pos z, z]; exact .inl hp
        · rw [if_neg z, show here = p.2 by omega]; exact .inr hp
      have onlyone : ∀ y, Nbr (ys ++ [p]) here y → Nbr ys here y ∨ y = [p.1, p.2].sum - here := fun y hy => by
        rw [os]
        unfold PairOk at ok
        rcases hy with hy | hy <;> rcases List.mem_append.mp hy with hy | hy
        · exact .inl (.inl hy)
        · have e := List.mem_singleton.mp hy
          right
          have e1 : here = p.1 := congrArg Prod.fst e
          have e2 : y = p.2 := congrArg Prod.snd e
          rw [if_pos e1, e2]
        · exact .inl (.inr hy)
        · have e := List.mem_singleton.mp hy
          right
          have e1 : y = p.1 := congrArg Prod.fst e
          have e2 : here = p.2 := congrArg Prod.snd e
          rw [if_neg (by omega), e1]
      have rng : 0 ≤ [p.1, p.2].sum - here ∧ [p.1, p.2].sum - here < n := by
        rw [os]
        unfold PairOk at ok
        split <;> omega
      rw [mq, W.ite_t]
      generalize [p.1, p.2].sum - here = o at *
      rw [W.pure_bind]
      by_cases z : o ∈ s.1
      · rw [show W.mem o s.1 = true by simp [z]]
        exact ⟨nx, S, hh, hm, cl, fun y hy => (onlyone y hy).elim (new y) fun e => by rw [e]; exact z⟩
      · rw [show W.mem o s.1 = false by simp [z]]
        have ln := S.len
        have nd : (s.1 ++ [o]).Nodup := List.nodup_append.mpr ⟨S.nd, by simp, fun x hx y hy => by rw [List.mem_singleton.mp hy]; intro e; rw [e] at hx; exact z hx⟩
        have S2 : Srch n ps a (s.1 ++ [o]) (s.2 ++ [o]) := ⟨nd, fun x hx => (List.mem_append.mp hx).elim (S.rng x) fun e => by rw [List.mem_singleton.mp e]; exact rng,
          fun x hx => (List.mem_append.mp hx).elim (S.cn x) fun e => by rw [List.mem_singleton.mp e]; exact .step (S.cn _ hh) nb, List.mem_append_left _ S.st,
          fun x hx => (List.mem_append.mp hx).elim (fun z => List.mem_append_left _ (S.sub x z)) fun z => List.mem_append_right _ z⟩
        have l2 := S2.len
        rw [List.length_append, List.length_singleton] at l2
        have small : s.2.length < 8000000 := by
          by_cases zz : s.2.length < 8000000
          · exact zz
          · exfalso
            have := hm
            have : m < 8000000 := hmm
            omega
        show (W.bind (W.app s.1 o) _).wp _
        unfold W.app
        rw [W.chk_of (show s.1.length < 8000000 by omega), W.pure_bind, W.chk_of small, W.pure_bind]
        refine ⟨nx, S2, List.mem_append_left _ hh, by simp only [List.length_append, List.length_singleton]; omega, fun x hx nl ne y hy => ?_, fun y hy => ?_⟩
        · rcases List.mem_append.mp hx with hx | hx
          · exact List.mem_append_left _ (cl x hx (fun z => nl (List.mem_append_left _ z)) ne y hy)
          · exact absurd (List.mem_append_right _ hx) nl
        · exact (onlyone y hy).elim (fun z => List.mem_append_left _ (new y z)) fun e => by rw [e]; exact List.mem_append_right _ (List.mem_singleton.mpr rfl)
    · have mq : W.mem here [p.1, p.2] = false := by simp [q]
      rw [mq, W.ite_f, W.pure_bind, W.ite_f]
      refine ⟨nx, S, hh, hm, cl, fun y hy => new y ?_⟩
      rcases hy with hy | hy <;> rcases List.mem_append.mp hy with hy | hy
      · exact .inl hy
      · exact absurd (.inl (congrArg Prod.fst (List.mem_singleton.mp hy))) q
      · exact .inr hy
      · exact absurd (.inr (congrArg Prod.snd (List.mem_singleton.mp hy))) q
  · obtain ⟨e, S, hh, hm, cl, new⟩ := hs
    refine ⟨S, hm, fun x hx nl y hy => ?_⟩
    by_cases z : x = here
    · subst z
      rw [List.append_nil, List.nil_append] at e
      exact new y (by rw [List.nil_append]; exact hy)
    · exact cl x hx nl z y hy
theorem last_split {xs : List Int} (h : xs ≠ []) : ∃ ys x, xs = ys ++ [x] ∧ xs.getLast? = some x ∧ xs.dropLast = ys := ⟨xs.dropLast, xs.getLast h, (List.dropLast_concat_getLast h).symm, List.getLast?_eq_some_getLast h, rfl⟩
theorem sr_while {n a : Int} {ps : List Pr} (h0 : 0 ≤ n) (hn : n ≤ 60) (h : ∀ p ∈ ps, PairOk n p) (a0 : 0 ≤ a) (a1 : a < n) :
    (W.whileS ([a], [a]) (fun s : List Int × List Int => W.pure !decide (s.2 = [])) fun s => W.bind (W.get s.2.getLast?) fun here => W.bind (W.forS ps (s.1, s.2.dropLast) (srStep here)) fun s => W.pure (s.1, s.2)).wp
      fun s => s.1.Nodup ∧ (∀ x ∈ s.1, 0 ≤ x ∧ x < n) ∧ ∀ x, x ∈ s.1 ↔ Conn ps a x := by
  let I : Nat → List Int × List Int → Prop := fun m s => Srch n ps a s.1 s.2 ∧ 2 * (n.toNat - s.1.length) + s.2.length ≤ m ∧ m < 1000 ∧ ∀ x ∈ s.1, x ∉ s.2 → ∀ y, Nbr ps x y → y ∈ s.1
  have start : I 200 ([a], [a]) := ⟨⟨by simp, fun x hx => by rw [List.mem_singleton.mp hx]; exact ⟨a0, a1⟩, fun x hx => by rw [List.mem_singleton.mp hx]; exact .refl _, List.mem_singleton.mpr rfl, fun x hx => hx⟩, by simp only [List.length_singleton]; omega, by omega, fun x hx nx => absurd hx nx⟩
  refine W.while_wp I (fun m s hI => ?_) start
  obtain ⟨S, hm, hmm, cl⟩ := hI
  by_cases e : s.2 = []
  · show if (!decide (s.2 = [])) = true then _ else _
    rw [decide_eq_true e, if_neg (by simp)]
    refine ⟨S.nd, S.rng, ?_⟩
    obtain ⟨lot, last⟩ := s
    dsimp only at e
    subst e
    exact srch_all S fun x hx => cl x hx (by simp)
  · show if (!decide (s.2 = [])) = true then _ else _
    rw [decide_eq_false e, if_pos (by simp)]
    obtain ⟨ys, x, e1, e2, e3⟩ := last_split e
    rw [e2, W.get_some, W.pure_bind, e3]
    have hx : x ∈ s.2 := by rw [e1]; exact List.mem_append_right _ (List.mem_singleton.mpr rfl)
    have l2 : s.2.length = ys.length + 1 := by rw [e1, List.length_append, List.length_singleton]
    refine W.bind_wp (sr_loop (m := m - 1) h0 hn h ⟨S.nd, S.rng, S.cn, S.st, fun z hz => S.sub z (by rw [e1]; exact List.mem_append_left _ hz)⟩ (S.sub x hx) (by omega) (by omega) fun z hz nz ne y hy => cl z hz (fun w => ?_) y hy) fun t ht => ?_
    · rw [e1] at w
      rcases List.mem_append.mp w with w | w
      · exact nz w
      · exact ne (List.mem_singleton.mp w)
    · exact ⟨m - 1, by omega, ht.1, ht.2.1, by omega, ht.2.2⟩
theorem sr_pieces {n : Int} {ps : List Pr} (h0 : 0 ≤ n) (hn : n ≤ 60) (h : ∀ p ∈ ps, PairOk n p) {P : List (List Int) → Prop} (hP : ∀ r : List (List Int), r.length = ncp n ps → P r) :
    (W.bind (W.range1 n) fun a => W.bind (W.whileS (a, ([] : List (List Int))) (fun s => W.pure !decide (s.1 = [])) fun s => W.bind (W.at' s.1 0) fun a => W.bind (W.at' s.1 0) fun b =>
      W.bind (W.whileS ([a], [b]) (fun s : List Int × List Int => W.pure !decide (s.2 = [])) fun s => W.bind (W.get s.2.getLast?) fun here => W.bind (W.forS ps (s.1, s.2.dropLast) (srStep here)) fun s => W.pure (s.1, s.2)) fun t =>
        W.bind (W.app s.2 (W.sortL t.1)) fun found => W.bind (W.compC s.1 (fun a => W.pure !W.mem a t.1) fun i => W.pure i) fun left => W.pure (left, found)) fun s => W.pure s.2).wp P := by
  have l := labels_ok h
  rw [W.range1_eq (by omega) (by omega), W.pure_bind]
  let I : Nat → List Int × List (List Int) → Prop := fun k s => s.1.length ≤ k ∧ ∃ ls : List Int, ls.Nodup ∧ (∀ x ∈ ls, x ∈ labels n ps) ∧ ls.length = s.2.length ∧ s.1 = (W.rangeI 0 n).filter fun i => !W.mem (at0 (labels n ps) i) ls
  have start : I (W.rangeI 0 n).length (W.rangeI 0 n, []) := ⟨Nat.le_refl _, [], List.nodup_nil, fun x hx => (nomatch hx), rfl, (List.filter_eq_self.mpr fun x _ => by simp).symm⟩
  refine W.bind_wp (Q := fun s : List Int × List (List Int) => s.2.length = ncp n ps) (W.while_wp I (fun m s hI => ?_) start) fun s hs => hP _ hs
  obtain ⟨hm, ls, nd, hls, hlen, hleft⟩ := hI
  show if (!decide (s.1 = [])) = true then _ else _
  by_cases e : s.1 = []
  · rw [decide_eq_true e, if_neg (by simp)]
    unfold ncp
    rw [← hlen]
    refine (setL_perm nd fun x => ⟨hls x, fun hx => ?_⟩).symm
    obtain ⟨i, i0, i1, rfl⟩ := (mem_labels l.len).mp hx
    rw [e] at hleft
    have := List.filter_eq_nil_iff.mp hleft.symm i (W.mem_rangeI.mpr ⟨i0, i1⟩)
    simpa using this
  · rw [decide_eq_false e, if_pos (by simp)]
    obtain ⟨x, xs, ex⟩ := List.exists_cons_of_ne_nil e
    have hx : x ∈ s.1 := by rw [ex]; exact List.mem_cons_self
    have ax : W.at' s.1 0 = W.pure x := by rw [ex, W.at_eq (by omega) (by simp only [List.length_cons]; omega)]; rfl
    have hx2 : x ∈ (W.rangeI 0 n).filter fun i => !W.mem (at0 (labels n ps) i) ls := by rw [← hleft]; exact hx
    obtain ⟨xr, xl⟩ := List.mem_filter.mp hx2
    have xr := W.mem_rangeI.mp xr
    have xl : at0 (labels n ps) x ∉ ls := by simpa using xl
    rw [ax, W.pure_bind, W.pure_bind]
    refine W.bind_wp (sr_while h0 hn h xr.1 xr.2) fun t ht => ?_
    obtain ⟨tn, tr, tc⟩ := ht
    have small : ls.length ≤ n.toNat := by
      refine len_range nd fun y hy => ?_
      obtain ⟨i, i0, i1, rfl⟩ := (mem_labels l.len).mp (hls y hy)
      have := l.lo i i0 i1
      have := l.le i i0 i1
      omega
    have sl : s.1.length ≤ 100 := by
      rw [hleft]
      refine Nat.le_trans (List.length_filter_le _ _) ?_
      rw [W.rangeI_length]
      omega
    unfold W.app
    rw [W.chk_of (show s.2.length < 8000000 by omega), W.pure_bind, W.compC_filter (fun a => !W.mem a t.1) (by omega) fun a _ => rfl, W.pure_bind]
    have le : (s.1.filter fun a => !W.mem a t.1).length < s.1.length := by
      rw [ex, List.filter_cons, if_neg (by have := (tc x).mpr (.refl _); simp [this])]
      have := List.length_filter_le (fun a => !W.mem a t.1) xs
      rw [List.length_cons]
      omega
    refine ⟨(s.1.filter fun a => !W.mem a t.1).length, by omega, Nat.le_refl _, ls ++ [at0 (labels n ps) x], ?_, fun y hy => ?_, ?_, ?_⟩
    · exact List.nodup_append.mpr ⟨nd, by simp, fun a ha b hb => by rw [List.mem_singleton.mp hb]; intro z; rw [z] at ha; exact xl ha⟩
    · rcases List.mem_append.mp hy with hy | hy
      · exact hls y hy
      · rw [List.mem_singleton.mp hy]
        exact (mem_labels l.len).mpr ⟨x, xr.1, xr.2, rfl⟩
    · rw [List.length_append, List.length_append, hlen]; rfl
    · show s.1.filter (fun a => !W.mem a t.1) = _
      rw [hleft, List.filter_filter]
      refine List.filter_congr fun i hi => ?_
      have ir := W.mem_rangeI.mp hi
      have : (i ∈ t.1) ↔ at0 (labels n ps) x = at0 (labels n ps) i := by rw [tc, conn_lab h xr.1 xr.2 ir.1 ir.2]
      rw [Bool.eq_iff_iff]
      simp only [Bool.and_eq_true, Bool.not_eq_true', W.mem_ne, List.mem_append, List.mem_singleton]
      rw [this]
      exact ⟨fun ⟨a, b⟩ z => z.elim b fun e => a e.symm, fun z => ⟨fun e => z (.inr e.symm), fun e => z (.inl e)⟩⟩
theorem law_pieces_t {n : Int} {ps : List Pr} (h0 : 0 ≤ n) (hn : n ≤ 60) (h : ∀ p ∈ ps, PairOk n p) {P : List (List Int) → Prop} (hP : ∀ r : List (List Int), r.length = ncp n ps → P r) : (_law_pieces_w n ps).wp P := by
  have := sr_pieces h0 hn h hP
  unfold _law_pieces_w
  simp only [W.pure_bind, W.bind_assoc, W.bind_pure]
  exact this
theorem law_pieces_t2 {n : Int} {ps : List Pr} (h0 : 0 ≤ n) (hn : n ≤ 60) (h : ∀ p ∈ ps, PairOk n p) {P : List (List Int) → Prop} (hP : ∀ r : List (List Int), r.length = ncp n ps → P r) : (_law_pieces_2_w n ps).wp P := by
  have := sr_pieces h0 hn h hP
  unfold _law_pieces_2_w
  simp only [W.pure_bind, W.bind_assoc, W.bind_pure]
  exact this

end K93
end
section
namespace K93
open PySem PySem.Spec PyProof.Rows L2 RZ HM
/-! bridges, joined, firm -/
theorem pieces_of_2_eq' {n : Int} {ps : List Pr} : pieces_of_2_w n ps = pieces_of_w n ps := rfl
theorem bridges_of_eq {n : Int} {ps : List Pr} (h0 : 0 ≤ n) (hn : n ≤ 60) (h : ∀ p ∈ ps, PairOk n p) (hl : ps.length ≤ 1000) : bridges_of_w n ps = W.pure (brs n ps) := by
  unfold bridges_of_w
  simp only [W.pure_bind, W.bind_assoc]
  rw [pieces_of_eq h0 hn h, W.pure_bind, W.compC_filter (fun p => decide (ncp n ps < ncp n (wout ps p))) (by omega) fun p hp => ?_, W.pure_bind]
  · rfl
  · have e : W.compC ps (fun q => W.pure !decide (q = p)) (fun q => W.pure q) = W.pure (wout ps p) := W.compC_filter _ (by omega) fun q _ => rfl
    rw [e, W.pure_bind, pieces_of_2_eq', pieces_of_eq h0 hn fun q hq => h q (mem_wout.mp hq).1, W.pure_bind, pcs_ncp, pcs_ncp]
    congr 1
    rw [Bool.eq_iff_iff, decide_eq_true_iff, decide_eq_true_iff]
    omega
theorem bridges_eq {w : WebT} (h : IsWeb w) : bridges_w w = W.pure (brs w.2.1 w.2.2) := by
  have lo := h.lo
  have hi := h.hi
  have l := h.ps.len45 (by omega) hi
  simp only [bridges_w, W.pure_bind, W.bind_assoc, want_web_t h, bridges_of_eq (show 0 ≤ w.2.1 by omega) (show w.2.1 ≤ 60 by omega) h.ps.ok (show w.2.2.length ≤ 1000 by omega)]
def jnW (w : WebT) : Bool := decide (ncp w.2.1 w.2.2 = 1)
def fmW (w : WebT) : Bool := jnW w && decide (brs w.2.1 w.2.2 = [])
theorem is_joined_value_eq {w : WebT} (h : IsWeb w) : is_joined_value_w w = W.pure (jnW w) := by
  have lo := h.lo
  have hi := h.hi
  simp only [is_joined_value_w, W.pure_bind, W.bind_assoc, is_web_value_t h, W.ite_t, pieces_of_eq (show 0 ≤ w.2.1 by omega) (show w.2.1 ≤ 60 by omega) h.ps.ok, pcs_ncp]
  congr 1
  unfold jnW
  rw [Bool.eq_iff_iff, decide_eq_true_iff, decide_eq_true_iff]
  omega
theorem is_firm_value_eq {w : WebT} (h : IsWeb w) : is_firm_value_w w = W.pure (fmW w) := by
  have lo := h.lo
  have hi := h.hi
  have l := h.ps.len45 (by omega) hi
  simp only [is_firm_value_w, W.pure_bind, W.bind_assoc, is_joined_value_eq h, bridges_of_eq (show 0 ≤ w.2.1 by omega) (show w.2.1 ≤ 60 by omega) h.ps.ok (show w.2.2.length ≤ 1000 by omega)]
  unfold fmW
  cases jnW w <;> simp
/-- the web that a value is -/
def wbOf (d : PyData) : WebT := match d with
  | .tuple [_, .int n, e] => ((), n, (W.anyT (W.anyP (W.two W.anyI W.anyI)) e).getD [])
  | _ => ((), 0, [])
theorem prs_get (ps : List Pr) : W.anyT (W.anyP (W.two W.anyI W.anyI)) (eT (eP2 eI eI) ps) = some ps := allO_prs ps
theorem wbOf_eWb (w : WebT) : wbOf (eWb w) = w := by
  simp only [wbOf, eWb, eP3, prs_get]
  rfl
def jnA (d : PyData) : Bool := isWb d && jnW (wbOf d)
def fmA (d : PyData) : Bool := isWb d && fmW (wbOf d)
theorem is_joined_value_A {d : PyData} {m k : Nat} {dk lk : Bool} {b : Nat} (h : Ni m dk lk k b d) (hm : m ≤ 1000000) : is_joined_value_2_w d = W.pure (jnA d) := by
  unfold is_joined_value_2_w
  simp only [W.pure_bind, W.bind_assoc, is_web_value_A h hm, jnA]
  cases q : isWb d with
  | false => rfl
  | true =>
    obtain ⟨w, rfl, hw⟩ := isWb_iff.mp q
    have lo := hw.lo
    have hi := hw.hi
    rw [W.ite_t, wbOf_eWb, Bool.true_and, seqA_tup, W.get_some]
    simp only [W.pure_bind, at3_1, at3_2, W.anyI, W.get_some, prs_get, pieces_of_eq (show 0 ≤ w.2.1 by omega) (show w.2.1 ≤ 60 by omega) hw.ps.ok, pcs_ncp]
    congr 1
    unfold jnW
    rw [Bool.eq_iff_iff, decide_eq_true_iff, decide_eq_true_iff]
    omega
theorem is_firm_value_A {d : PyData} {m k : Nat} {dk lk : Bool} {b : Nat} (h : Ni m dk lk k b d) (hm : m ≤ 1000000) : is_firm_value_2_w d = W.pure (fmA d) := by
  unfold is_firm_value_2_w
  simp only [W.pure_bind, W.bind_assoc, is_joined_value_A h hm, jnA, fmA, fmW]
  cases q : isWb d with
  | false => rfl
  | true =>
    obtain ⟨w, rfl, hw⟩ := isWb_iff.mp q
    have lo := hw.lo
    have hi := hw.hi
    have l := hw.ps.len45 (by omega) hi
    simp only [wbOf_eWb, Bool.true_and]
    cases jnW w with
    | false => rfl
    | true =>
      rw [W.ite_t, seqA_tup, W.get_some]
      simp only [W.pure_bind, at3_1, at3_2, W.anyI, W.get_some, prs_get, bridges_of_eq (show 0 ≤ w.2.1 by omega) (show w.2.1 ≤ 60 by omega) hw.ps.ok (show w.2.2.length ≤ 1000 by omega), Bool.true_and]
/-! the law's own looks -/
theorem law_is_bridge_t {w : WebT} (h : IsWeb w) (p : Pr) : (_law_is_bridge_w w p).wp (· = decide (ncp w.2.1 w.2.2 < ncp w.2.1 (wout w.2.2 p))) := by
  have lo := h.lo
  have hi := h.hi
  have l := h.ps.len45 (by omega) hi
  unfold _law_is_bridge_w
  simp only [W.pure_bind, W.bind_assoc]
  have e : W.compC w.2.2 (fun q => W.pure !decide (q = p)) (fun q => W.pure q) = W.pure (wout w.2.2 p) := W.compC_filter _ (by omega) fun q _ => rfl
  rw [e, W.pure_bind]
  refine law_pieces_t (by omega) (by omega) (fun q hq => h.ps.ok q (mem_wout.mp hq).1) fun r hr => ?_
  refine law_pieces_t2 (by omega) (by omega) h.ps.ok fun r2 hr2 => ?_
  show decide _ = decide _
  rw [hr, hr2, Bool.eq_iff_iff, decide_eq_true_iff, decide_eq_true_iff]
  omega
theorem law_is_whole_A (lo hi : Int) (d : PyData) : _law_is_whole_w d lo hi = W.pure (isI lo hi d) := by
  cases d with
  | int i => by_cases h : lo ≤ i <;> simp [_law_is_whole_w, PyData.isInt, PyData.isBool, isI, W.anyI, h]
  | _ => simp [_law_is_whole_w, PyData.isInt, PyData.isBool, isI]
/-- two places, each of a range -/
def isTw (n : Int) : PyData → Bool
  | .tuple [x, y] => isI 0 (n - 1) x && isI 0 (n - 1) y
  | _ => false
theorem isTw_pr {n : Int} {d : PyData} : isTw n d = true ↔ ∃ p : Pr, d = eP2 eI eI p ∧ 0 ≤ p.1 ∧ p.1 < n ∧ 0 ≤ p.2 ∧ p.2 < n := by
  constructor
  · intro h
    unfold isTw at h
    split at h
    · obtain ⟨a, b, rfl, rfl, h1, h2, h3, h4⟩ := isI_two h
      exact ⟨(a, b), rfl, h1, h2, h3, h4⟩
    · cases h
  · rintro ⟨p, rfl, h1, h2, h3, h4⟩
    simp only [isTw, isI, Bool.and_eq_true, decide_eq_true_eq]
    omega
theorem isTw_all {n : Int} : ∀ {xs : List PyData}, xs.all (isTw n) = true → ∃ ps : List Pr, xs = ps.map (eP2 eI eI) ∧ ∀ p ∈ ps, 0 ≤ p.1 ∧ p.1 < n ∧ 0 ≤ p.2 ∧ p.2 < n
  | [], _ => ⟨[], rfl, fun _ h => nomatch h⟩
  | x :: xs, h => by
    simp only [List.all_cons, Bool.and_eq_true] at h
    obtain ⟨p, rfl, hp⟩ := isTw_pr.mp h.1
    obtain ⟨ps, rfl, hps⟩ := isTw_all h.2
    exact ⟨p :: ps, rfl, fun q hq => (List.mem_cons.mp hq).elim (fun e => by rw [e]; exact hp) (hps q)⟩
theorem forF_look {α : Type} {f : α → Unit → W (W.Fl Unit Bool)} (b : α → Bool) : ∀ {xs : List α}, (∀ x ∈ xs, f x () = W.pure (if b x then W.Fl.nx () else W.Fl.rt false)) → W.forF xs () f = W.pure (if xs.all b then W.Fl.nx () else W.Fl.rt false)
  | [], _ => rfl
  | x :: xs, h => by
    have ih := forF_look b (xs := xs) fun y hy => h y (List.mem_cons_of_mem _ hy)
    unfold W.forF
    rw [h x List.mem_cons_self, W.pure_bind]
    cases q : b x with
    | true => simp [q, ih]
    | false => simp [q]
theorem ite_fl (c : Bool) : W.ite (!c) (W.pure (W.Fl.rt false)) (W.pure (W.Fl.nx () : W.Fl Unit Bool)) = W.pure (if c = true then W.Fl.nx () else W.Fl.rt false) := by cases c <;> rfl
theorem isTup_t {xs : List PyData} : (PyData.tuple xs).isTuple = true := rfl
theorem isI_int' {lo hi i : Int} : isI lo hi (.int i) = (decide (lo ≤ i) && decide (i ≤ hi)) := rfl
theorem law_is_web_A9 {k : Nat} {dk lk : Bool} {b m : Nat} {d : PyData} (h : Ni m dk lk k b d) (hm : m ≤ 100000) : _law_is_web_w d = W.pure (isWb d) := by
  unfold _law_is_web_w
  cases d with
  | tuple xs =>
    by_cases hl : xs.length = 3
    · match xs, hl with
      | [x, y, z], _ =>
        have hz := h.ofTup.2.2.mem (x := z) (by simp)
        have e0 : decide (((0 + 1 + 1 + 1 : Nat) : Int) = 3) = true := rfl
        simp only [isTup_t, W.pure_bind, W.bind_assoc, List.length_cons, List.length_nil, decide_true, Bool.not_true, W.ite_f, seqA_tup, W.get_some, at3_0, at3_1, at3_2, e0]
        cases x with
        | str s =>
          have e : W.chk (Flat (.str s) ∧ Flat (eW "web" ())) (!PyData.eqv (.str s) (eW "web" ())) = W.pure (!decide (s = "web")) := by
            rw [W.chk_of ⟨flat_strZ _, flat_strZ _⟩, eqv_str]
          simp only [PyData.isStr, Bool.not_true, W.ite_f, e, W.pure_bind]
          by_cases hs : s = "web"
          · subst hs
            simp only [decide_true, Bool.not_true, W.ite_f]
            rw [law_is_whole_A, W.pure_bind]
            cases y with
            | int n =>
              rw [isI_int']
              cases q : (decide (1 ≤ n) && decide (n ≤ 10)) with
              | false => rw [isWb_far q]; rfl
              | true =>
                simp only [Bool.and_eq_true, decide_eq_true_eq] at q
                simp only [Bool.not_true, W.ite_f, W.pure_bind]
                cases z with
                | tuple zs =>
                  have hlz := hz.ofTup.1
                  simp only [isTup_t, Bool.not_true, W.ite_f, anyT_tup, W.get_some, W.pure_bind, W.anyI]
                  have one : ∀ x ∈ zs, (W.bind (W.ite (!x.isTuple) (W.pure true) (W.bind (W.get (W.seqA x)) fun a => W.ite (!decide ((a.length : Int) = 2)) (W.pure true) (W.bind (W.get (W.anyT (fun a => some a) x)) fun a => W.bind (W.compC a (fun _ => W.pure true) fun v => _law_is_whole_w v 0 (n - 1)) fun a => W.pure !a.all id))) fun b => W.ite b (W.pure (W.Fl.rt false)) (W.pure (W.Fl.nx () : W.Fl Unit Bool))) = W.pure (if isTw n x then W.Fl.nx () else W.Fl.rt false) := fun x _ => by
                    cases x with
                    | tuple ys =>
                      match ys with
                      | [x, y] =>
                        have e : W.compC [x, y] (fun _ => W.pure true) (fun v => _law_is_whole_w v 0 (n - 1)) = W.pure ([x, y].map (isI 0 (n - 1))) := W.compC_map _ (by simp) fun z _ => law_is_whole_A 0 (n - 1) z
                        have e2 : decide (((0 + 1 + 1 : Nat) : Int) = 2) = true := rfl
                        simp only [isTup_t, Bool.not_true, W.ite_f, seqA_tup, anyT_tup, W.get_some, W.pure_bind, W.bind_assoc, List.length_cons, List.length_nil, e2, e, W.all_map_id, isTw, List.all_cons, List.all_nil, Bool.and_true]
                        exact ite_fl _
                      | [] => simp [PyData.isTuple, isTw, seqA_tup]
                      | [_] => simp [PyData.isTuple, isTw, seqA_tup]
                      | _ :: _ :: _ :: ys =>
                        have : ¬ ((ys.length : Int) + 1 + 1 + 1 = 2) := by omega
                        simp [PyData.isTuple, isTw, seqA_tup, this]
                    | _ => simp [PyData.isTuple, isTw]
                  have all := forF_look (f := fun x _ => W.bind (W.ite (!x.isTuple) (W.pure true) (W.bind (W.get (W.seqA x)) fun a => W.ite (!decide ((a.length : Int) = 2)) (W.pure true) (W.bind (W.get (W.anyT (fun a => some a) x)) fun a => W.bind (W.compC a (fun _ => W.pure true) fun v => _law_is_whole_w v 0 (n - 1)) fun a => W.pure !a.all id))) fun b => W.ite b (W.pure (W.Fl.rt false)) (W.pure (W.Fl.nx () : W.Fl Unit Bool))) (isTw n) one
                  rw [all]
                  cases tw : zs.all (isTw n) with
                  | false =>
                    have : isPrs n (.tuple zs) = false := by
                      cases q : isPrs n (.tuple zs) with
                      | false => rfl
                      | true =>
                        obtain ⟨ps, e, hp⟩ := isPrs_iff.mp q
                        have e : zs = ps.map (eP2 eI eI) := PyData.tuple.inj e
                        rw [e, List.all_map] at tw
                        have : (ps.all (isTw n ∘ eP2 eI eI)) = true := List.all_eq_true.mpr fun p hpm => isTw_pr.mpr ⟨p, rfl, by have := hp.ok p hpm; unfold PairOk at this; omega⟩
                        rw [this] at tw
                        cases tw
                    simp [isWb, this, W.thenF]
                  | true =>
                    obtain ⟨ps, rfl, hp⟩ := isTw_all tw
                    have lp : ps.length ≤ 100000 := by have := hlz; rw [List.length_map] at this; omega
                    have c1 : W.compC (ps.map (eP2 eI eI)) (fun _ => W.pure true) (fun v => W.bind (W.get (W.seqA v)) fun a => W.bind (W.at' a 0) fun x => W.bind (W.get (W.seqA v)) fun a => W.bind (W.at' a 1) fun y => W.chk (CmpA x y) (PySem.W.dataLt x y)) = W.pure ((ps.map (eP2 eI eI)).map fun v => match v with | .tuple [.int a, .int b] => decide (a < b) | _ => false) := W.compC_map _ (by rw [List.length_map]; omega) fun v hv => by
                      obtain ⟨p, _, rfl⟩ := List.mem_map.mp hv
                      simp only [seqA_tup, W.get_some, W.pure_bind, at2_0, at2_1, W.chk_of cmp_ints, PySem.W.dataLt_int]
                    have c2 : W.compC ((ps.map (eP2 eI eI)).zip ((ps.map (eP2 eI eI)).drop 1)) (fun _ => W.pure true) (fun z => W.chk (CmpA z.1 z.2) (PySem.W.dataLt z.1 z.2)) = W.pure (((ps.map (eP2 eI eI)).zip ((ps.map (eP2 eI eI)).drop 1)).map fun z => PySem.W.dataLt z.1 z.2) := W.compC_map _ (by rw [List.length_zip, List.length_map]; omega) fun z hz => by
                      rw [← List.map_drop, List.zip_map] at hz
                      obtain ⟨w, hw, rfl⟩ := List.mem_map.mp hz
                      exact W.chk_of cmp_prs
                    have key : isWb (.tuple [.str "web", .int n, .tuple (ps.map (eP2 eI eI))]) = (ps.all (fun p => decide (p.1 < p.2)) && upA (ps.map (eP2 eI eI))) := by
                      simp only [isWb, q.1, q.2, decide_true, Bool.true_and, isPrs]
                      congr 1
                      rw [Bool.eq_iff_iff, List.all_map, List.all_eq_true, List.all_eq_true]
                      refine ⟨fun z p hpm => ?_, fun z p hpm => ?_⟩
                      · obtain ⟨r, er, hr⟩ := isPr_iff.mp (z p hpm)
                        have er : p = r := by
                          have : PyData.tuple [.int p.1, .int p.2] = .tuple [.int r.1, .int r.2] := er
                          simp only [PyData.tuple.injEq, List.cons.injEq, PyData.int.injEq, and_true] at this
                          exact Prod.ext this.1 this.2
                        rw [er]
                        exact decide_eq_true hr.2.1
                      · have a := hp p hpm
                        have b := of_decide_eq_true (z p hpm)
                        exact isPr_iff.mpr ⟨p, rfl, by unfold PairOk; omega⟩
                    rw [key]
                    simp only [if_true, W.thenF, W.pure_bind, c1, W.all_map_id, W.cut_1, c2]
                    rw [List.all_map]
                    show W.ite (ps.all fun p => decide (p.1 < p.2)) _ _ = _
                    cases ps.all fun p => decide (p.1 < p.2) with
                    | false => rfl
                    | true => rfl
                | _ => simp [PyData.isTuple, isWb, isPrs]
            | _ => simp [isI, isWb]
          · cases y <;> simp [hs, isWb]
        | _ => simp [PyData.isStr, isWb]
    · have hl' : ¬ ((xs.length : Int) = 3) := by omega
      simp [PyData.isTuple, seqA_tup, hl', isWb_no hl]
  | _ => simp [PyData.isTuple, isWb]

end K93
end
section
namespace K93
open PySem PySem.Spec PyProof.Rows L2 RZ HM
/-! drawn webs -/
theorem drawn_filter {α : Type} {xs : List α} {n : Int} {b : α → Int → Bool} (h0 : 0 < n) (h1 : n ≤ 1000000) (hl : xs.length ≤ 8000000) : (W.compC xs (fun x => W.bind (_law_draw_w () n) fun d => W.pure (b x d)) fun x => W.pure x).wp fun ys => ys.Sublist xs :=
  W.compC_sub hl fun x _ => draw_t h0 h1 fun _ _ _ => trivial
theorem law_web_t {most : Int} (h0 : 0 < most) (h1 : most ≤ 10) {P : WebT → Prop} (h : ∀ w, IsWeb w → w.2.1 ≤ most → P w) : (_law_web_w () most).wp P := by
  unfold _law_web_w
  simp only [W.pure_bind, W.bind_assoc]
  refine draw_t h0 (by omega) fun d d0 d1 => ?_
  refine W.bind_wp (Q := fun _ => True) (law_pick_t (fun s => by simp only [_law_pick_w, W.pure_bind, W.bind_assoc, W.bind_pure]) (by simp) (by simp) fun x _ => trivial) fun t _ => ?_
  show (W.bind (_law_all_pairs_w (1 + d)) _).wp P
  rw [law_all_pairs_eq (by omega) (by omega), W.pure_bind]
  refine W.bind_wp (drawn_filter (b := fun _ x => decide (x < t)) (by omega) (by omega) (by have := allP_len (show 1 + d ≤ 10 by omega); omega)) fun ps hs => ?_
  exact h ((), 1 + d, ps) ⟨show 1 ≤ 1 + d by omega, show 1 + d ≤ 10 by omega, (allP_ok _).sub hs⟩ (show 1 + d ≤ most by omega)
theorem law_mixed_t {m : Int} (h0 : 0 ≤ m) (h1 : m ≤ 1000) {P : List Int → Prop} (h : ∀ ys : List Int, ys.Perm (W.rangeI 0 m) → P ys) : (_law_mixed_w () m).wp P := by
  unfold _law_mixed_w
  simp only [W.pure_bind, W.bind_assoc]
  rw [W.range1_eq (by omega) (by omega), W.pure_bind, W.pure_bind]
  let I : List Int → List Int → List Int × List Int → Prop := fun _ zs s => s.1.length = zs.length ∧ (s.2 ++ s.1).Perm (W.rangeI 0 m)
  have start : I [] (W.rangeI 0 m) (W.rangeI 0 m, []) := ⟨rfl, List.Perm.refl _⟩
  refine W.bind_wp (W.forS_wp (ys := []) I start fun ys x zs s hI => ?_) fun s hs => ?_
  · obtain ⟨hn, hp⟩ := hI
    have hlen := hp.length_eq
    rw [List.length_append, W.rangeI_length] at hlen
    rw [List.length_cons] at hn
    refine draw_t (by omega) (by omega) fun d d0 d1 => ?_
    show (W.bind (W.chk _ _) _).wp _
    rw [W.chk_pos ⟨d0, d1, by omega, by omega⟩, W.pure_bind]
    have hk : d.toNat < s.1.length := by omega
    rw [W.get_of (List.getElem?_eq_getElem hk), W.pure_bind]
    refine ⟨by show (s.1.eraseIdx d.toNat).length = _; rw [List.length_eraseIdx_of_lt hk]; omega, ?_⟩
    refine List.Perm.trans ?_ hp
    show ((s.2 ++ [s.1[d.toNat]]) ++ s.1.eraseIdx d.toNat).Perm _
    rw [List.append_assoc]
    exact List.Perm.append_left _ (perm_erIdx hk)
  · obtain ⟨hl, hp⟩ := hs
    have : s.1 = [] := List.length_eq_zero_iff.mp hl
    rw [this, List.append_nil] at hp
    exact h _ hp
theorem law_forest_t {P : WebT → Prop} (h : ∀ w, IsWeb w → w.2.1 ≤ 8 → brs w.2.1 w.2.2 = w.2.2 → P w) : (_law_forest_w () 8).wp P := by
  unfold _law_forest_w
  simp only [W.pure_bind, W.bind_assoc]
  refine draw_t (by omega) (by omega) fun d d0 d1 => ?_
  refine W.bind_wp (Q := fun xs => xs.Perm (W.rangeI 0 (1 + d))) (law_mixed_t (by omega) (by omega) fun ys hy => hy) fun xs hx => ?_
  refine W.bind_wp (Q := fun g => 0 < g ∧ g ≤ 100) (law_pick_t (fun s => by simp only [_law_pick_w, W.pure_bind, W.bind_assoc, W.bind_pure]) (by simp) (by simp) fun x hx => by
    simp only [List.mem_cons, List.not_mem_nil, or_false] at hx
    omega) fun g hg => ?_
  obtain ⟨hl, nd, hat⟩ := perm_range (show 0 ≤ 1 + d by omega) hx
  rw [W.range2_eq (by omega) (by omega) (by omega) (by omega), W.pure_bind]
  generalize hn : 1 + d = n at *
  let I : List Int → List Int → List Pr → Prop := fun ys zs s => ys ++ zs = W.rangeI 1 n ∧ (∀ q ∈ s, PairOk n q) ∧ (∀ q ∈ s, ∃ i j, 0 ≤ i ∧ i < 1 + (ys.length : Int) ∧ 0 ≤ j ∧ j < 1 + (ys.length : Int) ∧ q = prOf (at0 xs i) (at0 xs j)) ∧ s.Nodup ∧ ncp n s + s.length = n.toNat
  have start : I [] (W.rangeI 1 n) [] := ⟨rfl, fun q hq => (nomatch hq), fun q hq => (nomatch hq), List.nodup_nil, by rw [ncp_nil (by omega)]; rfl⟩
  refine W.bind_wp (W.forS_wp I start fun ys x zs s hI => ?_) fun s hs => ?_
  · obtain ⟨e, ok, ends, snd, cnt⟩ := hI
    have hlen : ys.length < (W.rangeI 1 n).length := by rw [← e, List.length_append, List.length_cons]; omega
    have hx : x = 1 + (ys.length : Int) := by
      have a := W.rangeI_getElem hlen
      have b : (W.rangeI 1 n)[ys.length] = x := by
        have : (W.rangeI 1 n)[ys.length]? = some x := by rw [← e]; simp
        rw [List.getElem?_eq_getElem hlen] at this
        exact Option.some.inj this
      rw [← b, a]
    rw [W.rangeI_length] at hlen
    have e2 : (ys ++ [x]) ++ zs = W.rangeI 1 n := by rw [← e]; simp
    have l2 : ((ys ++ [x]).length : Int) = (ys.length : Int) + 1 := by simp
    have slen : s.length ≤ 1000 := by omega
    refine draw_t (by omega) (by omega) fun c c0 c1 => ?_
    dsimp only
    by_cases hc : 0 < c
    · rw [decide_eq_true hc, W.ite_t, (hat x (by omega) (by omega)).2.2, W.pure_bind]
      refine draw_t (by omega) (by omega) fun j j0 j1 => ?_
      dsimp only
      rw [(hat j (by omega) (by omega)).2.2]
      simp only [W.pure_bind, W.bind_assoc]
      rw [get_two, W.pure_bind]
      unfold W.app
      rw [W.chk_of (by omega), W.pure_bind]
      have ne : at0 xs x ≠ at0 xs j := fun z => by have := at0_inj nd (by omega) (by omega) j0 (by omega) z; omega
      have h1 := hat x (by omega) (by omega)
      have h2 := hat j (by omega) (by omega)
      have pok : PairOk n (prOf (at0 xs x) (at0 xs j)) := prOf_ok ⟨h1.1, h1.2.1⟩ ⟨h2.1, h2.2.1⟩ ne
      have al : ∀ q ∈ s, q.1 ≠ at0 xs x ∧ q.2 ≠ at0 xs x := fun q hq => by
        obtain ⟨i, k, i0, i1, k0, k1, rfl⟩ := ends q hq
        have a : at0 xs i ≠ at0 xs x := fun z => by have := at0_inj nd i0 (by omega) (by omega) (by omega) z; omega
        have b : at0 xs k ≠ at0 xs x := fun z => by have := at0_inj nd k0 (by omega) (by omega) (by omega) z; omega
        unfold prOf
        constructor <;> simp only <;> omega
      have st := forest_step ok h1.1 h1.2.1 h2.1 h2.2.1 ne al pok
      refine ⟨e2, fun q hq => (List.mem_append.mp hq).elim (ok q) fun z => by rw [List.mem_singleton.mp z]; exact pok, fun q hq => ?_, ?_, by rw [List.length_append, List.length_singleton]; omega⟩
      · rcases List.mem_append.mp hq with z | z
        · obtain ⟨i, k, i0, i1, k0, k1, e⟩ := ends q z
          exact ⟨i, k, i0, by omega, k0, by omega, e⟩
        · exact ⟨x, j, by omega, by omega, j0, by omega, List.mem_singleton.mp z⟩
      · refine List.nodup_append.mpr ⟨snd, by simp, fun a ha b hb => ?_⟩
        rw [List.mem_singleton.mp hb]
        intro z
        have := al a ha
        rw [z] at this
        unfold prOf at this
        simp only at this
        omega
    · rw [decide_eq_false hc, W.ite_f]
      exact ⟨e2, ok, fun q hq => by
        obtain ⟨i, k, i0, i1, k0, k1, e⟩ := ends q hq
        exact ⟨i, k, i0, by omega, k0, by omega, e⟩, snd, cnt⟩
  · obtain ⟨_, ok, _, snd, cnt⟩ := hs
    have ps := pairs_sorted ok snd
    have mem : ∀ q, q ∈ s ↔ q ∈ W.sortBy (W.ltP W.ltI W.ltI) s := fun q => (sortBy_perm s).mem_iff.symm
    refine h ((), n, W.sortBy (W.ltP W.ltI W.ltI) s) ⟨show 1 ≤ n by omega, show n ≤ 10 by omega, ps⟩ (show n ≤ 8 by omega) ?_
    refine forest_brs (by show 0 ≤ n; omega) ps.nodup ps.ok ?_
    show ncp n (W.sortBy (W.ltP W.ltI W.ltI) s) + (W.sortBy (W.ltP W.ltI W.ltI) s).length = n.toNat
    rw [← ncp_congr (by omega) ok mem, (sortBy_perm s).length_eq]
    exact cnt
theorem law_ring_t {P : WebT → Prop} (h : ∀ w, IsWeb w → w.2.1 ≤ 8 → fmW w = true → P w) : (_law_ring_w ()).wp P := by
  unfold _law_ring_w
  simp only [W.pure_bind, W.bind_assoc]
  refine draw_t (by omega) (by omega) fun d d0 d1 => ?_
  refine W.bind_wp (Q := fun xs => xs.Perm (W.rangeI 0 (3 + d))) (law_mixed_t (by omega) (by omega) fun ys hy => hy) fun xs hx => ?_
  obtain ⟨hl, nd, hat⟩ := perm_range (show 0 ≤ 3 + d by omega) hx
  rw [W.range1_eq (by omega) (by omega), W.pure_bind]
  generalize hn : 3 + d = n at *
  have pok : ∀ i, 0 ≤ i → i < n → PairOk n (rpr xs n i) := fun i i0 i1 => by
    have m : 0 ≤ (i + 1) % n ∧ (i + 1) % n < n := ⟨Int.emod_nonneg _ (by omega), Int.emod_lt_of_pos _ (by omega)⟩
    have h1 := hat i i0 i1
    have h2 := hat _ m.1 m.2
    refine prOf_ok ⟨h1.1, h1.2.1⟩ ⟨h2.1, h2.2.1⟩ fun z => ?_
    have := at0_inj nd i0 (by omega) m.1 (by omega) z
    rw [next_mod i0 i1] at this
    split at this <;> omega
  let I : List Int → List Int → List Pr → Prop := fun ys zs s => ys ++ zs = W.rangeI 0 n ∧ s = ys.map (rpr xs n)
  have start : I [] (W.rangeI 0 n) [] := ⟨rfl, rfl⟩
  refine W.bind_wp (W.forS_wp I start fun ys x zs s hI => ?_) fun s hs => ?_
  · obtain ⟨e, es⟩ := hI
    have hx := W.mem_rangeI.mp (show x ∈ W.rangeI 0 n by rw [← e]; exact List.mem_append_right _ List.mem_cons_self)
    have m : 0 ≤ (x + 1) % n ∧ (x + 1) % n < n := ⟨Int.emod_nonneg _ (by omega), Int.emod_lt_of_pos _ (by omega)⟩
    have hlen : ys.length ≤ (W.rangeI 0 n).length := by rw [← e, List.length_append]; omega
    rw [W.rangeI_length] at hlen
    rw [(hat x hx.1 hx.2).2.2, W.pure_bind, W.chk_of (by omega), W.pure_bind, (hat _ m.1 m.2).2.2, W.pure_bind, get_two, W.pure_bind]
    unfold W.app
    rw [W.chk_of (by rw [es, List.length_map]; omega), W.pure_bind]
    exact ⟨by rw [← e]; simp, by rw [es, List.map_append]; rfl⟩
  · obtain ⟨e, es⟩ := hs
    rw [List.append_nil, List.nil_append] at e
    have e : s = (W.rangeI 0 n).map (rpr xs n) := by rw [es, List.nil_append]
    have sl : s.length ≤ 8 := by rw [e, List.length_map, W.rangeI_length]; omega
    rw [law_all_pairs_eq (by omega) (by omega), W.pure_bind]
    refine W.bind_wp (drawn_filter (b := fun _ x => decide (x = 0)) (by omega) (by omega) (by have := allP_len (show n ≤ 10 by omega); omega)) fun ps hs => ?_
    have pl := ((allP_ok n).sub hs).len28 (by omega) (by omega)
    have ok : ∀ q ∈ s ++ ps, PairOk n q := fun q hq => by
      rcases List.mem_append.mp hq with z | z
      · rw [e] at z
        obtain ⟨i, hi, rfl⟩ := List.mem_map.mp z
        have := W.mem_rangeI.mp hi
        exact pok i this.1 this.2
      · exact (allP_ok n).ok q (hs.subset z)
    unfold W.ext
    rw [W.chk_of (by omega), W.pure_bind, W.chk_of ⟨by rw [List.length_append]; omega, fun p hp => by have := ok p hp; unfold PairOk at this; omega⟩, W.pure_bind]
    have ps2 := pairs_setP ok
    have hr : ∀ i, 0 ≤ i → i < n → rpr xs n i ∈ W.setP (s ++ ps) := fun i i0 i1 => by
      rw [setP_mem, e]
      exact List.mem_append_left _ (List.mem_map.mpr ⟨i, W.mem_rangeI.mpr ⟨i0, i1⟩, rfl⟩)
    refine h ((), n, W.setP (s ++ ps)) ⟨show 1 ≤ n by omega, show n ≤ 10 by omega, ps2⟩ (show n ≤ 8 by omega) ?_
    unfold fmW jnW
    have a := ring_one' (show 3 ≤ n by omega) hl hx ps2.ok hr
    have b := ring_brs (show 3 ≤ n by omega) hl hx ps2.ok hr
    simp only
    rw [a, b]
    rfl
theorem law_two_t {P : WebT → Prop} (h : ∀ w, IsWeb w → w.2.1 ≤ 8 → P w) : (_law_two_w ()).wp P := by
  unfold _law_two_w
  simp only [W.pure_bind, W.bind_assoc]
  refine W.bind_wp (Q := fun xs => xs.Perm (W.rangeI 0 6)) (law_mixed_t (by omega) (by omega) fun ys hy => hy) fun xs hx => ?_
  obtain ⟨hl, nd, hat⟩ := perm_range (show (0 : Int) ≤ 6 by omega) hx
  refine W.bind_wp (drawn_filter (b := fun _ x => decide (0 < x)) (by omega) (by omega) (by simp)) fun ps hs => ?_
  have ok : ∀ p ∈ ps, PairOk 6 p := fun p hp => by
    have := hs.subset hp
    simp only [List.mem_cons, List.not_mem_nil, or_false] at this
    unfold PairOk
    rcases this with rfl | rfl | rfl | rfl | rfl | rfl | rfl <;> decide
  have pnd : ps.Nodup := (show ([(0, 1), (1, 2), (0, 2), (3, 4), (4, 5), (3, 5), (2, 3)] : List Pr).Nodup by decide).sublist hs
  have plen : ps.length ≤ 7 := hs.length_le
  have e : W.compC ps (fun _ => W.pure true) (fun p => W.bind (W.at' xs p.1) fun a => W.bind (W.at' xs p.2) fun b => W.get (W.two (fun x : Int => some x) (fun x : Int => some x) (W.sortL [a, b]))) = W.pure (ps.map fun p => prOf (at0 xs p.1) (at0 xs p.2)) := W.compC_map _ (by omega) fun p hp => by
    have := ok p hp
    unfold PairOk at this
    rw [(hat p.1 (by omega) (by omega)).2.2, W.pure_bind, (hat p.2 (by omega) (by omega)).2.2, W.pure_bind, get_two]
  rw [e, W.pure_bind]
  have ps2 : Pairs 6 (W.sortBy (W.ltP W.ltI W.ltI) (ps.map fun p => prOf (at0 xs p.1) (at0 xs p.2))) := pairs_sorted (fun q hq => by
    obtain ⟨p, hp, rfl⟩ := List.mem_map.mp hq
    have := ok p hp
    unfold PairOk at this
    have h1 := hat p.1 (by omega) (by omega)
    have h2 := hat p.2 (by omega) (by omega)
    exact prOf_ok ⟨h1.1, h1.2.1⟩ ⟨h2.1, h2.2.1⟩ fun z => by have := at0_inj nd (by omega) (by omega) (by omega) (by omega) z; omega) (List.pairwise_map.mpr (List.Pairwise.imp_of_mem (fun {p q} hp hq ne e => ne (by
      have a := ok p hp
      have b := ok q hq
      unfold PairOk at a b
      rcases prOf_eq.mp e with z | z
      · exact Prod.ext (at0_inj nd (by omega) (by omega) (by omega) (by omega) z.1) (at0_inj nd (by omega) (by omega) (by omega) (by omega) z.2)
      · have z1 := at0_inj nd (by omega) (by omega) (by omega) (by omega) z.1
        have z2 := at0_inj nd (by omega) (by omega) (by omega) (by omega) z.2
        omega)) pnd))
  exact h ((), 6, _) ⟨show (1 : Int) ≤ 6 by omega, show (6 : Int) ≤ 10 by omega, ps2⟩ (show (6 : Int) ≤ 8 by omega)

end K93
end
section
namespace K93
open PySem PySem.Spec PyProof.Rows L2 RZ HM
/-! bent webs -/
theorem bd_int {i : Int} {k n : Nat} (h1 : -64000 < i) (h2 : i < 64000) : Bd 64 k n (.int i) := .inl (ni_int (by omega) (by omega))
theorem bd_str {z : Str} {k n : Nat} (h : (decide (z.cps.size ≤ 100) && z.cps.toList.all (fun c => decide (c < 16 ^ 8))) = true) (hn : 100 ≤ n) : Bd 64 k n (.str z) := .inl (ni_str h hn)
theorem pickA_t {s : List PyData} {P : PyData → Prop} (h0 : s ≠ []) (h1 : s.length ≤ 1000000) (h : ∀ x ∈ s, P x) : (_law_pick_3_w () s).wp P := law_pick_t (fun s => by simp only [_law_pick_3_w, W.pure_bind, W.bind_assoc, W.bind_pure]) h0 h1 h
theorem pick_odd {k n : Nat} (hn : 100 ≤ n) : (_law_pick_3_w () [eU (), eI 0, eT eI [], eL eI [], eW "web" (), eW "Web" (), eD (), eP2 eI eI (0, 1), eW "odd" ()]).wp (Bd 64 (k + 2) n) :=
  pickA_t (by simp) (by simp) fun x hx => by
    simp only [List.mem_cons, List.not_mem_nil, or_false] at hx
    rcases hx with rfl | rfl | rfl | rfl | rfl | rfl | rfl | rfl | rfl
    · exact .inl ni_none
    · exact bd_int (by omega) (by omega)
    · exact .of (NiAll.nil.tup (by simp))
    · exact .inr (NiAll.nil.lst (by simp))
    · exact bd_str (by decide +kernel) hn
    · exact bd_str (by decide +kernel) hn
    · exact .inl ni_dict
    · exact Bd.mono (m := 64) (k := 1) (n := 10) (.of ⟨by decide +kernel, by decide +kernel, by decide +kernel⟩) (by omega) (by omega) (by omega)
    · exact bd_str (by decide +kernel) hn
theorem pick_int {i : Int} {v : PyData} (hv : v = .int i) (h1 : -62000 < i) (h2 : i < 62000) {k n : Nat} (hn : 100 ≤ n) : (_law_pick_3_w () [eI (i + 1), eI (i - 1), eB true, eU (), eI 0, eI 11, eP1 eA v, eW "1" ()]).wp (Bd 64 (k + 2) n) := by
  subst hv
  refine pickA_t (by simp) (by simp) fun x hx => ?_
  simp only [List.mem_cons, List.not_mem_nil, or_false] at hx
  rcases hx with rfl | rfl | rfl | rfl | rfl | rfl | rfl | rfl
  · exact bd_int (by omega) (by omega)
  · exact bd_int (by omega) (by omega)
  · exact .inl ni_bool
  · exact .inl ni_none
  · exact bd_int (by omega) (by omega)
  · exact bd_int (by omega) (by omega)
  · exact Bd.mono (m := 64) (k := 1) (n := 1) (.of ((NiAll.one (n := 0) (ni_int (by omega) (by omega))).tup (by simp))) (by omega) (by omega) (by omega)
  · exact bd_str (by decide +kernel) hn
theorem eA_tup {ys : List PyData} : eT eA ys = .tuple ys := by simp
theorem eA_lst {ys : List PyData} : eL eA ys = .list ys := by simp
/-- what is bent: part of a web -/
structure Og (d : PyData) : Prop where
  ni : Ni 60 false false 3 400 d
  nb : NoB d = true
theorem Og.mem {xs : List PyData} (h : Og (.tuple xs)) {x : PyData} (hx : x ∈ xs) : Og x := ⟨(h.ni.ofTup.2.2.mem hx).up (Nat.le_refl _) (by omega) (Nat.le_refl _), noB_all.mp (by simpa only [NoB] using h.nb) x hx⟩
theorem isTup_iff {d : PyData} : d.isTuple = true ↔ ∃ xs, d = .tuple xs := by cases d <;> simp [PyData.isTuple]
theorem og_web {w : WebT} (h : IsWeb w) (hw : w.2.1 ≤ 8) : Og (eWb w) := by
  have lo := h.lo
  have l := h.ps.len28 (by omega) hw
  refine ⟨((ni_web h (m := 60) (by omega) (by omega)).tup (by simp)).up (Nat.le_refl _) (Nat.le_refl _) (by omega), ?_⟩
  simp only [eWb, eP3, NoB]
  exact noB_all.mpr noB_web
theorem bent_t {w : WebT} (h : IsWeb w) (hw : w.2.1 ≤ 8) : (_law_bent_w () w).wp (Bd 64 20 6000) := by
  unfold _law_bent_w
  simp only [pbN, baN]
  let I : Nat → List (PyData × Int) × PyData → Prop := fun m s => s.1.length + m = 4 ∧ (∀ q ∈ s.1, ∃ xs, q.1 = .tuple xs ∧ Og q.1 ∧ 0 ≤ q.2 ∧ q.2 < xs.length) ∧ Og s.2
  have start : I 4 ([], eP3 (eW "web") eI (eT (eP2 eI eI)) w) := ⟨by simp, fun q hq => (nomatch hq), og_web h hw⟩
  refine W.bind_wp (Q := fun s : List (PyData × Int) × PyData => s.1.length ≤ 4 ∧ (∀ q ∈ s.1, ∃ xs, q.1 = .tuple xs ∧ Og q.1 ∧ 0 ≤ q.2 ∧ q.2 < xs.length) ∧ Og s.2) (W.while_wp I (fun m s hI => ?_) start) fun s hs => ?_
  · obtain ⟨hm, hq, ho⟩ := hI
    have out : s.1.length ≤ 4 ∧ (∀ q ∈ s.1, ∃ xs, q.1 = .tuple xs ∧ Og q.1 ∧ 0 ≤ q.2 ∧ q.2 < xs.length) ∧ Og s.2 := ⟨by omega, hq, ho⟩
    cases ht : s.2.isTuple with
    | false =>
      rw [W.ite_f]
      rw [W.wp_pure]
      rw [if_neg Bool.false_ne_true]
      exact out
    | true =>
      obtain ⟨xs, ex⟩ := isTup_iff.mp ht
      rw [W.ite_t, ex, seqA_tup, W.get_some, W.pure_bind]
      by_cases h0 : 0 < (xs.length : Int)
      · rw [decide_eq_true h0, W.ite_t]
        by_cases h4 : (s.1.length : Int) < 4
        · rw [decide_eq_true h4, W.ite_t]
          refine draw_t (by omega) (by omega) fun c c0 c1 => ?_
          dsimp only
          by_cases hc : 0 < c
          · rw [decide_eq_true hc]
            rw [W.wp_pure]
            rw [if_pos rfl, W.pure_bind]
            have hxl := ho
            rw [ex] at hxl
            have l60 := hxl.ni.ofTup.1
            refine draw_t (by omega) (by omega) fun a a0 a1 => ?_
            dsimp only
            unfold W.app
            rw [W.chk_of (by omega), W.pure_bind]
            have eat : W.at' (s.1 ++ [(PyData.tuple xs, a)]) (-1) = W.pure (PyData.tuple xs, a) := W.get_of (by
              unfold atI
              have hl : (s.1 ++ [(PyData.tuple xs, a)]).length = s.1.length + 1 := by simp
              rw [hl]
              have : ixN (s.1.length + 1) (-1) = some s.1.length := by
                unfold ixN
                simp
                omega
              rw [this]
              simp)
            rw [eat, W.pure_bind, W.pure_bind]
            obtain ⟨k, rfl, hk, ek⟩ : ∃ k : Nat, a = (k : Int) ∧ ∃ hk : k < xs.length, W.at' xs a = W.pure xs[k] := ⟨a.toNat, by omega, by omega, by rw [W.at_eq a0 a1]⟩
            rw [ek, W.pure_bind]
            refine ⟨m - 1, by omega, by simp only [List.length_append, List.length_singleton]; omega, fun q hqm => ?_, hxl.mem (List.getElem_mem hk)⟩
            rcases List.mem_append.mp hqm with z | z
            · exact hq q z
            · rw [List.mem_singleton.mp z]
              exact ⟨xs, rfl, hxl, a0, a1⟩
          · rw [decide_eq_false hc]
            rw [W.wp_pure]
            rw [if_neg Bool.false_ne_true]
            rw [← ex]
            exact out
        · rw [decide_eq_false h4, W.ite_f]
          rw [W.wp_pure]
          rw [if_neg Bool.false_ne_true]
          rw [← ex]
          exact out
      · rw [decide_eq_false h0, W.ite_f]
        rw [W.wp_pure]
        rw [if_neg Bool.false_ne_true]
        rw [← ex]
        exact out
  · obtain ⟨hl, hq, ho⟩ := hs
    obtain ⟨spots, here⟩ := s
    dsimp only at hl hq ho ⊢
    refine draw_t (by omega) (by omega) fun way w0 w1 => ?_
    dsimp only
    refine W.bind_wp (Q := fun b : Bool => b = true → (∃ xs, here = .tuple xs ∧ 0 < xs.length) ∧ way < 4) ?_ fun b hb => ?_
    · cases ht : here.isTuple with
      | false => rw [W.ite_f]; intro z; cases z
      | true =>
        obtain ⟨xs, ex⟩ := isTup_iff.mp ht
        rw [W.ite_t, ex, seqA_tup, W.get_some, W.pure_bind]
        by_cases h0 : 0 < (xs.length : Int)
        · rw [decide_eq_true h0, W.ite_t]
          intro z
          exact ⟨⟨xs, rfl, by omega⟩, of_decide_eq_true z⟩
        · rw [decide_eq_false h0, W.ite_f]
          intro z; cases z
    · refine W.bind_wp (Q := Bd 64 6 1300) ?_ fun r hr => ?_
      · cases b with
        | true =>
          obtain ⟨⟨xs, ex, x0⟩, w4⟩ := hb rfl
          subst ex
          obtain ⟨l60, _, ha⟩ := ho.ni.ofTup
          rw [W.ite_t, seqA_tup, W.get_some, W.pure_bind]
          refine draw_t (by omega) (by omega) fun a a0 a1 => ?_
          dsimp only
          obtain ⟨k, rfl⟩ : ∃ k : Nat, a = (k : Int) := ⟨a.toNat, by omega⟩
          have e1 : W.cut xs none (some (k : Int)) = xs.take k := W.cut_to
          have e2 : W.cut xs (some ((k : Int) + 1)) none = xs.drop (k + 1) := W.cut_from (k := k + 1)
          have e3 : W.cut xs (some (k : Int)) none = xs.drop k := W.cut_from
          have e4 : W.cut xs none (some ((k : Int) + 1)) = xs.take (k + 1) := W.cut_to (k := k + 1)
          have l1 : (xs.take k).length ≤ 60 := by rw [List.length_take]; omega
          have l2 : (xs.drop (k + 1)).length ≤ 60 := by rw [List.length_drop]; omega
          have l3 : (xs.drop k).length ≤ 60 := by rw [List.length_drop]; omega
          have l4 : (xs.take (k + 1)).length ≤ 60 := by rw [List.length_take]; omega
          simp only [anyT_tup, W.get_some, W.pure_bind, e1, e2, e3, e4]
          rw [W.chk_of (by omega), W.pure_bind, W.chk_of (by omega), W.pure_bind, W.at_eq w0 (by simp only [List.length_cons, List.length_nil]; omega), eA_tup, eA_tup, eA_tup, eA_lst]
          have all : ∀ y ∈ [PyData.tuple (xs.take k ++ xs.drop (k + 1)), .tuple (xs.take (k + 1) ++ xs.drop k), .tuple xs.reverse, .list xs], Bd 64 6 1300 y := fun y hy => by
            simp only [List.mem_cons, List.not_mem_nil, or_false] at hy
            rcases hy with rfl | rfl | rfl | rfl
            · exact .of (((bt_drop ha k).tup (by rw [List.length_append, List.length_take, List.length_drop]; omega)).up (by omega) (by omega) (by omega))
            · have a := ((bt_take ha (k + 1)).append (bt_from ha k)).up (m' := 64) (by omega) (Nat.le_refl _) (Nat.le_refl _)
              exact .of ((a.tup (by rw [List.length_append, List.length_take, List.length_drop]; omega)).up (Nat.le_refl _) (by omega) (by omega))
            · exact .of (((ha.perm (List.reverse_perm _)).tup (by rw [List.length_reverse]; omega)).up (by omega) (by omega) (by omega))
            · exact (bd_lst ha l60).mono (by omega) (by omega) (by omega)
          exact all _ (List.getElem_mem _)
        | false =>
          rw [W.ite_f]
          cases here with
          | int i =>
            have b := nc_int.mp ho.ni.nc
            simp only [PyData.isInt, W.ite_t, W.anyI, W.get_some, W.pure_bind]
            exact (W.mono _ _ (Bd 64 6 1300) (fun r hr => hr.mono (by omega) (by omega) (by omega)) (pick_int (k := 0) (n := 100) rfl (by omega) (by omega) (Nat.le_refl _)))
          | bool c => exact absurd ho.nb (by simp [NoB])
          | _ =>
            simp only [PyData.isInt, W.ite_f]
            exact (W.mono _ _ (Bd 64 6 1300) (fun r hr => hr.mono (by omega) (by omega) (by omega)) (pick_odd (k := 0) (n := 100) (Nat.le_refl _)))
      · let J : List (PyData × Int) → List (PyData × Int) → PyData → Prop := fun ys zs r => ys ++ zs = spots.reverse ∧ Bd 64 (6 + ys.length) (1300 + ys.length * 500) r
        have start : J [] spots.reverse r := ⟨rfl, hr⟩
        refine W.bind_wp (W.forS_wp J start fun ys q zs r hJ => ?_) fun r hr => ?_
        · obtain ⟨e, hb⟩ := hJ
          obtain ⟨xs, eq, og, a0, a1⟩ := hq q (List.mem_reverse.mp (by rw [← e]; exact List.mem_append_right _ List.mem_cons_self))
          have ly : ys.length ≤ 4 := by have := congrArg List.length e; rw [List.length_append, List.length_reverse] at this; omega
          rw [eq] at og ⊢
          obtain ⟨l60, _, ha⟩ := og.ni.ofTup
          obtain ⟨k, ek⟩ : ∃ k : Nat, q.2 = (k : Int) := ⟨q.2.toNat, by omega⟩
          rw [ek] at a1 ⊢
          have e1 : W.cut xs none (some (k : Int)) = xs.take k := W.cut_to
          have e2 : W.cut xs (some ((k : Int) + 1)) none = xs.drop (k + 1) := W.cut_from (k := k + 1)
          have l1 : (xs.take k).length ≤ 60 := by rw [List.length_take]; omega
          have l2 : (xs.drop (k + 1)).length ≤ 60 := by rw [List.length_drop]; omega
          simp only [anyT_tup, W.get_some, W.pure_bind, e1, e2]
          rw [W.chk_of (by simp; omega), W.pure_bind, W.chk_of (by rw [List.length_append]; simp; omega), W.pure_bind, eA_tup]
          refine ⟨by rw [← e]; simp, ?_⟩
          have p := bd_put (n := 400) (ha.up (m' := 64) (k' := 6 + ys.length) (by omega) (by omega) (Nat.le_refl _)) (by omega) hb (a := k) (by omega)
          exact p.mono (Nat.le_refl _) (by simp only [List.length_append, List.length_singleton]; omega) (by simp only [List.length_append, List.length_singleton]; omega)
        · obtain ⟨e, hb⟩ := hr
          rw [List.append_nil, List.nil_append] at e
          have ly : spots.reverse.length ≤ 4 := by rw [List.length_reverse]; omega
          exact hb.mono (Nat.le_refl _) (by rw [List.nil_append]; omega) (by rw [List.nil_append]; omega)

/-! the law -/
theorem shw_prs {ps qs : List Pr} (h : ∀ p ∈ ps, PairOk 10 p) (h2 : ∀ p ∈ qs, PairOk 10 p) (l : ps.length ≤ 50) (l2 : qs.length ≤ 50) : Shw (eL (eT (eP2 eI eI)) [ps, qs]) := by
  have a : ∀ x ∈ [ps, qs], Sm (eT (eP2 eI eI) x) 20 1000 := fun x hx => by
    simp only [List.mem_cons, List.not_mem_nil, or_false] at hx
    rcases hx with rfl | rfl
    · exact (sm_prs (n := 10) (by omega) h (by omega)).mono (by omega) (by omega)
    · exact (sm_prs (n := 10) (by omega) h2 (by omega)).mono (by omega) (by omega)
  exact (sm_list (smAll_map (enc := eT (eP2 eI eI)) a)).shw (by omega) (by simp)
theorem shw_bl {xs : List Bool} (h : xs.length ≤ 10) : Shw (eL eB xs) := (sm_list (smAll_map (enc := eB) (k := 0) (n := 0) fun y _ => sm_bool)).shw (by omega) (by omega)
theorem pairOk_to {n m : Int} {p : Pr} (h : PairOk n p) (l : n ≤ m) : PairOk m p := by unfold PairOk at *; omega
theorem made_t {w : WebT} (h : IsWeb w) {k : (List Pr) → W (W.Fl Unit Bool)} :
    (W.bind (W.chk (Shw (eWb w)) (eWb w).shown) fun a => W.bind (W.compC w.2.2 (fun p => _law_is_bridge_w w p) fun p => W.pure p) fun b => W.bind (bridges_w w) fun c => W.bind (bridges_w w) fun d =>
      W.bind (W.chk (Shw (eL (eT (eP2 eI eI)) [c, d])) (eL (eT (eP2 eI eI)) [c, d]).shown) fun e => W.bind (W.chk (Shw (eL (eT (eP2 eI eI)) [b, b])) (eL (eT (eP2 eI eI)) [b, b]).shown) fun f =>
        W.bind (W.ite (!decide (e = f)) (W.pure true) (W.bind (W.chk (Shw (eWb w)) (eWb w).shown) fun g => W.pure !decide (g = a))) fun z => W.ite z (W.pure (W.Fl.rt false)) (W.pure (W.Fl.nx () : W.Fl Unit Bool))).wp (· = W.Fl.nx ()) := by
  have hi := h.hi
  have lo := h.lo
  have l := h.ps.len45 (by omega) hi
  rw [W.chk_of (shw_web h), W.pure_bind]
  refine is_bind (v := brs w.2.1 w.2.2) (compC_isF (fun p => decide (ncp w.2.1 w.2.2 < ncp w.2.1 (wout w.2.2 p))) (by omega) fun p _ => law_is_bridge_t h p) ?_
  rw [bridges_eq h, W.pure_bind, W.pure_bind]
  have ok : ∀ p ∈ brs w.2.1 w.2.2, PairOk 10 p := fun p hp => pairOk_to (h.ps.ok p (List.mem_filter.mp hp).1) hi
  have le : (brs w.2.1 w.2.2).length ≤ 50 := Nat.le_trans (List.length_filter_le _ _) (by omega)
  show (W.bind (W.chk (Shw (eL (eT (eP2 eI eI)) [brs w.2.1 w.2.2, brs w.2.1 w.2.2])) _) fun e => W.bind (W.chk (Shw (eL (eT (eP2 eI eI)) [brs w.2.1 w.2.2, brs w.2.1 w.2.2])) _) _).wp _
  rw [W.chk_of (shw_prs ok ok le le), W.pure_bind, W.pure_bind, decide_eq_true rfl, Bool.not_true, W.ite_f, W.pure_bind, W.pure_bind, decide_eq_true rfl, Bool.not_true, W.ite_f]
  exact rfl
theorem law_joined_t {d : PyData} {m k : Nat} {dk lk : Bool} {b : Nat} (h : Ni m dk lk k b d) (hm : m ≤ 100000) : (_law_is_joined_w d).wp (· = jnA d) := by
  unfold _law_is_joined_w
  simp only [W.pure_bind, W.bind_assoc, law_is_web_A9 h hm, jnA]
  cases q : isWb d with
  | false => exact rfl
  | true =>
    obtain ⟨w, rfl, hw⟩ := isWb_iff.mp q
    have lo := hw.lo
    have hi := hw.hi
    rw [W.ite_t, wbOf_eWb, Bool.true_and, seqA_tup, W.get_some]
    simp only [W.pure_bind, W.bind_assoc, at3_1, at3_2, W.anyI, W.get_some, prs_get]
    refine law_pieces_t2 (by omega) (by omega) hw.ps.ok fun r hr => ?_
    show decide _ = jnW w
    unfold jnW
    rw [hr, Bool.eq_iff_iff, decide_eq_true_iff, decide_eq_true_iff]
    omega
theorem web_get (w : WebT) : W.anyP (W.three (W.anyW "web") W.anyI (W.anyT (W.anyP (W.two W.anyI W.anyI)))) (eWb w) = some w := by
  show W.three (W.anyW "web") W.anyI (W.anyT (W.anyP (W.two W.anyI W.anyI))) [eW "web" w.1, eI w.2.1, eT (eP2 eI eI) w.2.2] = some w
  simp only [W.three, W.anyW, W.anyI, prs_get, if_true, Option.bind_some]
theorem law_firm_t {d : PyData} {m k : Nat} {dk lk : Bool} {b : Nat} (h : Ni m dk lk k b d) (hm : m ≤ 100000) : (_law_is_firm_w d).wp (· = fmA d) := by
  unfold _law_is_firm_w
  simp only [W.pure_bind, W.bind_assoc]
  refine is_bind (law_joined_t h hm) ?_
  unfold jnA fmA fmW
  cases q : isWb d with
  | false => exact rfl
  | true =>
    obtain ⟨w, rfl, hw⟩ := isWb_iff.mp q
    have lo := hw.lo
    have hi := hw.hi
    have l := hw.ps.len45 (by omega) hi
    simp only [wbOf_eWb, Bool.true_and]
    cases jnW w with
    | false => exact rfl
    | true =>
      rw [W.ite_t, seqA_tup, W.get_some]
      simp only [W.pure_bind, W.bind_assoc, at3_2, anyT_tup, W.get_some]
      have one : ∀ x ∈ w.2.2.map (eP2 eI eI), (W.bind (W.get (W.anyP (W.three (W.anyW "web") W.anyI (W.anyT (W.anyP (W.two W.anyI W.anyI)))) (eWb w))) fun v => W.bind (W.get (W.anyP (W.two W.anyI W.anyI) x)) fun p => _law_is_bridge_w v p).wp (· = match x with | .tuple [.int a, .int b] => decide (ncp w.2.1 w.2.2 < ncp w.2.1 (wout w.2.2 (a, b))) | _ => false) := fun x hx => by
        obtain ⟨p, hp, rfl⟩ := List.mem_map.mp hx
        have e : W.anyP (W.two W.anyI W.anyI) (eP2 eI eI p) = some p := rfl
        rw [web_get, W.get_some, W.pure_bind, e, W.get_some, W.pure_bind]
        exact law_is_bridge_t hw p
      refine is_bind (compC_isM _ (by rw [List.length_map]; omega) one) ?_
      show (!(List.map _ (w.2.2.map (eP2 eI eI))).any id) = (true && decide (brs w.2.1 w.2.2 = []))
      rw [List.map_map, List.any_map, Bool.true_and, Bool.eq_iff_iff, decide_eq_true_iff]
      unfold brs
      rw [List.filter_eq_nil_iff, Bool.not_eq_true', List.any_eq_false]
      exact ⟨fun z p hp => z p hp, fun z p hp => z p hp⟩
theorem value_t {v : PyData} (h : Bd 64 20 6000 v) :
    (W.bind (_law_is_joined_w v) fun a => W.bind (_law_is_firm_w v) fun b => W.bind (W.chk (Shw (eA v)) (eA v).shown) fun c => W.bind (is_joined_w v) fun d => W.bind (is_firm_2_w v) fun e => W.bind (is_joined_w v) fun f => W.bind (is_firm_2_w v) fun g =>
      W.bind (W.chk (Shw (eL eB [d, e, f, g])) (eL eB [d, e, f, g]).shown) fun p => W.bind (W.chk ([a, b].length + [a, b].length ≤ 1000000) ([a, b] ++ [a, b])) fun q => W.bind (W.chk (Shw (eL eB q)) (eL eB q).shown) fun r =>
        W.bind (W.ite (!decide (p = r)) (W.pure true) (W.bind (W.chk (Shw (eA v)) (eA v).shown) fun s => W.pure !decide (s = c))) fun z => W.ite z (W.pure (W.Fl.rt false)) (W.pure (W.Fl.nx () : W.Fl Unit Bool))).wp (· = W.Fl.nx ()) := by
  have e1 : is_joined_w v = W.pure (jnA v) := by
    simp only [is_joined_w, W.pure_bind, W.bind_pure]
    exact h.elim (fun z => is_joined_value_A z (by omega)) fun z => is_joined_value_A z (by omega)
  have e2 : is_firm_2_w v = W.pure (fmA v) := by
    simp only [is_firm_2_w, W.pure_bind, W.bind_pure]
    exact h.elim (fun z => is_firm_value_A z (by omega)) fun z => is_firm_value_A z (by omega)
  refine is_bind (h.elim (fun z => law_joined_t z (by omega)) fun z => law_joined_t z (by omega)) ?_
  refine is_bind (h.elim (fun z => law_firm_t z (by omega)) fun z => law_firm_t z (by omega)) ?_
  have sh : Shw (eA v) := h.shw
  rw [W.chk_of sh, W.pure_bind, e1, W.pure_bind, e2, W.pure_bind, W.pure_bind, W.pure_bind, W.chk_of (shw_bl (by simp)), W.pure_bind, W.chk_of (by simp), W.pure_bind]
  show (W.bind (W.chk (Shw (eL eB [jnA v, fmA v, jnA v, fmA v])) _) _).wp _
  rw [W.chk_of (shw_bl (by simp)), W.pure_bind]
  show (W.bind (W.ite (!decide ((eL eB [jnA v, fmA v, jnA v, fmA v]).shown = (eL eB [jnA v, fmA v, jnA v, fmA v]).shown)) _ _) _).wp _
  rw [decide_eq_true rfl, Bool.not_true, W.ite_f, W.pure_bind, W.pure_bind, decide_eq_true rfl, Bool.not_true, W.ite_f]
  exact rfl
theorem forF_unit_wp {α : Type} {f : α → Unit → W (W.Fl Unit Bool)} : ∀ {xs : List α}, (∀ x ∈ xs, (f x ()).wp (· = W.Fl.nx ())) → (W.forF xs () f).wp (· = W.Fl.nx ())
  | [], _ => rfl
  | x :: xs, h => by
    unfold W.forF
    refine is_bind (h x List.mem_cons_self) ?_
    exact forF_unit_wp fun y hy => h y (List.mem_cons_of_mem _ hy)
theorem right_t : (_law_right_w ()).wp (· = true) := by
  unfold _law_right_w
  simp only [pbN, baN]
  refine law_web_t (by omega) (by omega) fun w1 h1 l1 => ?_
  refine law_forest_t fun w2 h2 l2 f2 => ?_
  refine law_ring_t fun w3 h3 l3 f3 => ?_
  refine law_two_t fun w4 h4 l4 => ?_
  have mem : ∀ w ∈ [w1, w2, w3, w4], IsWeb w ∧ w.2.1 ≤ 8 := fun w hw => by
    simp only [List.mem_cons, List.not_mem_nil, or_false] at hw
    rcases hw with rfl | rfl | rfl | rfl
    · exact ⟨h1, l1⟩
    · exact ⟨h2, l2⟩
    · exact ⟨h3, l3⟩
    · exact ⟨h4, l4⟩
  unfold W.thenF
  refine is_bind (forF_unit_wp fun w hw => made_t (mem w hw).1 (k := fun _ => W.fail)) ?_
  dsimp only
  have a1 : W.at' [w1, w2, w3, w4] 1 = W.pure w2 := W.get_of rfl
  have a2 : W.at' [w1, w2, w3, w4] 2 = W.pure w3 := W.get_of rfl
  rw [a1, W.pure_bind, bridges_eq h2, W.pure_bind, W.pure_bind, decide_eq_true f2, Bool.not_true, W.ite_f, a2, W.pure_bind]
  have ef : is_firm_w w3 = W.pure true := by
    simp only [is_firm_w, W.pure_bind, W.bind_pure, is_firm_value_eq h3, f3]
  rw [ef, W.pure_bind, W.pure_bind, decide_eq_true rfl, Bool.not_true, W.ite_f, W.chk_of (by simp), W.pure_bind, W.range1_eq (by omega) (by omega), W.pure_bind]
  have gd : ∀ {w : WebT}, IsWeb w → w.2.1 ≤ 8 → Bd 64 20 6000 (eWb w) := fun h l => .of ((og_web h l).ni.up (by omega) (by omega) (by omega))
  have cl : ∀ {r : PyData}, (Nc 64 false false r = true ∧ r.depth ≤ 8 ∧ r.bulk ≤ 5000) → Bd 64 20 6000 r := fun h => .of ⟨h.1, by have := h.2.1; omega, by have := h.2.2; omega⟩
  let I : List Int → List Int → List PyData → Prop := fun ys zs s => (∀ v ∈ s, Bd 64 20 6000 v) ∧ s.length = 11 + ys.length ∧ ys.length + zs.length = 8
  have start : I [] (W.rangeI 0 8) (List.map (eP3 (eW "web") eI (eT (eP2 eI eI))) [w1, w2, w3, w4] ++ [eU (), eI 0, eT eI [], eW "web" (), eP3 (eW "web") eI (eT eI) ((), 1, []), eP3 (eW "web") eI (eT eI) ((), 2, []), eP3 (eW "web") eI (eP1 (eP2 eI eI)) ((), 2, 0, 1)]) := by
    refine ⟨fun v hv => ?_, by simp, by rw [W.rangeI_length]; rfl⟩
    rcases List.mem_append.mp hv with hv | hv
    · obtain ⟨w, hw, rfl⟩ := List.mem_map.mp hv
      exact gd (mem w hw).1 (mem w hw).2
    · simp only [List.mem_cons, List.not_mem_nil, or_false] at hv
      rcases hv with rfl | rfl | rfl | rfl | rfl | rfl | rfl
      all_goals exact cl (by decide +kernel)
  refine W.bind_wp (W.forS_wp I start fun ys x zs s hI => ?_) fun s hs => ?_
  · obtain ⟨hv, hl, hz⟩ := hI
    rw [List.length_cons] at hz
    refine W.bind_wp (Q := fun w : WebT => IsWeb w ∧ w.2.1 ≤ 8) (law_pick_t (fun s => by simp only [_law_pick_2_w, W.pure_bind, W.bind_assoc, W.bind_pure]) (by simp) (by simp) fun w hw => mem w hw) fun w hw => ?_
    refine W.bind_wp (bent_t hw.1 hw.2) fun r hr => ?_
    unfold W.app
    rw [W.chk_of (by omega), W.pure_bind]
    refine ⟨fun v hm => ?_, by simp only [List.length_append, List.length_singleton]; omega, by simp only [List.length_append, List.length_singleton]; omega⟩
    rcases List.mem_append.mp hm with z | z
    · exact hv v z
    · rw [List.mem_singleton.mp z]; exact hr
  · refine is_bind (forF_unit_wp fun v hv => value_t (hs.1 v hv)) ?_
    exact rfl
theorem law_true (ns : List Int) (h : ns.length ≤ 63) : (law_w ns).wp (· = true) := law_of right_t

end K93
end
namespace K93
open PySem PySem.Spec PyProof.Rows L2 RZ HM
theorem law_sp {K : PySem.W.Frag} {H : Hp} {a : Addr} {ns : List Int} {E : XK} (hS : SqL K H a (ns.map V.int)) (hl : ns.length ≤ 63) : sp_law K [.ref a] H (fun v _ => v = .bl true) E :=
  ⟨H, ns, (· = true), Same.refl _, .cons (Dp.lst hS (dpAll_of_ints ns)) .nil, law_true ns hl, fun r v B2 H2 hr st d => by subst hr; cases d; rfl⟩
section
set_option maxHeartbeats 0 in
theorem all_mk {l : PySem.W.OpenLaw} {w : World} {K : PySem.W.Frag} {h : Heap} {mg : Str → Option Value} {fa : Addr} (X : K.In h) (G : h.Ns mainGlobals mg) (hfa : mg "law" = some (.ref fa))
    {f0 : Addr} {od0 an0 : Option Addr} {sl0 : Array (Option Value)} {oc0 kV0 dc0 pm0 cd0 ct0 : Value}
    {f1 : Addr} {od1 an1 : Option Addr} {sl1 : Array (Option Value)} {oc1 kV1 dc1 pm1 cd1 ct1 : Value}
    {f2 : Addr} {od2 an2 : Option Addr} {sl2 : Array (Option Value)} {oc2 kV2 dc2 pm2 cd2 ct2 : Value}
    {f3 : Addr} {od3 an3 : Option Addr} {sl3 : Array (Option Value)} {oc3 kV3 dc3 pm3 cd3 ct3 : Value}
    {f4 : Addr} {od4 an4 : Option Addr} {sl4 : Array (Option Value)} {oc4 kV4 dc4 pm4 cd4 ct4 : Value}
    {f5 : Addr} {od5 an5 : Option Addr} {sl5 : Array (Option Value)} {oc5 kV5 dc5 pm5 cd5 ct5 : Value}
    {f6 : Addr} {od6 an6 : Option Addr} {sl6 : Array (Option Value)} {oc6 kV6 dc6 pm6 cd6 ct6 : Value}
    {f7 : Addr} {od7 an7 : Option Addr} {sl7 : Array (Option Value)} {oc7 kV7 dc7 pm7 cd7 ct7 : Value}
    {f8 : Addr} {od8 an8 : Option Addr} {sl8 : Array (Option Value)} {oc8 kV8 dc8 pm8 cd8 ct8 : Value}
    {f9 : Addr} {od9 an9 : Option Addr} {sl9 : Array (Option Value)} {oc9 kV9 dc9 pm9 cd9 ct9 : Value}
    {f10 : Addr} {od10 an10 : Option Addr} {sl10 : Array (Option Value)} {oc10 kV10 dc10 pm10 cd10 ct10 : Value}
    {f11 : Addr} {od11 an11 : Option Addr} {sl11 : Array (Option Value)} {oc11 kV11 dc11 pm11 cd11 ct11 : Value}
    {f12 : Addr} {od12 an12 : Option Addr} {sl12 : Array (Option Value)} {oc12 kV12 dc12 pm12 cd12 ct12 : Value}
    {f13 : Addr} {od13 an13 : Option Addr} {sl13 : Array (Option Value)} {oc13 kV13 dc13 pm13 cd13 ct13 : Value}
    {f14 : Addr} {od14 an14 : Option Addr} {sl14 : Array (Option Value)} {oc14 kV14 dc14 pm14 cd14 ct14 : Value}
    {f15 : Addr} {od15 an15 : Option Addr} {sl15 : Array (Option Value)} {oc15 kV15 dc15 pm15 cd15 ct15 : Value}
    {f16 : Addr} {od16 an16 : Option Addr} {sl16 : Array (Option Value)} {oc16 kV16 dc16 pm16 cd16 ct16 : Value}
    {f17 : Addr} {od17 an17 : Option Addr} {sl17 : Array (Option Value)} {oc17 kV17 dc17 pm17 cd17 ct17 : Value}
    {f18 : Addr} {od18 an18 : Option Addr} {sl18 : Array (Option Value)} {oc18 kV18 dc18 pm18 cd18 ct18 : Value}
    {f19 : Addr} {od19 an19 : Option Addr} {sl19 : Array (Option Value)} {oc19 kV19 dc19 pm19 cd19 ct19 : Value}
    {f20 : Addr} {od20 an20 : Option Addr} {sl20 : Array (Option Value)} {oc20 kV20 dc20 pm20 cd20 ct20 : Value}
    {f21 : Addr} {od21 an21 : Option Addr} {sl21 : Array (Option Value)} {oc21 kV21 dc21 pm21 cd21 ct21 : Value}
    {f22 : Addr} {od22 an22 : Option Addr} {sl22 : Array (Option Value)} {oc22 kV22 dc22 pm22 cd22 ct22 : Value}
    {f23 : Addr} {od23 an23 : Option Addr} {sl23 : Array (Option Value)} {oc23 kV23 dc23 pm23 cd23 ct23 : Value}
    {f24 : Addr} {od24 an24 : Option Addr} {sl24 : Array (Option Value)} {oc24 kV24 dc24 pm24 cd24 ct24 : Value}
    {f25 : Addr} {od25 an25 : Option Addr} {sl25 : Array (Option Value)} {oc25 kV25 dc25 pm25 cd25 ct25 : Value}
    {f26 : Addr} {od26 an26 : Option Addr} {sl26 : Array (Option Value)} {oc26 kV26 dc26 pm26 cd26 ct26 : Value}
    {f27 : Addr} {od27 an27 : Option Addr} {sl27 : Array (Option Value)} {oc27 kV27 dc27 pm27 cd27 ct27 : Value}
    {f28 : Addr} {od28 an28 : Option Addr} {sl28 : Array (Option Value)} {oc28 kV28 dc28 pm28 cd28 ct28 : Value}
    {f29 : Addr} {od29 an29 : Option Addr} {sl29 : Array (Option Value)} {oc29 kV29 dc29 pm29 cd29 ct29 : Value}
    {f30 : Addr} {od30 an30 : Option Addr} {sl30 : Array (Option Value)} {oc30 kV30 dc30 pm30 cd30 ct30 : Value}
    {f31 : Addr} {od31 an31 : Option Addr} {sl31 : Array (Option Value)} {oc31 kV31 dc31 pm31 cd31 ct31 : Value}
    {t_MOST_PERSONS : Tok}
    (a0 : PySem.W.nsIn K mainGlobals "_law_pot" = some (some (.ref f0))) (l0 : K.lookup f0 = some ⟨oc0, od0, .func (PySem.W.fnOf "_law_pot" "_law_pot" (defArgs s__law_pot) (defBody s__law_pot) (defScope s__law_pot) .none kV0 dc0 pm0 an0 cd0 ct0), sl0⟩) (c0 : PySem.W.codeIn K cd0 "_law_pot" = true) (k0 : PySem.W.keepIn K (.ref f0) = true)
    (a1 : PySem.W.nsIn K mainGlobals "_law_draw" = some (some (.ref f1))) (l1 : K.lookup f1 = some ⟨oc1, od1, .func (PySem.W.fnOf "_law_draw" "_law_draw" (defArgs s__law_draw) (defBody s__law_draw) (defScope s__law_draw) .none kV1 dc1 pm1 an1 cd1 ct1), sl1⟩) (c1 : PySem.W.codeIn K cd1 "_law_draw" = true) (k1 : PySem.W.keepIn K (.ref f1) = true)
    (a2 : PySem.W.nsIn K mainGlobals "_law_pick" = some (some (.ref f2))) (l2 : K.lookup f2 = some ⟨oc2, od2, .func (PySem.W.fnOf "_law_pick" "_law_pick" (defArgs s__law_pick) (defBody s__law_pick) (defScope s__law_pick) .none kV2 dc2 pm2 an2 cd2 ct2), sl2⟩) (c2 : PySem.W.codeIn K cd2 "_law_pick" = true) (k2 : PySem.W.keepIn K (.ref f2) = true)
    (a3 : PySem.W.nsIn K mainGlobals "_law_all_pairs" = some (some (.ref f3))) (l3 : K.lookup f3 = some ⟨oc3, od3, .func (PySem.W.fnOf "_law_all_pairs" "_law_all_pairs" (defArgs s__law_all_pairs) (defBody s__law_all_pairs) (defScope s__law_all_pairs) .none kV3 dc3 pm3 an3 cd3 ct3), sl3⟩) (c3 : PySem.W.codeIn K cd3 "_law_all_pairs" = true) (k3 : PySem.W.keepIn K (.ref f3) = true)
    (a4 : PySem.W.nsIn K mainGlobals "_law_web" = some (some (.ref f4))) (l4 : K.lookup f4 = some ⟨oc4, od4, .func (PySem.W.fnOf "_law_web" "_law_web" (defArgs s__law_web) (defBody s__law_web) (defScope s__law_web) .none kV4 dc4 pm4 an4 cd4 ct4), sl4⟩) (c4 : PySem.W.codeIn K cd4 "_law_web" = true) (k4 : PySem.W.keepIn K (.ref f4) = true)
    (a5 : PySem.W.nsIn K mainGlobals "_law_mixed" = some (some (.ref f5))) (l5 : K.lookup f5 = some ⟨oc5, od5, .func (PySem.W.fnOf "_law_mixed" "_law_mixed" (defArgs s__law_mixed) (defBody s__law_mixed) (defScope s__law_mixed) .none kV5 dc5 pm5 an5 cd5 ct5), sl5⟩) (c5 : PySem.W.codeIn K cd5 "_law_mixed" = true) (k5 : PySem.W.keepIn K (.ref f5) = true)
    (a6 : PySem.W.nsIn K mainGlobals "_law_forest" = some (some (.ref f6))) (l6 : K.lookup f6 = some ⟨oc6, od6, .func (PySem.W.fnOf "_law_forest" "_law_forest" (defArgs s__law_forest) (defBody s__law_forest) (defScope s__law_forest) .none kV6 dc6 pm6 an6 cd6 ct6), sl6⟩) (c6 : PySem.W.codeIn K cd6 "_law_forest" = true) (k6 : PySem.W.keepIn K (.ref f6) = true)
    (a7 : PySem.W.nsIn K mainGlobals "_law_ring" = some (some (.ref f7))) (l7 : K.lookup f7 = some ⟨oc7, od7, .func (PySem.W.fnOf "_law_ring" "_law_ring" (defArgs s__law_ring) (defBody s__law_ring) (defScope s__law_ring) .none kV7 dc7 pm7 an7 cd7 ct7), sl7⟩) (c7 : PySem.W.codeIn K cd7 "_law_ring" = true) (k7 : PySem.W.keepIn K (.ref f7) = true)
    (a8 : PySem.W.nsIn K mainGlobals "_law_two" = some (some (.ref f8))) (l8 : K.lookup f8 = some ⟨oc8, od8, .func (PySem.W.fnOf "_law_two" "_law_two" (defArgs s__law_two) (defBody s__law_two) (defScope s__law_two) .none kV8 dc8 pm8 an8 cd8 ct8), sl8⟩) (c8 : PySem.W.codeIn K cd8 "_law_two" = true) (k8 : PySem.W.keepIn K (.ref f8) = true)
    (a9 : PySem.W.nsIn K mainGlobals "_law_pieces" = some (some (.ref f9))) (l9 : K.lookup f9 = some ⟨oc9, od9, .func (PySem.W.fnOf "_law_pieces" "_law_pieces" (defArgs s__law_pieces) (defBody s__law_pieces) (defScope s__law_pieces) .none kV9 dc9 pm9 an9 cd9 ct9), sl9⟩) (c9 : PySem.W.codeIn K cd9 "_law_pieces" = true) (k9 : PySem.W.keepIn K (.ref f9) = true)
    (a10 : PySem.W.nsIn K mainGlobals "_law_is_bridge" = some (some (.ref f10))) (l10 : K.lookup f10 = some ⟨oc10, od10, .func (PySem.W.fnOf "_law_is_bridge" "_law_is_bridge" (defArgs s__law_is_bridge) (defBody s__law_is_bridge) (defScope s__law_is_bridge) .none kV10 dc10 pm10 an10 cd10 ct10), sl10⟩) (c10 : PySem.W.codeIn K cd10 "_law_is_bridge" = true) (k10 : PySem.W.keepIn K (.ref f10) = true)
    (a11 : PySem.W.nsIn K mainGlobals "is_tuple" = some (some (.ref f11))) (l11 : K.lookup f11 = some ⟨oc11, od11, .func (PySem.W.fnOf "is_tuple" "is_tuple" (defArgs s_is_tuple) (defBody s_is_tuple) (defScope s_is_tuple) .none kV11 dc11 pm11 an11 cd11 ct11), sl11⟩) (c11 : PySem.W.codeIn K cd11 "is_tuple" = true) (k11 : PySem.W.keepIn K (.ref f11) = true)
    (a12 : PySem.W.nsIn K mainGlobals "is_integer" = some (some (.ref f12))) (l12 : K.lookup f12 = some ⟨oc12, od12, .func (PySem.W.fnOf "is_integer" "is_integer" (defArgs s_is_integer) (defBody s_is_integer) (defScope s_is_integer) .none kV12 dc12 pm12 an12 cd12 ct12), sl12⟩) (c12 : PySem.W.codeIn K cd12 "is_integer" = true) (k12 : PySem.W.keepIn K (.ref f12) = true)
    (a13 : PySem.W.nsIn K mainGlobals "is_within" = some (some (.ref f13))) (l13 : K.lookup f13 = some ⟨oc13, od13, .func (PySem.W.fnOf "is_within" "is_within" (defArgs s_is_within) (defBody s_is_within) (defScope s_is_within) .none kV13 dc13 pm13 an13 cd13 ct13), sl13⟩) (c13 : PySem.W.codeIn K cd13 "is_within" = true) (k13 : PySem.W.keepIn K (.ref f13) = true)
    (a14 : PySem.W.nsIn K mainGlobals "is_pair_of" = some (some (.ref f14))) (l14 : K.lookup f14 = some ⟨oc14, od14, .func (PySem.W.fnOf "is_pair_of" "is_pair_of" (defArgs s_is_pair_of) (defBody s_is_pair_of) (defScope s_is_pair_of) .none kV14 dc14 pm14 an14 cd14 ct14), sl14⟩) (c14 : PySem.W.codeIn K cd14 "is_pair_of" = true) (k14 : PySem.W.keepIn K (.ref f14) = true)
    (a15 : PySem.W.nsIn K mainGlobals "are_pairs_of" = some (some (.ref f15))) (l15 : K.lookup f15 = some ⟨oc15, od15, .func (PySem.W.fnOf "are_pairs_of" "are_pairs_of" (defArgs s_are_pairs_of) (defBody s_are_pairs_of) (defScope s_are_pairs_of) .none kV15 dc15 pm15 an15 cd15 ct15), sl15⟩) (c15 : PySem.W.codeIn K cd15 "are_pairs_of" = true) (k15 : PySem.W.keepIn K (.ref f15) = true)
    (a16 : PySem.W.nsIn K mainGlobals "is_web_value" = some (some (.ref f16))) (l16 : K.lookup f16 = some ⟨oc16, od16, .func (PySem.W.fnOf "is_web_value" "is_web_value" (defArgs s_is_web_value) (defBody s_is_web_value) (defScope s_is_web_value) .none kV16 dc16 pm16 an16 cd16 ct16), sl16⟩) (c16 : PySem.W.codeIn K cd16 "is_web_value" = true) (k16 : PySem.W.keepIn K (.ref f16) = true)
    (a17 : PySem.W.nsIn K mainGlobals "want_web" = some (some (.ref f17))) (l17 : K.lookup f17 = some ⟨oc17, od17, .func (PySem.W.fnOf "want_web" "want_web" (defArgs s_want_web) (defBody s_want_web) (defScope s_want_web) .none kV17 dc17 pm17 an17 cd17 ct17), sl17⟩) (c17 : PySem.W.codeIn K cd17 "want_web" = true) (k17 : PySem.W.keepIn K (.ref f17) = true)
    (a18 : PySem.W.nsIn K mainGlobals "pieces_of" = some (some (.ref f18))) (l18 : K.lookup f18 = some ⟨oc18, od18, .func (PySem.W.fnOf "pieces_of" "pieces_of" (defArgs s_pieces_of) (defBody s_pieces_of) (defScope s_pieces_of) .none kV18 dc18 pm18 an18 cd18 ct18), sl18⟩) (c18 : PySem.W.codeIn K cd18 "pieces_of" = true) (k18 : PySem.W.keepIn K (.ref f18) = true)
    (a19 : PySem.W.nsIn K mainGlobals "bridges_of" = some (some (.ref f19))) (l19 : K.lookup f19 = some ⟨oc19, od19, .func (PySem.W.fnOf "bridges_of" "bridges_of" (defArgs s_bridges_of) (defBody s_bridges_of) (defScope s_bridges_of) .none kV19 dc19 pm19 an19 cd19 ct19), sl19⟩) (c19 : PySem.W.codeIn K cd19 "bridges_of" = true) (k19 : PySem.W.keepIn K (.ref f19) = true)
    (a20 : PySem.W.nsIn K mainGlobals "bridges" = some (some (.ref f20))) (l20 : K.lookup f20 = some ⟨oc20, od20, .func (PySem.W.fnOf "bridges" "bridges" (defArgs s_bridges) (defBody s_bridges) (defScope s_bridges) .none kV20 dc20 pm20 an20 cd20 ct20), sl20⟩) (c20 : PySem.W.codeIn K cd20 "bridges" = true) (k20 : PySem.W.keepIn K (.ref f20) = true)
    (a21 : PySem.W.nsIn K mainGlobals "is_joined_value" = some (some (.ref f21))) (l21 : K.lookup f21 = some ⟨oc21, od21, .func (PySem.W.fnOf "is_joined_value" "is_joined_value" (defArgs s_is_joined_value) (defBody s_is_joined_value) (defScope s_is_joined_value) .none kV21 dc21 pm21 an21 cd21 ct21), sl21⟩) (c21 : PySem.W.codeIn K cd21 "is_joined_value" = true) (k21 : PySem.W.keepIn K (.ref f21) = true)
    (a22 : PySem.W.nsIn K mainGlobals "is_firm_value" = some (some (.ref f22))) (l22 : K.lookup f22 = some ⟨oc22, od22, .func (PySem.W.fnOf "is_firm_value" "is_firm_value" (defArgs s_is_firm_value) (defBody s_is_firm_value) (defScope s_is_firm_value) .none kV22 dc22 pm22 an22 cd22 ct22), sl22⟩) (c22 : PySem.W.codeIn K cd22 "is_firm_value" = true) (k22 : PySem.W.keepIn K (.ref f22) = true)
    (a23 : PySem.W.nsIn K mainGlobals "is_firm" = some (some (.ref f23))) (l23 : K.lookup f23 = some ⟨oc23, od23, .func (PySem.W.fnOf "is_firm" "is_firm" (defArgs s_is_firm) (defBody s_is_firm) (defScope s_is_firm) .none kV23 dc23 pm23 an23 cd23 ct23), sl23⟩) (c23 : PySem.W.codeIn K cd23 "is_firm" = true) (k23 : PySem.W.keepIn K (.ref f23) = true)
    (a24 : PySem.W.nsIn K mainGlobals "_law_bent" = some (some (.ref f24))) (l24 : K.lookup f24 = some ⟨oc24, od24, .func (PySem.W.fnOf "_law_bent" "_law_bent" (defArgs s__law_bent) (defBody s__law_bent) (defScope s__law_bent) .none kV24 dc24 pm24 an24 cd24 ct24), sl24⟩) (c24 : PySem.W.codeIn K cd24 "_law_bent" = true) (k24 : PySem.W.keepIn K (.ref f24) = true)
    (a25 : PySem.W.nsIn K mainGlobals "_law_is_whole" = some (some (.ref f25))) (l25 : K.lookup f25 = some ⟨oc25, od25, .func (PySem.W.fnOf "_law_is_whole" "_law_is_whole" (defArgs s__law_is_whole) (defBody s__law_is_whole) (defScope s__law_is_whole) .none kV25 dc25 pm25 an25 cd25 ct25), sl25⟩) (c25 : PySem.W.codeIn K cd25 "_law_is_whole" = true) (k25 : PySem.W.keepIn K (.ref f25) = true)
    (a26 : PySem.W.nsIn K mainGlobals "_law_is_web" = some (some (.ref f26))) (l26 : K.lookup f26 = some ⟨oc26, od26, .func (PySem.W.fnOf "_law_is_web" "_law_is_web" (defArgs s__law_is_web) (defBody s__law_is_web) (defScope s__law_is_web) .none kV26 dc26 pm26 an26 cd26 ct26), sl26⟩) (c26 : PySem.W.codeIn K cd26 "_law_is_web" = true) (k26 : PySem.W.keepIn K (.ref f26) = true)
    (a27 : PySem.W.nsIn K mainGlobals "_law_is_joined" = some (some (.ref f27))) (l27 : K.lookup f27 = some ⟨oc27, od27, .func (PySem.W.fnOf "_law_is_joined" "_law_is_joined" (defArgs s__law_is_joined) (defBody s__law_is_joined) (defScope s__law_is_joined) .none kV27 dc27 pm27 an27 cd27 ct27), sl27⟩) (c27 : PySem.W.codeIn K cd27 "_law_is_joined" = true) (k27 : PySem.W.keepIn K (.ref f27) = true)
    (a28 : PySem.W.nsIn K mainGlobals "_law_is_firm" = some (some (.ref f28))) (l28 : K.lookup f28 = some ⟨oc28, od28, .func (PySem.W.fnOf "_law_is_firm" "_law_is_firm" (defArgs s__law_is_firm) (defBody s__law_is_firm) (defScope s__law_is_firm) .none kV28 dc28 pm28 an28 cd28 ct28), sl28⟩) (c28 : PySem.W.codeIn K cd28 "_law_is_firm" = true) (k28 : PySem.W.keepIn K (.ref f28) = true)
    (a29 : PySem.W.nsIn K mainGlobals "is_joined" = some (some (.ref f29))) (l29 : K.lookup f29 = some ⟨oc29, od29, .func (PySem.W.fnOf "is_joined" "is_joined" (defArgs s_is_joined) (defBody s_is_joined) (defScope s_is_joined) .none kV29 dc29 pm29 an29 cd29 ct29), sl29⟩) (c29 : PySem.W.codeIn K cd29 "is_joined" = true) (k29 : PySem.W.keepIn K (.ref f29) = true)
    (a30 : PySem.W.nsIn K mainGlobals "_law_right" = some (some (.ref f30))) (l30 : K.lookup f30 = some ⟨oc30, od30, .func (PySem.W.fnOf "_law_right" "_law_right" (defArgs s__law_right) (defBody s__law_right) (defScope s__law_right) .none kV30 dc30 pm30 an30 cd30 ct30), sl30⟩) (c30 : PySem.W.codeIn K cd30 "_law_right" = true) (k30 : PySem.W.keepIn K (.ref f30) = true)
    (a31 : PySem.W.nsIn K mainGlobals "law" = some (some (.ref f31))) (l31 : K.lookup f31 = some ⟨oc31, od31, .func (PySem.W.fnOf "law" "law" (defArgs s_law) (defBody s_law) (defScope s_law) .none kV31 dc31 pm31 an31 cd31 ct31), sl31⟩) (c31 : PySem.W.codeIn K cd31 "law" = true) (k31 : PySem.W.keepIn K (.ref f31) = true)
    (q_MOST_PERSONS : PySem.W.nsIn K mainGlobals "MOST_PERSONS" = some (some (.int 10 t_MOST_PERSONS)))
    (z_len : PySem.W.nsIn K mainGlobals "len" = some none)
    (z_tuple : PySem.W.nsIn K mainGlobals "tuple" = some none)
    (z_list : PySem.W.nsIn K mainGlobals "list" = some none)
    (z_range : PySem.W.nsIn K mainGlobals "range" = some none)
    (z_max : PySem.W.nsIn K mainGlobals "max" = some none)
    (z_min : PySem.W.nsIn K mainGlobals "min" = some none)
    (z_sum : PySem.W.nsIn K mainGlobals "sum" = some none)
    (z_all : PySem.W.nsIn K mainGlobals "all" = some none)
    (z_any : PySem.W.nsIn K mainGlobals "any" = some none)
    (z_sorted : PySem.W.nsIn K mainGlobals "sorted" = some none)
    (z_int : PySem.W.nsIn K mainGlobals "int" = some none)
    (z_bool : PySem.W.nsIn K mainGlobals "bool" = some none)
    (z_str : PySem.W.nsIn K mainGlobals "str" = some none)
    (z_abs : PySem.W.nsIn K mainGlobals "abs" = some none)
    (z_divmod : PySem.W.nsIn K mainGlobals "divmod" = some none)
    (z_isinstance : PySem.W.nsIn K mainGlobals "isinstance" = some none)
    (z_zip : PySem.W.nsIn K mainGlobals "zip" = some none)
    (z_enumerate : PySem.W.nsIn K mainGlobals "enumerate" = some none)
    (z_repr : PySem.W.nsIn K mainGlobals "repr" = some none)
    (z_set : PySem.W.nsIn K mainGlobals "set" = some none)
    : ∃ fd : FuncData, (∀ (s : Shared) (v : Value), BindsTo s fd ⟨[v], []⟩ [("script", v)]) ∧ ∀ base : Heap, K.In base → base.Ns mainGlobals mg → FnG l.prog w K mg base 10 fa fd ["script"] (sp_law K) := by
  have e := hfa.symm.trans (PySem.W.mg_of X G a31)
  cases e
  have Bl : Blt mg := ⟨PySem.W.mg_none_of X G z_len, PySem.W.mg_none_of X G z_tuple, PySem.W.mg_none_of X G z_list, PySem.W.mg_none_of X G z_range, PySem.W.mg_none_of X G z_max, PySem.W.mg_none_of X G z_min, PySem.W.mg_none_of X G z_sum, PySem.W.mg_none_of X G z_all, PySem.W.mg_none_of X G z_any, PySem.W.mg_none_of X G z_sorted, PySem.W.mg_none_of X G z_int, PySem.W.mg_none_of X G z_bool, PySem.W.mg_none_of X G z_str, PySem.W.mg_none_of X G z_abs, PySem.W.mg_none_of X G z_divmod, PySem.W.mg_none_of X G z_isinstance, PySem.W.mg_none_of X G z_zip, PySem.W.mg_none_of X G z_enumerate, PySem.W.mg_none_of X G z_repr, PySem.W.mg_none_of X G z_set⟩
  refine ⟨PySem.W.fnOf "law" "law" (defArgs s_law) (defBody s_law) (defScope s_law) .none kV31 dc31 pm31 an31 cd31 ct31, fun s v => .of_eq rfl, fun base _ _ => ?_⟩
  have F0 := fun_mk (st := s__law_pot) l0 c0 k0
  have b0 := F0.binds (ps := ["script", "k"]) fun _ _ _ _ _ _ us hl => match us, hl with | [_, _], _ => rfl
  have F1 := fun_mk (st := s__law_draw) l1 c1 k1
  have b1 := F1.binds (ps := ["pot", "many"]) fun _ _ _ _ _ _ us hl => match us, hl with | [_, _], _ => rfl
  have F2 := fun_mk (st := s__law_pick) l2 c2 k2
  have b2 := F2.binds (ps := ["pot", "some"]) fun _ _ _ _ _ _ us hl => match us, hl with | [_, _], _ => rfl
  have F3 := fun_mk (st := s__law_all_pairs) l3 c3 k3
  have b3 := F3.binds (ps := ["persons"]) fun _ _ _ _ _ _ us hl => match us, hl with | [_], _ => rfl
  have F4 := fun_mk (st := s__law_web) l4 c4 k4
  have b4 := F4.binds (ps := ["pot", "most"]) fun _ _ _ _ _ _ us hl => match us, hl with | [_, _], _ => rfl
  have F5 := fun_mk (st := s__law_mixed) l5 c5 k5
  have b5 := F5.binds (ps := ["pot", "many"]) fun _ _ _ _ _ _ us hl => match us, hl with | [_, _], _ => rfl
  have F6 := fun_mk (st := s__law_forest) l6 c6 k6
  have b6 := F6.binds (ps := ["pot", "most"]) fun _ _ _ _ _ _ us hl => match us, hl with | [_, _], _ => rfl
  have F7 := fun_mk (st := s__law_ring) l7 c7 k7
  have b7 := F7.binds (ps := ["pot"]) fun _ _ _ _ _ _ us hl => match us, hl with | [_], _ => rfl
  have F8 := fun_mk (st := s__law_two) l8 c8 k8
  have b8 := F8.binds (ps := ["pot"]) fun _ _ _ _ _ _ us hl => match us, hl with | [_], _ => rfl
  have F9 := fun_mk (st := s__law_pieces) l9 c9 k9
  have b9 := F9.binds (ps := ["persons", "pairs"]) fun _ _ _ _ _ _ us hl => match us, hl with | [_, _], _ => rfl
  have F10 := fun_mk (st := s__law_is_bridge) l10 c10 k10
  have b10 := F10.binds (ps := ["web", "pair"]) fun _ _ _ _ _ _ us hl => match us, hl with | [_, _], _ => rfl
  have F11 := fun_mk (st := s_is_tuple) l11 c11 k11
  have b11 := F11.binds (ps := ["value", "many"]) fun _ _ _ _ _ _ us hl => match us, hl with | [_, _], _ => rfl
  have F12 := fun_mk (st := s_is_integer) l12 c12 k12
  have b12 := F12.binds (ps := ["value"]) fun _ _ _ _ _ _ us hl => match us, hl with | [_], _ => rfl
  have F13 := fun_mk (st := s_is_within) l13 c13 k13
  have b13 := F13.binds (ps := ["value", "least", "most"]) fun _ _ _ _ _ _ us hl => match us, hl with | [_, _, _], _ => rfl
  have F14 := fun_mk (st := s_is_pair_of) l14 c14 k14
  have b14 := F14.binds (ps := ["persons", "value"]) fun _ _ _ _ _ _ us hl => match us, hl with | [_, _], _ => rfl
  have F15 := fun_mk (st := s_are_pairs_of) l15 c15 k15
  have b15 := F15.binds (ps := ["persons", "value"]) fun _ _ _ _ _ _ us hl => match us, hl with | [_, _], _ => rfl
  have F16 := fun_mk (st := s_is_web_value) l16 c16 k16
  have b16 := F16.binds (ps := ["value"]) fun _ _ _ _ _ _ us hl => match us, hl with | [_], _ => rfl
  have F17 := fun_mk (st := s_want_web) l17 c17 k17
  have b17 := F17.binds (ps := ["web"]) fun _ _ _ _ _ _ us hl => match us, hl with | [_], _ => rfl
  have F18 := fun_mk (st := s_pieces_of) l18 c18 k18
  have b18 := F18.binds (ps := ["persons", "pairs"]) fun _ _ _ _ _ _ us hl => match us, hl with | [_, _], _ => rfl
  have F19 := fun_mk (st := s_bridges_of) l19 c19 k19
  have b19 := F19.binds (ps := ["persons", "pairs"]) fun _ _ _ _ _ _ us hl => match us, hl with | [_, _], _ => rfl
  have F20 := fun_mk (st := s_bridges) l20 c20 k20
  have b20 := F20.binds (ps := ["web"]) fun _ _ _ _ _ _ us hl => match us, hl with | [_], _ => rfl
  have F21 := fun_mk (st := s_is_joined_value) l21 c21 k21
  have b21 := F21.binds (ps := ["value"]) fun _ _ _ _ _ _ us hl => match us, hl with | [_], _ => rfl
  have F22 := fun_mk (st := s_is_firm_value) l22 c22 k22
  have b22 := F22.binds (ps := ["value"]) fun _ _ _ _ _ _ us hl => match us, hl with | [_], _ => rfl
  have F23 := fun_mk (st := s_is_firm) l23 c23 k23
  have b23 := F23.binds (ps := ["value"]) fun _ _ _ _ _ _ us hl => match us, hl with | [_], _ => rfl
  have F24 := fun_mk (st := s__law_bent) l24 c24 k24
  have b24 := F24.binds (ps := ["pot", "value"]) fun _ _ _ _ _ _ us hl => match us, hl with | [_, _], _ => rfl
  have F25 := fun_mk (st := s__law_is_whole) l25 c25 k25
  have b25 := F25.binds (ps := ["value", "least", "most"]) fun _ _ _ _ _ _ us hl => match us, hl with | [_, _, _], _ => rfl
  have F26 := fun_mk (st := s__law_is_web) l26 c26 k26
  have b26 := F26.binds (ps := ["value"]) fun _ _ _ _ _ _ us hl => match us, hl with | [_], _ => rfl
  have F27 := fun_mk (st := s__law_is_joined) l27 c27 k27
  have b27 := F27.binds (ps := ["value"]) fun _ _ _ _ _ _ us hl => match us, hl with | [_], _ => rfl
  have F28 := fun_mk (st := s__law_is_firm) l28 c28 k28
  have b28 := F28.binds (ps := ["value"]) fun _ _ _ _ _ _ us hl => match us, hl with | [_], _ => rfl
  have F29 := fun_mk (st := s_is_joined) l29 c29 k29
  have b29 := F29.binds (ps := ["value"]) fun _ _ _ _ _ _ us hl => match us, hl with | [_], _ => rfl
  have F30 := fun_mk (st := s__law_right) l30 c30 k30
  have b30 := F30.binds (ps := ["pot"]) fun _ _ _ _ _ _ us hl => match us, hl with | [_], _ => rfl
  have F31 := fun_mk (st := s_law) l31 c31 k31
  have O__law_pot := ok__law_pot (P := l.prog) (w := w) (K := K) (mg := mg) (base := base) F0 Bl
  have D__law_pot : HM.ClG l.prog w K mg base 1 "_law_pot" (sp__law_pot K) := ⟨f0, _, _, O__law_pot, PySem.W.mg_of X G a0, k0, b0⟩
  have O__law_draw := ok__law_draw (P := l.prog) (w := w) (K := K) (mg := mg) (base := base) F1 Bl
  have D__law_draw : HM.ClG l.prog w K mg base 1 "_law_draw" (sp__law_draw K) := ⟨f1, _, _, O__law_draw, PySem.W.mg_of X G a1, k1, b1⟩
  have O__law_pick := ok__law_pick (P := l.prog) (w := w) (K := K) (mg := mg) (base := base) F2 Bl D__law_draw
  have D__law_pick : HM.ClG l.prog w K mg base 2 "_law_pick" (sp__law_pick K) := ⟨f2, _, _, O__law_pick, PySem.W.mg_of X G a2, k2, b2⟩
  have O__law_all_pairs := ok__law_all_pairs (P := l.prog) (w := w) (K := K) (mg := mg) (base := base) F3 Bl
  have D__law_all_pairs : HM.ClG l.prog w K mg base 1 "_law_all_pairs" (sp__law_all_pairs K) := ⟨f3, _, _, O__law_all_pairs, PySem.W.mg_of X G a3, k3, b3⟩
  have O__law_web := ok__law_web (P := l.prog) (w := w) (K := K) (mg := mg) (base := base) F4 Bl D__law_draw D__law_pick D__law_all_pairs
  have D__law_web : HM.ClG l.prog w K mg base 3 "_law_web" (sp__law_web K) := ⟨f4, _, _, O__law_web, PySem.W.mg_of X G a4, k4, b4⟩
  have O__law_mixed := ok__law_mixed (P := l.prog) (w := w) (K := K) (mg := mg) (base := base) F5 Bl D__law_draw
  have D__law_mixed : HM.ClG l.prog w K mg base 2 "_law_mixed" (sp__law_mixed K) := ⟨f5, _, _, O__law_mixed, PySem.W.mg_of X G a5, k5, b5⟩
  have O__law_forest := ok__law_forest (P := l.prog) (w := w) (K := K) (mg := mg) (base := base) F6 Bl D__law_draw D__law_mixed D__law_pick
  have D__law_forest : HM.ClG l.prog w K mg base 3 "_law_forest" (sp__law_forest K) := ⟨f6, _, _, O__law_forest, PySem.W.mg_of X G a6, k6, b6⟩
  have O__law_ring := ok__law_ring (P := l.prog) (w := w) (K := K) (mg := mg) (base := base) F7 Bl D__law_draw D__law_mixed D__law_all_pairs
  have D__law_ring : HM.ClG l.prog w K mg base 3 "_law_ring" (sp__law_ring K) := ⟨f7, _, _, O__law_ring, PySem.W.mg_of X G a7, k7, b7⟩
  have O__law_two := ok__law_two (P := l.prog) (w := w) (K := K) (mg := mg) (base := base) F8 Bl D__law_mixed D__law_draw
  have D__law_two : HM.ClG l.prog w K mg base 3 "_law_two" (sp__law_two K) := ⟨f8, _, _, O__law_two, PySem.W.mg_of X G a8, k8, b8⟩
  have O__law_pieces := ok__law_pieces (P := l.prog) (w := w) (K := K) (mg := mg) (base := base) F9 Bl
  have D__law_pieces : HM.ClG l.prog w K mg base 1 "_law_pieces" (sp__law_pieces K) := ⟨f9, _, _, O__law_pieces, PySem.W.mg_of X G a9, k9, b9⟩
  have O__law_pieces_2 := ok__law_pieces_2 (P := l.prog) (w := w) (K := K) (mg := mg) (base := base) F9 Bl
  have D__law_pieces_2 : HM.ClG l.prog w K mg base 1 "_law_pieces" (sp__law_pieces_2 K) := ⟨f9, _, _, O__law_pieces_2, PySem.W.mg_of X G a9, k9, b9⟩
  have O__law_is_bridge := ok__law_is_bridge (P := l.prog) (w := w) (K := K) (mg := mg) (base := base) F10 Bl D__law_pieces D__law_pieces_2
  have D__law_is_bridge : HM.ClG l.prog w K mg base 2 "_law_is_bridge" (sp__law_is_bridge K) := ⟨f10, _, _, O__law_is_bridge, PySem.W.mg_of X G a10, k10, b10⟩
  have O_is_tuple := ok_is_tuple (P := l.prog) (w := w) (K := K) (mg := mg) (base := base) F11 Bl
  have D_is_tuple : HM.ClG l.prog w K mg base 1 "is_tuple" (sp_is_tuple K) := ⟨f11, _, _, O_is_tuple, PySem.W.mg_of X G a11, k11, b11⟩
  have O_is_integer := ok_is_integer (P := l.prog) (w := w) (K := K) (mg := mg) (base := base) F12 Bl
  have D_is_integer : HM.ClG l.prog w K mg base 1 "is_integer" (sp_is_integer K) := ⟨f12, _, _, O_is_integer, PySem.W.mg_of X G a12, k12, b12⟩
  have O_is_within := ok_is_within (P := l.prog) (w := w) (K := K) (mg := mg) (base := base) F13 Bl D_is_integer
  have D_is_within : HM.ClG l.prog w K mg base 2 "is_within" (sp_is_within K) := ⟨f13, _, _, O_is_within, PySem.W.mg_of X G a13, k13, b13⟩
  have O_is_tuple_2 := ok_is_tuple_2 (P := l.prog) (w := w) (K := K) (mg := mg) (base := base) F11 Bl
  have D_is_tuple_2 : HM.ClG l.prog w K mg base 1 "is_tuple" (sp_is_tuple_2 K) := ⟨f11, _, _, O_is_tuple_2, PySem.W.mg_of X G a11, k11, b11⟩
  have O_is_pair_of := ok_is_pair_of (P := l.prog) (w := w) (K := K) (mg := mg) (base := base) F14 Bl D_is_tuple_2 D_is_within
  have D_is_pair_of : HM.ClG l.prog w K mg base 3 "is_pair_of" (sp_is_pair_of K) := ⟨f14, _, _, O_is_pair_of, PySem.W.mg_of X G a14, k14, b14⟩
  have O_are_pairs_of := ok_are_pairs_of (P := l.prog) (w := w) (K := K) (mg := mg) (base := base) F15 Bl D_is_pair_of
  have D_are_pairs_of : HM.ClG l.prog w K mg base 4 "are_pairs_of" (sp_are_pairs_of K) := ⟨f15, _, _, O_are_pairs_of, PySem.W.mg_of X G a15, k15, b15⟩
  have O_is_web_value := ok_is_web_value (P := l.prog) (w := w) (K := K) (mg := mg) (base := base) F16 Bl D_is_tuple D_is_within D_are_pairs_of ⟨_, PySem.W.mg_of X G q_MOST_PERSONS, _, rfl⟩
  have D_is_web_value : HM.ClG l.prog w K mg base 5 "is_web_value" (sp_is_web_value K) := ⟨f16, _, _, O_is_web_value, PySem.W.mg_of X G a16, k16, b16⟩
  have O_want_web := ok_want_web (P := l.prog) (w := w) (K := K) (mg := mg) (base := base) F17 Bl D_is_web_value
  have D_want_web : HM.ClG l.prog w K mg base 6 "want_web" (sp_want_web K) := ⟨f17, _, _, O_want_web, PySem.W.mg_of X G a17, k17, b17⟩
  have O_pieces_of := ok_pieces_of (P := l.prog) (w := w) (K := K) (mg := mg) (base := base) F18 Bl
  have D_pieces_of : HM.ClG l.prog w K mg base 1 "pieces_of" (sp_pieces_of K) := ⟨f18, _, _, O_pieces_of, PySem.W.mg_of X G a18, k18, b18⟩
  have O_pieces_of_2 := ok_pieces_of_2 (P := l.prog) (w := w) (K := K) (mg := mg) (base := base) F18 Bl
  have D_pieces_of_2 : HM.ClG l.prog w K mg base 1 "pieces_of" (sp_pieces_of_2 K) := ⟨f18, _, _, O_pieces_of_2, PySem.W.mg_of X G a18, k18, b18⟩
  have O_bridges_of := ok_bridges_of (P := l.prog) (w := w) (K := K) (mg := mg) (base := base) F19 Bl D_pieces_of D_pieces_of_2
  have D_bridges_of : HM.ClG l.prog w K mg base 2 "bridges_of" (sp_bridges_of K) := ⟨f19, _, _, O_bridges_of, PySem.W.mg_of X G a19, k19, b19⟩
  have O_bridges := ok_bridges (P := l.prog) (w := w) (K := K) (mg := mg) (base := base) F20 Bl D_want_web D_bridges_of
  have D_bridges : HM.ClG l.prog w K mg base 7 "bridges" (sp_bridges K) := ⟨f20, _, _, O_bridges, PySem.W.mg_of X G a20, k20, b20⟩
  have O_is_joined_value := ok_is_joined_value (P := l.prog) (w := w) (K := K) (mg := mg) (base := base) F21 Bl D_is_web_value D_pieces_of
  have D_is_joined_value : HM.ClG l.prog w K mg base 6 "is_joined_value" (sp_is_joined_value K) := ⟨f21, _, _, O_is_joined_value, PySem.W.mg_of X G a21, k21, b21⟩
  have O_is_firm_value := ok_is_firm_value (P := l.prog) (w := w) (K := K) (mg := mg) (base := base) F22 Bl D_is_joined_value D_bridges_of
  have D_is_firm_value : HM.ClG l.prog w K mg base 7 "is_firm_value" (sp_is_firm_value K) := ⟨f22, _, _, O_is_firm_value, PySem.W.mg_of X G a22, k22, b22⟩
  have O_is_firm := ok_is_firm (P := l.prog) (w := w) (K := K) (mg := mg) (base := base) F23 Bl D_is_firm_value
  have D_is_firm : HM.ClG l.prog w K mg base 8 "is_firm" (sp_is_firm K) := ⟨f23, _, _, O_is_firm, PySem.W.mg_of X G a23, k23, b23⟩
  have O__law_pick_2 := ok__law_pick_2 (P := l.prog) (w := w) (K := K) (mg := mg) (base := base) F2 Bl D__law_draw
  have D__law_pick_2 : HM.ClG l.prog w K mg base 2 "_law_pick" (sp__law_pick_2 K) := ⟨f2, _, _, O__law_pick_2, PySem.W.mg_of X G a2, k2, b2⟩
  have O__law_pick_3 := ok__law_pick_3 (P := l.prog) (w := w) (K := K) (mg := mg) (base := base) F2 Bl D__law_draw
  have D__law_pick_3 : HM.ClG l.prog w K mg base 2 "_law_pick" (sp__law_pick_3 K) := ⟨f2, _, _, O__law_pick_3, PySem.W.mg_of X G a2, k2, b2⟩
  have O__law_bent := ok__law_bent (P := l.prog) (w := w) (K := K) (mg := mg) (base := base) F24 Bl D__law_draw D__law_pick_3
  have D__law_bent : HM.ClG l.prog w K mg base 3 "_law_bent" (sp__law_bent K) := ⟨f24, _, _, O__law_bent, PySem.W.mg_of X G a24, k24, b24⟩
  have O__law_is_whole := ok__law_is_whole (P := l.prog) (w := w) (K := K) (mg := mg) (base := base) F25 Bl
  have D__law_is_whole : HM.ClG l.prog w K mg base 1 "_law_is_whole" (sp__law_is_whole K) := ⟨f25, _, _, O__law_is_whole, PySem.W.mg_of X G a25, k25, b25⟩
  have O__law_is_web := ok__law_is_web (P := l.prog) (w := w) (K := K) (mg := mg) (base := base) F26 Bl D__law_is_whole
  have D__law_is_web : HM.ClG l.prog w K mg base 2 "_law_is_web" (sp__law_is_web K) := ⟨f26, _, _, O__law_is_web, PySem.W.mg_of X G a26, k26, b26⟩
  have O__law_is_joined := ok__law_is_joined (P := l.prog) (w := w) (K := K) (mg := mg) (base := base) F27 Bl D__law_is_web D__law_pieces_2
  have D__law_is_joined : HM.ClG l.prog w K mg base 3 "_law_is_joined" (sp__law_is_joined K) := ⟨f27, _, _, O__law_is_joined, PySem.W.mg_of X G a27, k27, b27⟩
  have O__law_is_firm := ok__law_is_firm (P := l.prog) (w := w) (K := K) (mg := mg) (base := base) F28 Bl D__law_is_joined D__law_is_bridge
  have D__law_is_firm : HM.ClG l.prog w K mg base 4 "_law_is_firm" (sp__law_is_firm K) := ⟨f28, _, _, O__law_is_firm, PySem.W.mg_of X G a28, k28, b28⟩
  have O_is_tuple_3 := ok_is_tuple_3 (P := l.prog) (w := w) (K := K) (mg := mg) (base := base) F11 Bl
  have D_is_tuple_3 : HM.ClG l.prog w K mg base 1 "is_tuple" (sp_is_tuple_3 K) := ⟨f11, _, _, O_is_tuple_3, PySem.W.mg_of X G a11, k11, b11⟩
  have O_is_integer_2 := ok_is_integer_2 (P := l.prog) (w := w) (K := K) (mg := mg) (base := base) F12 Bl
  have D_is_integer_2 : HM.ClG l.prog w K mg base 1 "is_integer" (sp_is_integer_2 K) := ⟨f12, _, _, O_is_integer_2, PySem.W.mg_of X G a12, k12, b12⟩
  have O_is_within_2 := ok_is_within_2 (P := l.prog) (w := w) (K := K) (mg := mg) (base := base) F13 Bl D_is_integer_2
  have D_is_within_2 : HM.ClG l.prog w K mg base 2 "is_within" (sp_is_within_2 K) := ⟨f13, _, _, O_is_within_2, PySem.W.mg_of X G a13, k13, b13⟩
  have O_is_pair_of_2 := ok_is_pair_of_2 (P := l.prog) (w := w) (K := K) (mg := mg) (base := base) F14 Bl D_is_tuple_3 D_is_within_2
  have D_is_pair_of_2 : HM.ClG l.prog w K mg base 3 "is_pair_of" (sp_is_pair_of_2 K) := ⟨f14, _, _, O_is_pair_of_2, PySem.W.mg_of X G a14, k14, b14⟩
  have O_are_pairs_of_2 := ok_are_pairs_of_2 (P := l.prog) (w := w) (K := K) (mg := mg) (base := base) F15 Bl D_is_pair_of_2
  have D_are_pairs_of_2 : HM.ClG l.prog w K mg base 4 "are_pairs_of" (sp_are_pairs_of_2 K) := ⟨f15, _, _, O_are_pairs_of_2, PySem.W.mg_of X G a15, k15, b15⟩
  have O_is_web_value_2 := ok_is_web_value_2 (P := l.prog) (w := w) (K := K) (mg := mg) (base := base) F16 Bl D_is_tuple_3 D_is_within_2 D_are_pairs_of_2 ⟨_, PySem.W.mg_of X G q_MOST_PERSONS, _, rfl⟩
  have D_is_web_value_2 : HM.ClG l.prog w K mg base 5 "is_web_value" (sp_is_web_value_2 K) := ⟨f16, _, _, O_is_web_value_2, PySem.W.mg_of X G a16, k16, b16⟩
  have O_is_joined_value_2 := ok_is_joined_value_2 (P := l.prog) (w := w) (K := K) (mg := mg) (base := base) F21 Bl D_is_web_value_2 D_pieces_of
  have D_is_joined_value_2 : HM.ClG l.prog w K mg base 6 "is_joined_value" (sp_is_joined_value_2 K) := ⟨f21, _, _, O_is_joined_value_2, PySem.W.mg_of X G a21, k21, b21⟩
  have O_is_joined := ok_is_joined (P := l.prog) (w := w) (K := K) (mg := mg) (base := base) F29 Bl D_is_joined_value_2
  have D_is_joined : HM.ClG l.prog w K mg base 7 "is_joined" (sp_is_joined K) := ⟨f29, _, _, O_is_joined, PySem.W.mg_of X G a29, k29, b29⟩
  have O_is_firm_value_2 := ok_is_firm_value_2 (P := l.prog) (w := w) (K := K) (mg := mg) (base := base) F22 Bl D_is_joined_value_2 D_bridges_of
  have D_is_firm_value_2 : HM.ClG l.prog w K mg base 7 "is_firm_value" (sp_is_firm_value_2 K) := ⟨f22, _, _, O_is_firm_value_2, PySem.W.mg_of X G a22, k22, b22⟩
  have O_is_firm_2 := ok_is_firm_2 (P := l.prog) (w := w) (K := K) (mg := mg) (base := base) F23 Bl D_is_firm_value_2
  have D_is_firm_2 : HM.ClG l.prog w K mg base 8 "is_firm" (sp_is_firm_2 K) := ⟨f23, _, _, O_is_firm_2, PySem.W.mg_of X G a23, k23, b23⟩
  have O__law_right := ok__law_right (P := l.prog) (w := w) (K := K) (mg := mg) (base := base) F30 Bl D__law_web D__law_forest D__law_ring D__law_two D__law_is_bridge D_bridges D_is_firm D__law_pick_2 D__law_bent D__law_is_joined D__law_is_firm D_is_joined D_is_firm_2 ⟨f20, _, _, O_bridges, PySem.W.mg_of X G a20, k20, kb_mk (ps := ["web"]) F20 fun _ _ _ _ _ _ us ws hu hw => match us, ws, hu, hw with | [], [_], _, _ => rfl⟩ ⟨f29, _, _, O_is_joined, PySem.W.mg_of X G a29, k29, kb_mk (ps := ["value"]) F29 fun _ _ _ _ _ _ us ws hu hw => match us, ws, hu, hw with | [], [_], _, _ => rfl⟩ ⟨f23, _, _, O_is_firm_2, PySem.W.mg_of X G a23, k23, kb_mk (ps := ["value"]) F23 fun _ _ _ _ _ _ us ws hu hw => match us, ws, hu, hw with | [], [_], _, _ => rfl⟩
  have D__law_right : HM.ClG l.prog w K mg base 9 "_law_right" (sp__law_right K) := ⟨f30, _, _, O__law_right, PySem.W.mg_of X G a30, k30, b30⟩
  exact ok_law (P := l.prog) (w := w) (K := K) (mg := mg) (base := base) F31 Bl D__law_pot D__law_right
theorem walk {l : PySem.W.OpenLaw} {q : Program} {loose : List Str} {XP : (Str → Option Value) → Heap → Prop} {YP : World → Heap → Prop} {d : DefRec} {K : Params → PySem.W.Frag} (hn : l.most = some 63) (hdf : d.params.defaults = [])
    (hY : ∀ (w : World) (h : Heap), YP w h → (K w.params).In h)
    (F : ∀ (w : World) (mg : Str → Option Value) (fa : Addr) (h : Heap), (K w.params).In h → h.Ns mainGlobals mg → mg d.name = some (.ref fa) →
      ∃ fd : FuncData, (∀ (s : Shared) (u : Value), BindsTo s fd ⟨[u], []⟩ [("script", u)]) ∧ ∀ base : Heap, (K w.params).In base → base.Ns mainGlobals mg → FnG l.prog w (K w.params) mg base 10 fa fd ["script"] (sp_law (K w.params))) :
    PySem.W.WalkO q loose XP YP l.row.toRowW d [] (fun f vs => PySem.call f vs) :=
  HM.walk_G (n := 63) (k := 10) (x := "script") (sp := fun w => sp_law (K w.params)) hn (by decide) hdf ⟨rfl, by decide, by decide⟩ hY F (fun _ _ a ns hl _ hS => law_sp hS hl)
end
end K93
open PySem PySem.W PyProof.Rows in
set_option maxRecDepth 100000 in
set_option maxHeartbeats 0 in
theorem PySem.Challenge.cw_howmanymet_k93_whole_bridges_and_firm_we_holds : PySem.Challenge.rw_howmanymet_k93_whole_bridges_and_firm_we.Holds := by
  w_on; o_law; k_head; (case hw => w_witness2)
  k_fill
  refine K93.walk (l := PySem.Challenge.rw_howmanymet_k93_whole_bridges_and_firm_we) rfl rfl (fun w h Y => PySem.W.kIn_of Y) ?F
  case F =>
    intro w mg fa h KX G hmg
    refine' K93.all_mk KX G hmg ?a0 ?l0 ?c0 ?k0 ?a1 ?l1 ?c1 ?k1 ?a2 ?l2 ?c2 ?k2 ?a3 ?l3 ?c3 ?k3 ?a4 ?l4 ?c4 ?k4 ?a5 ?l5 ?c5 ?k5 ?a6 ?l6 ?c6 ?k6 ?a7 ?l7 ?c7 ?k7 ?a8 ?l8 ?c8 ?k8 ?a9 ?l9 ?c9 ?k9 ?a10 ?l10 ?c10 ?k10 ?a11 ?l11 ?c11 ?k11 ?a12 ?l12 ?c12 ?k12 ?a13 ?l13 ?c13 ?k13 ?a14 ?l14 ?c14 ?k14 ?a15 ?l15 ?c15 ?k15 ?a16 ?l16 ?c16 ?k16 ?a17 ?l17 ?c17 ?k17 ?a18 ?l18 ?c18 ?k18 ?a19 ?l19 ?c19 ?k19 ?a20 ?l20 ?c20 ?k20 ?a21 ?l21 ?c21 ?k21 ?a22 ?l22 ?c22 ?k22 ?a23 ?l23 ?c23 ?k23 ?a24 ?l24 ?c24 ?k24 ?a25 ?l25 ?c25 ?k25 ?a26 ?l26 ?c26 ?k26 ?a27 ?l27 ?c27 ?k27 ?a28 ?l28 ?c28 ?k28 ?a29 ?l29 ?c29 ?k29 ?a30 ?l30 ?c30 ?k30 ?a31 ?l31 ?c31 ?k31 ?q_MOST_PERSONS ?z_len ?z_tuple ?z_list ?z_range ?z_max ?z_min ?z_sum ?z_all ?z_any ?z_sorted ?z_int ?z_bool ?z_str ?z_abs ?z_divmod ?z_isinstance ?z_zip ?z_enumerate ?z_repr ?z_set
    (case a0 => k_is)
    (case l0 => k_is)
    (case c0 => k_is)
    (case k0 => k_is)
    (case a1 => k_is)
    (case l1 => k_is)
    (case c1 => k_is)
    (case k1 => k_is)
    (case a2 => k_is)
    (case l2 => k_is)
    (case c2 => k_is)
    (case k2 => k_is)
    (case a3 => k_is)
    (case l3 => k_is)
    (case c3 => k_is)
    (case k3 => k_is)
    (case a4 => k_is)
    (case l4 => k_is)
    (case c4 => k_is)
    (case k4 => k_is)
    (case a5 => k_is)
    (case l5 => k_is)
    (case c5 => k_is)
    (case k5 => k_is)
    (case a6 => k_is)
    (case l6 => k_is)
    (case c6 => k_is)
    (case k6 => k_is)
    (case a7 => k_is)
    (case l7 => k_is)
    (case c7 => k_is)
    (case k7 => k_is)
    (case a8 => k_is)
    (case l8 => k_is)
    (case c8 => k_is)
    (case k8 => k_is)
    (case a9 => k_is)
    (case l9 => k_is)
    (case c9 => k_is)
    (case k9 => k_is)
    (case a10 => k_is)
    (case l10 => k_is)
    (case c10 => k_is)
    (case k10 => k_is)
    (case a11 => k_is)
    (case l11 => k_is)
    (case c11 => k_is)
    (case k11 => k_is)
    (case a12 => k_is)
    (case l12 => k_is)
    (case c12 => k_is)
    (case k12 => k_is)
    (case a13 => k_is)
    (case l13 => k_is)
    (case c13 => k_is)
    (case k13 => k_is)
    (case a14 => k_is)
    (case l14 => k_is)
    (case c14 => k_is)
    (case k14 => k_is)
    (case a15 => k_is)
    (case l15 => k_is)
    (case c15 => k_is)
    (case k15 => k_is)
    (case a16 => k_is)
    (case l16 => k_is)
    (case c16 => k_is)
    (case k16 => k_is)
    (case a17 => k_is)
    (case l17 => k_is)
    (case c17 => k_is)
    (case k17 => k_is)
    (case a18 => k_is)
    (case l18 => k_is)
    (case c18 => k_is)
    (case k18 => k_is)
    (case a19 => k_is)
    (case l19 => k_is)
    (case c19 => k_is)
    (case k19 => k_is)
    (case a20 => k_is)
    (case l20 => k_is)
    (case c20 => k_is)
    (case k20 => k_is)
    (case a21 => k_is)
    (case l21 => k_is)
    (case c21 => k_is)
    (case k21 => k_is)
    (case a22 => k_is)
    (case l22 => k_is)
    (case c22 => k_is)
    (case k22 => k_is)
    (case a23 => k_is)
    (case l23 => k_is)
    (case c23 => k_is)
    (case k23 => k_is)
    (case a24 => k_is)
    (case l24 => k_is)
    (case c24 => k_is)
    (case k24 => k_is)
    (case a25 => k_is)
    (case l25 => k_is)
    (case c25 => k_is)
    (case k25 => k_is)
    (case a26 => k_is)
    (case l26 => k_is)
    (case c26 => k_is)
    (case k26 => k_is)
    (case a27 => k_is)
    (case l27 => k_is)
    (case c27 => k_is)
    (case k27 => k_is)
    (case a28 => k_is)
    (case l28 => k_is)
    (case c28 => k_is)
    (case k28 => k_is)
    (case a29 => k_is)
    (case l29 => k_is)
    (case c29 => k_is)
    (case k29 => k_is)
    (case a30 => k_is)
    (case l30 => k_is)
    (case c30 => k_is)
    (case k30 => k_is)
    (case a31 => k_is)
    (case l31 => k_is)
    (case c31 => k_is)
    (case k31 => k_is)
    (case q_MOST_PERSONS => k_is)
    (case z_len => k_is)
    (case z_tuple => k_is)
    (case z_list => k_is)
    (case z_range => k_is)
    (case z_max => k_is)
    (case z_min => k_is)
    (case z_sum => k_is)
    (case z_all => k_is)
    (case z_any => k_is)
    (case z_sorted => k_is)
    (case z_int => k_is)
    (case z_bool => k_is)
    (case z_str => k_is)
    (case z_abs => k_is)
    (case z_divmod => k_is)
    (case z_isinstance => k_is)
    (case z_zip => k_is)
    (case z_enumerate => k_is)
    (case z_repr => k_is)
    (case z_set => k_is)
