import PyProof.Rows.All
import HandS.ForMost
import HandS.ForExc
import HandS.IsInst
import HandS.Lambda
import HandS.Style
import HandS.Deep
import PyProof.Rows.StrRev
import HandS.StrMore
import HandS.Replace
import HandS.NoneIn
import HandS.MakeKw
import HandS.MakeKwOnly
import HandS.CallSlots
import HandS.ExcOwn
import HandS.WordsExc
import HandS.Defaults
import HandS.OwnEq
import HandS.Codes
import HandS.TupAny
import PyProof.InstNe
import KE.KExcSuper
import HandS.ExcInit
import HandS.Exc
import HandS.ExcValue
import HandS.ExcIs
import HandS.ExcField
import KE.GoesZip
import KE.GoesMore
import KE.SortData
import KE.DataCmp
import HandS.More
import HandS.TupLe
import PyProof.ListStr
import HandS.HeadHook4
import HandS.HeadWalk
import HandS.Head0
import HandS.Head1
import HandS.Head2
import HandS.HeadEnd
import PyProof.StrLawsRepr
import PyProof.FitsInt
import PySem.Challenge.RW_giventurns_k01_whole_words_are_a_group_a
set_option Elab.async false
set_option linter.all false
set_option maxRecDepth 100000
set_option maxHeartbeats 4000000
/-! Data behind the heap: trees D for what stands still, numbered cells for what changes; the hand layer's readings told by functions on them. -/
namespace DL
open PySem PySem.Spec PyProof.Rows L2

inductive D where
  | non
  | bl (b : Bool)
  | int (i : Int)
  | str (s : List Nat)
  | lst (l : List D)
  | tup (l : List D)
  | ro (l : List D)
  | dic (l : List (Key × D))
  | obj (c : Nat) (fs : List (Str × D))
  | exc (c : Nat) (fs : List (Str × D))
  | ty (n : String)
  | cls (c : Nat)
  | lam
  | loc (n : Nat)

/-- a cell: what changes -/
inductive M where
  | lst (l : List D)
  | dic (l : List (Key × D))
  | obj (c : Nat) (fs : List (Str × D))
  | dead

abbrev Dv := List (Option D)
/-- other frames' slots; tables of code objects; code objects; a function that was handed in -/
structure Wx where
  gh : List (L2.St × Dv)
  T : List (Addr × Str)
  cd : List (Addr × Str)
  lam : Option Addr
/-- the world of the data: the written part, the classes' addresses, the addresses that are not ours, the rest -/
structure Wd where
  K : PySem.W.Frag
  ct : Nat → Addr
  fr : List Addr
  x : Wx
def Wd.on (w : Wd) (fr : List Addr) : Wd := { w with fr := fr }
def Wd.wx (w : Wd) (x : Wx) : Wd := { w with x := x }
abbrev Wd.gh (w : Wd) := w.x.gh
abbrev Wd.T (w : Wd) := w.x.T
/-- a caught exception of the class cls at a, its dict d -/
def ExV (a : Addr) (cls : Value) (d : Option Addr) : HO := .ext fun h => ∃ (oe : Obj) (vs : Array Value), h.get? a = some oe ∧ Zc cls d oe ∧ oe.data = .fields vs
theorem exv_tbl {a : Addr} {cls : Value} {d : Option Addr} (ps : Array Value) : ExV a cls d ≠ .tbl ps := fun z => by
  have z' : HO.ext _ = HO.tbl ps := z
  cases z'

variable (w : Wd)
mutual
inductive Den : List Addr → Hp → V → D → Prop
  | non {as H} : Den as H .non .non
  | bl {as H} (b : Bool) : Den as H (.bl b) (.bl b)
  | int {as H} (i : Int) : Den as H (.int i) (.int i)
  | str {as H} (s : List Nat) : Den as H (.str ⟨s.toArray⟩) (.str s)
  | lst {as H a vs ds} : a ∉ w.fr → a ∉ as → H a = some (.lst vs) → Dens as H vs ds → Den as H (.ref a) (.lst ds)
  | ro {as H a vs ds} : a ∉ w.fr → a ∉ as → Rd H a (.lst vs) → Dens as H vs ds → Den as H (.ref a) (.ro ds)
  | tup {as H a vs ds} : a ∉ w.fr → a ∉ as → H a = some (.tup vs) → Dens as H vs ds → Den as H (.ref a) (.tup ds)
  | roK {as H a vs ds} : (∀ H', SqL w.K H' a vs) → Dens as H vs ds → Den as H (.ref a) (.ro ds)
  | tupK {as H a vs ds} : (∀ H', SqT w.K H' a vs) → Dens as H vs ds → Den as H (.ref a) (.tup ds)
  | dic {as H a} {kvs : List (Key × V)} {ds : List (Key × D)} : a ∉ w.fr → a ∉ as → H a = some (.dK kvs) → kvs.map (·.1) = ds.map (·.1) → Dens as H (kvs.map (·.2)) (ds.map (·.2)) → Den as H (.ref a) (.dic ds)
  | obj {as H a dx c} {vs : List (Str × V)} {fs : List (Str × D)} : a ∉ w.fr → a ∉ as → H a = some (.ins (w.ct c) dx vs) → vs.map (·.1) = fs.map (·.1) → Dens as H (vs.map (·.2)) (fs.map (·.2)) → Den as H (.ref a) (.obj c fs)
  | exc0 {as H a c} : a ∉ w.fr → a ∉ as → H a = some (ExV a (.ref (w.ct c)) none) → Den as H (.ref a) (.exc c [])
  | excD {as H a dx c} {vs : List (Str × V)} {fs : List (Str × D)} : a ∉ w.fr → a ∉ as → H a = some (ExV a (.ref (w.ct c)) (some dx)) → dx ∉ w.fr → dx ∉ as → H dx = some (.xd vs) → vs.map (·.1) = fs.map (·.1) → Dens as H (vs.map (·.2)) (fs.map (·.2)) → Den as H (.ref a) (.exc c fs)
  | ty {as H} (n : String) : Den as H (.ty n) (.ty n)
  | cls {as H} (c : Nat) : Den as H (.ref (w.ct c)) (.cls c)
  | lam {as H a} : w.x.lam = some a → Den as H (.ref a) .lam
  | loc {as H a n} : as[n]? = some a → Den as H (.ref a) (.loc n)
inductive Dens : List Addr → Hp → List V → List D → Prop
  | nil {as H} : Dens as H [] []
  | cons {as H v d vs ds} : Den as H v d → Dens as H vs ds → Dens as H (v :: vs) (d :: ds)
end

/-- the heap grows, what is known and no cell of ours stays (a table grows), new cells are new -/
structure Ext (as : List Addr) (H H' : Hp) (as' : List Addr) : Prop where
  pre : ∃ t, as' = as ++ t
  new : ∀ a, a ∈ as' → a ∉ as → H a = none
  keep0 : ∀ b o, H b = some o → b ∉ as → H' b = some o ∨ ((∃ ps, o = .tbl ps) ∧ ∃ ps, H' b = some (.tbl ps))
theorem Ext.of {as as' : List Addr} {H H' : Hp} (h1 : ∃ t, as' = as ++ t) (h2 : ∀ a, a ∈ as' → a ∉ as → H a = none) (h3 : ∀ b o, H b = some o → b ∉ as → H' b = some o) : Ext as H H' as' := ⟨h1, h2, fun b o e n => .inl (h3 b o e n)⟩
theorem Ext.keep {as as' : List Addr} {H H' : Hp} (e : Ext as H H' as') (b : Addr) (o : HO) (h : H b = some o) (n : b ∉ as) (nt : ∀ ps, o ≠ .tbl ps := by intro _ z; cases z) : H' b = some o :=
  (e.keep0 b o h n).elim id fun ⟨⟨ps, z⟩, _⟩ => absurd z (nt ps)
theorem Ext.there {as as' : List Addr} {H H' : Hp} (e : Ext as H H' as') {b : Addr} {o : HO} (h : H b = some o) (n : b ∉ as) : ∃ o', H' b = some o' :=
  (e.keep0 b o h n).elim (fun z => ⟨_, z⟩) fun ⟨_, ps, z⟩ => ⟨_, z⟩
theorem Ext.refl {as : List Addr} {H : Hp} : Ext as H H as := .of ⟨[], by simp⟩ (fun a h n => absurd h n) fun _ _ h _ => h
theorem Ext.mem {as as' : List Addr} {H H' : Hp} (e : Ext as H H' as') {a : Addr} (h : a ∈ as) : a ∈ as' := by
  obtain ⟨t, rfl⟩ := e.pre
  exact List.mem_append_left _ h
theorem Ext.out {as as' : List Addr} {H H' : Hp} (e : Ext as H H' as') {b : Addr} {o : HO} (h : H b = some o) (n : b ∉ as) : b ∉ as' := fun m => by
  rw [e.new b m n] at h
  cases h
theorem Ext.trans {as as1 as2 : List Addr} {H H1 H2 : Hp} (a : Ext as H H1 as1) (b : Ext as1 H1 H2 as2) : Ext as H H2 as2 := by
  obtain ⟨t, rfl⟩ := a.pre
  obtain ⟨t', rfl⟩ := b.pre
  refine ⟨⟨t ++ t', by rw [List.append_assoc]⟩, fun x h n => ?_, fun x o h n => ?_⟩
  · by_cases m : x ∈ as ++ t
    · exact a.new x m n
    · cases q : H x with
      | none => rfl
      | some o =>
        have z := b.new x h m
        obtain ⟨o', q'⟩ := a.there q n
        rw [q'] at z
        cases z
  · have n1 := a.out h n
    rcases a.keep0 x o h n with h1 | ⟨h0, ps, h1⟩
    · exact b.keep0 x o h1 n1
    · rcases b.keep0 x _ h1 n1 with h2 | ⟨_, ps', h2⟩
      · exact .inr ⟨h0, ps, h2⟩
      · exact .inr ⟨h0, ps', h2⟩
theorem Ext.get {as as' : List Addr} {H H' : Hp} (e : Ext as H H' as') {n : Nat} {a : Addr} (h : as[n]? = some a) : as'[n]? = some a := by
  obtain ⟨t, rfl⟩ := e.pre
  rw [List.getElem?_append_left (List.getElem?_eq_some_iff.mp h).1]
  exact h
theorem Ext.fresh {as as' : List Addr} {H H' : Hp} (e : Ext as H H' as') {p : Addr} (h : H' p = none) (n : p ∉ as) : H p = none := by
  cases q : H p with
  | none => rfl
  | some o =>
    obtain ⟨o', q'⟩ := e.there q n
    rw [q'] at h
    cases h
theorem Rd.ext {as as' : List Addr} {H H' : Hp} (e : Ext as H H' as') {a : Addr} {u : HO} (h : Rd H a u) (n : a ∉ as) (nt : ∀ ps, u ≠ .tbl ps := by intro _ z; cases z) : Rd H' a u ∧ a ∉ as' := by
  rcases h with h | ⟨o, h⟩
  · exact ⟨.inl (e.keep _ _ h n nt), e.out h n⟩
  · exact ⟨.inr ⟨o, e.keep _ _ h n⟩, e.out h n⟩
variable {w}
mutual
theorem Den.ext {as as' : List Addr} {H H' : Hp} (e : Ext as H H' as') : ∀ {v : V} {d : D}, Den w as H v d → Den w as' H' v d
  | _, _, .non => .non
  | _, _, .bl b => .bl b
  | _, _, .int i => .int i
  | _, _, .str s => .str s
  | _, _, .lst f n r q => .lst f (e.out r n) (e.keep _ _ r n) (Dens.ext e q)
  | _, _, .ro f n r q => .ro f (Rd.ext e r n).2 (Rd.ext e r n).1 (Dens.ext e q)
  | _, _, .tup f n r q => .tup f (e.out r n) (e.keep _ _ r n) (Dens.ext e q)
  | _, _, .roK r q => .roK r (Dens.ext e q)
  | _, _, .tupK r q => .tupK r (Dens.ext e q)
  | _, _, .dic f n r k q => .dic f (e.out r n) (e.keep _ _ r n) k (Dens.ext e q)
  | _, _, .obj f n r k q => .obj f (e.out r n) (e.keep _ _ r n) k (Dens.ext e q)
  | _, _, .exc0 f n r => .exc0 f (e.out r n) (e.keep _ _ r n exv_tbl)
  | _, _, .excD f n r f2 n2 r2 k q => .excD f (e.out r n) (e.keep _ _ r n exv_tbl) f2 (e.out r2 n2) (e.keep _ _ r2 n2) k (Dens.ext e q)
  | _, _, .ty n => .ty n
  | _, _, .cls c => .cls c
  | _, _, .lam h => .lam h
  | _, _, .loc h => .loc (e.get h)
theorem Dens.ext {as as' : List Addr} {H H' : Hp} (e : Ext as H H' as') : ∀ {vs : List V} {ds : List D}, Dens w as H vs ds → Dens w as' H' vs ds
  | _, _, .nil => .nil
  | _, _, .cons h t => .cons (Den.ext e h) (Dens.ext e t)
end
theorem Dens.length {as : List Addr} {H : Hp} : ∀ {vs : List V} {ds : List D}, Dens w as H vs ds → vs.length = ds.length
  | _, _, .nil => rfl
  | _, _, .cons _ t => by simp [Dens.length t]
theorem Dens.append {as : List Addr} {H : Hp} : ∀ {vs ws : List V} {ds es : List D}, Dens w as H vs ds → Dens w as H ws es → Dens w as H (vs ++ ws) (ds ++ es)
  | _, _, _, _, .nil, s => s
  | _, _, _, _, .cons h t, s => .cons h (Dens.append t s)
theorem Dens.get {as : List Addr} {H : Hp} : ∀ {vs : List V} {ds : List D} {i : Nat} {d : D}, Dens w as H vs ds → ds[i]? = some d → ∃ v, vs[i]? = some v ∧ Den w as H v d
  | _, _, _, _, .nil, e => by simp at e
  | _, _, 0, _, .cons h _, e => by simp at e; subst e; exact ⟨_, rfl, h⟩
  | _, _, i + 1, _, .cons _ t, e => by
    obtain ⟨v, h1, h2⟩ := Dens.get (i := i) t (by simpa using e)
    exact ⟨v, by simpa using h1, h2⟩
theorem Dens.getV {as : List Addr} {H : Hp} : ∀ {vs : List V} {ds : List D} {i : Nat} {v : V}, Dens w as H vs ds → vs[i]? = some v → ∃ d, ds[i]? = some d ∧ Den w as H v d
  | _, _, _, _, .nil, e => by simp at e
  | _, _, 0, _, .cons h _, e => by simp at e; subst e; exact ⟨_, rfl, h⟩
  | _, _, i + 1, _, .cons _ t, e => by
    obtain ⟨v, h1, h2⟩ := Dens.getV (i := i) t (by simpa using e)
    exact ⟨v, by simpa using h1, h2⟩
theorem Dens.take {as : List Addr} {H : Hp} : ∀ {vs : List V} {ds : List D} (n : Nat), Dens w as H vs ds → Dens w as H (vs.take n) (ds.take n)
  | _, _, 0, _ => .nil
  | _, _, _ + 1, .nil => .nil
  | _, _, n + 1, .cons h t => .cons h (Dens.take n t)
theorem Dens.drop {as : List Addr} {H : Hp} : ∀ {vs : List V} {ds : List D} (n : Nat), Dens w as H vs ds → Dens w as H (vs.drop n) (ds.drop n)
  | _, _, 0, h => h
  | _, _, _ + 1, .nil => .nil
  | _, _, n + 1, .cons _ t => Dens.drop n t
theorem Dens.set {as : List Addr} {H : Hp} {v : V} {d : D} (h : Den w as H v d) : ∀ {vs : List V} {ds : List D} (i : Nat), Dens w as H vs ds → Dens w as H (vs.set i v) (ds.set i d)
  | _, _, _, .nil => .nil
  | _, _, 0, .cons _ t => .cons h t
  | _, _, i + 1, .cons q t => .cons q (Dens.set h i t)
theorem Dens.reverse {as : List Addr} {H : Hp} : ∀ {vs : List V} {ds : List D}, Dens w as H vs ds → Dens w as H vs.reverse ds.reverse
  | _, _, .nil => .nil
  | _, _, .cons h t => by
    rw [List.reverse_cons, List.reverse_cons]
    exact Dens.append (Dens.reverse t) (.cons h .nil)

/-! ### slots -/
variable (w)
structure Sl (as : List Addr) (H : Hp) (σ : L2.St) (δ : Dv) : Prop where
  len : σ.length = δ.length
  get : ∀ (i : Nat) (d : D), δ[i]? = some (some d) → ∃ v, σ[i]? = some (some v) ∧ Den w as H v d
variable {w}
theorem Sl.ext {as as' : List Addr} {H H' : Hp} {σ : L2.St} {δ : Dv} (e : Ext as H H' as') (s : Sl w as H σ δ) : Sl w as' H' σ δ :=
  ⟨s.len, fun i d h => let ⟨v, h1, h2⟩ := s.get i d h; ⟨v, h1, h2.ext e⟩⟩
theorem Sl.set {as : List Addr} {H : Hp} {σ : L2.St} {δ : Dv} {v : V} {d : D} (s : Sl w as H σ δ) (h : Den w as H v d) (i : Nat) : Sl w as H (σ.set i (some v)) (δ.set i (some d)) := by
  refine ⟨by simp [s.len], fun j d' hj => ?_⟩
  by_cases e : i = j
  · subst e
    have hl : i < (δ.set i (some d)).length := (List.getElem?_eq_some_iff.mp hj).1
    rw [List.length_set] at hl
    rw [List.getElem?_set_self hl] at hj
    cases hj
    exact ⟨v, by rw [List.getElem?_set_self (s.len ▸ hl)], h⟩
  · rw [List.getElem?_set_ne e] at hj ⊢
    exact s.get j d' hj
theorem Sl.drop {as : List Addr} {H : Hp} {σ : L2.St} {δ : Dv} (s : Sl w as H σ δ) (i : Nat) : Sl w as H (σ.set i none) (δ.set i none) := by
  refine ⟨by simp [s.len], fun j d' hj => ?_⟩
  by_cases e : i = j
  · subst e
    have hl : i < (δ.set i none).length := (List.getElem?_eq_some_iff.mp hj).1
    rw [List.length_set] at hl
    rw [List.getElem?_set_self hl] at hj
    cases hj
  · rw [List.getElem?_set_ne e] at hj ⊢
    exact s.get j d' hj
theorem Sl.wipe {as : List Addr} {H : Hp} {σ : L2.St} {δ : Dv} (s : Sl w as H σ δ) : ∀ vs : List Nat, Sl w as H (L2.wipe σ vs) (vs.foldr (fun v x => x.set v none) δ)
  | [] => s
  | v :: vs => (Sl.wipe s vs).drop v
theorem sl_start {as : List Addr} {H : Hp} {vs : List V} {ds : List D} (N : List Str) (h : Dens w as H vs ds) : Sl w as H (L2.start N vs) (ds.map some ++ List.replicate (N.length - ds.length) none) := by
  unfold L2.start
  refine ⟨by simp [h.length], fun i d e => ?_⟩
  by_cases hi : i < ds.length
  · rw [List.getElem?_append_left (by simpa using hi), List.getElem?_map] at e
    rw [List.getElem?_append_left (by simpa [h.length] using hi), List.getElem?_map]
    cases q : ds[i]? with
    | none => rw [q] at e; cases e
    | some d' =>
      rw [q] at e; cases e
      obtain ⟨v, h1, h2⟩ := h.get q
      exact ⟨v, by rw [h1]; rfl, h2⟩
  · rw [List.getElem?_append_right (by simpa using hi), List.getElem?_replicate] at e
    split at e <;> cases e

/-! ### cells -/
variable (w)
def MDen (as : List Addr) (H : Hp) (a : Addr) : M → Prop
  | .lst ds => ∃ vs, H a = some (.lst vs) ∧ Dens w as H vs ds
  | .dic ds => ∃ kvs : List (Key × V), H a = some (.dK kvs) ∧ kvs.map (·.1) = ds.map (·.1) ∧ Dens w as H (kvs.map (·.2)) (ds.map (·.2))
  | .obj c fs => ∃ (dx : Addr) (vs : List (Str × V)), H a = some (.ins (w.ct c) dx vs) ∧ vs.map (·.1) = fs.map (·.1) ∧ Dens w as H (vs.map (·.2)) (fs.map (·.2))
  | .dead => ∃ o, H a = some o
/-- the tables of code objects -/
structure TabOk (as : List Addr) (H : Hp) : Prop where
  tb : ∀ p ∈ w.T, p.1 ∉ as ∧ p.1 ∉ w.fr ∧ ∃ ps : Array Value, H p.1 = some (.tbl ps) ∧ TriplesOk ps.toList ∧ ∀ (pos : Pos) (cv : Value), codeAmong pos ps.toList = some cv → ∃ c, cv = .ref c ∧ c ∉ as ∧ c ∉ w.fr ∧ H c = some (LamX.CodeO c p.2)
  co : ∀ p ∈ w.x.cd, p.1 ∉ as ∧ p.1 ∉ w.fr ∧ H p.1 = some (LamX.CodeO p.1 p.2)
structure Rel (as : List Addr) (H : Hp) (μ : List M) : Prop where
  nd : as.Nodup
  off : ∀ a ∈ as, a ∉ w.fr
  len : as.length = μ.length
  cell : ∀ (n : Nat) (a : Addr) (m : M), as[n]? = some a → μ[n]? = some m → MDen w as H a m
  frk : ∀ a ∈ w.fr, ∃ o, H a = some o
  gh : ∀ p ∈ w.gh, Sl w as H p.1 p.2
  tab : TabOk w as H
variable {w}
/-- tables stay where the heap is as it was at them -/
theorem TabOk.to {as as' : List Addr} {H H' : Hp} (t : TabOk w as H) (ha : ∀ b o, H b = some o → b ∉ as → b ∉ as') (k : ∀ b o, H b = some o → b ∉ as → b ∉ w.fr → H' b = some o) : TabOk w as' H' := ⟨fun p hp => by
  obtain ⟨h1, h2, ps, h3, h4, h5⟩ := t.tb p hp
  refine ⟨ha _ _ h3 h1, h2, ps, k _ _ h3 h1 h2, h4, fun pos cv e => ?_⟩
  obtain ⟨c, e1, e2, e3, e4⟩ := h5 pos cv e
  exact ⟨c, e1, ha _ _ e4 e2, e3, k _ _ e4 e2 e3⟩, fun p hp => by
  obtain ⟨h1, h2, h3⟩ := t.co p hp
  exact ⟨ha _ _ h3 h1, h2, k _ _ h3 h1 h2⟩⟩
theorem MDen.there {as : List Addr} {H : Hp} {a : Addr} : ∀ {m : M}, MDen w as H a m → ∃ o, H a = some o
  | .lst _, h => let ⟨_, e, _⟩ := h; ⟨_, e⟩
  | .dic _, h => let ⟨_, e, _⟩ := h; ⟨_, e⟩
  | .obj _ _, h => let ⟨_, _, e, _⟩ := h; ⟨_, e⟩
  | .dead, h => h
theorem Rel.there {as : List Addr} {H : Hp} {μ : List M} (r : Rel w as H μ) {a : Addr} (h : a ∈ as) : ∃ o, H a = some o := by
  obtain ⟨n, hn, rfl⟩ := List.mem_iff_getElem.mp h
  have h2 : n < μ.length := r.len ▸ hn
  exact (r.cell n as[n] μ[n] (by simp [hn]) (by simp [h2])).there
theorem Rel.new {as : List Addr} {H : Hp} {μ : List M} (r : Rel w as H μ) {p : Addr} (h : H p = none) : p ∉ as := fun m => by
  obtain ⟨o, e⟩ := r.there m
  rw [h] at e; cases e
theorem Rel.newF {as : List Addr} {H : Hp} {μ : List M} (r : Rel w as H μ) {p : Addr} (h : H p = none) : p ∉ w.fr := fun m => by
  obtain ⟨o, e⟩ := r.frk p m
  rw [h] at e; cases e
/-- a new object that stands still -/
theorem Ext.push {as : List Addr} {H : Hp} {p : Addr} {o : HO} (h : H p = none) : Ext as H (upd H p o) as :=
  .of ⟨[], by simp⟩ (fun a m n => absurd m n) fun b u e _ => by rw [upd_ne (ne_of_none e h)]; exact e
theorem MDen.ext {as as' : List Addr} {H H' : Hp} (e : Ext as H H' as') {a : Addr} (hk : ∀ o, H a = some o → H' a = some o) : ∀ {m : M}, MDen w as H a m → MDen w as' H' a m
  | .lst _, ⟨vs, h, d⟩ => ⟨vs, hk _ h, d.ext e⟩
  | .dic _, ⟨vs, h, k, d⟩ => ⟨vs, hk _ h, k, d.ext e⟩
  | .obj _ _, ⟨dx, vs, h, k, d⟩ => ⟨dx, vs, hk _ h, k, d.ext e⟩
  | .dead, ⟨o, h⟩ => ⟨o, hk _ h⟩
theorem Rel.push {as : List Addr} {H : Hp} {μ : List M} (r : Rel w as H μ) {p : Addr} {o : HO} (h : H p = none) : Rel w as (upd H p o) μ :=
  ⟨r.nd, r.off, r.len, fun n a m h1 h2 => (r.cell n a m h1 h2).ext (Ext.push h) fun u e => by rw [upd_ne (ne_of_none e h)]; exact e,
    fun a m => let ⟨u, e⟩ := r.frk a m; ⟨u, by rw [upd_ne (ne_of_none e h)]; exact e⟩, fun p m => (r.gh p m).ext (Ext.push h), r.tab.to (fun _ _ _ n => n) fun b o e _ _ => by rw [upd_ne (ne_of_none e h)]; exact e⟩
/-- a new cell -/
theorem Ext.cell {as : List Addr} {H : Hp} {p : Addr} {o : HO} (h : H p = none) : Ext as H (upd H p o) (as ++ [p]) :=
  .of ⟨[p], rfl⟩ (fun a m n => by
    rcases List.mem_append.mp m with z | z
    · exact absurd z n
    · have e : a = p := by simpa using z
      rw [e]; exact h) fun b u e _ => by rw [upd_ne (ne_of_none e h)]; exact e
theorem Rel.cellNew {as : List Addr} {H : Hp} {μ : List M} (r : Rel w as H μ) {p : Addr} {o : HO} {m : M} (h : H p = none) (hm : MDen w (as ++ [p]) (upd H p o) p m) : Rel w (as ++ [p]) (upd H p o) (μ ++ [m]) := by
  refine ⟨?_, fun a ha => ?_, by simp [r.len], fun n a m' h1 h2 => ?_, fun a ha => ?_, fun p m => (r.gh p m).ext (Ext.cell h), r.tab.to (fun b o e n => (Ext.cell (o := o) h).out e n) fun b o e _ _ => by rw [upd_ne (ne_of_none e h)]; exact e⟩
  · rw [List.nodup_append]
    refine ⟨r.nd, by simp, fun a ha b hb e => ?_⟩
    have eb : b = p := by simpa using hb
    rw [e, eb] at ha
    exact r.new h ha
  · rcases List.mem_append.mp ha with z | z
    · exact r.off a z
    · have e : a = p := by simpa using z
      rw [e]; exact r.newF h
  · by_cases hn : n < as.length
    · rw [List.getElem?_append_left hn] at h1
      rw [List.getElem?_append_left (r.len ▸ hn)] at h2
      exact (r.cell n a m' h1 h2).ext (Ext.cell h) fun u e => by rw [upd_ne (ne_of_none e h)]; exact e
    · have e1 : n < (as ++ [p]).length := (List.getElem?_eq_some_iff.mp h1).1
      have e2 : n = as.length := by rw [List.length_append, List.length_singleton] at e1; omega
      subst e2
      rw [List.getElem?_append_right (Nat.le_refl _)] at h1
      rw [List.getElem?_append_right (Nat.le_of_eq r.len.symm)] at h2
      simp at h1
      simp [r.len] at h2
      subst h1 h2
      exact hm
  · obtain ⟨u, e⟩ := r.frk a ha
    exact ⟨u, by rw [upd_ne (ne_of_none e h)]; exact e⟩
/-- a cell written -/
theorem Ext.write {as : List Addr} {H : Hp} {p : Addr} {o : HO} (h : p ∈ as) : Ext as H (upd H p o) as :=
  .of ⟨[], by simp⟩ (fun a m n => absurd m n) fun b u e n => by rw [upd_ne (fun z => n (by rw [z]; exact h))]; exact e
theorem Rel.write {as : List Addr} {H : Hp} {μ : List M} (r : Rel w as H μ) {n : Nat} {p : Addr} {o : HO} {m : M} (h : as[n]? = some p) (hm : MDen w as (upd H p o) p m) : Rel w as (upd H p o) (μ.set n m) := by
  have hp : p ∈ as := List.mem_of_getElem? h
  have hn : n < as.length := (List.getElem?_eq_some_iff.mp h).1
  refine ⟨r.nd, r.off, by simp [r.len], fun k a m' h1 h2 => ?_, fun a ha => ?_, fun q m => (r.gh q m).ext (Ext.write hp), r.tab.to (fun _ _ _ n => n) fun b o e n _ => by rw [upd_ne (fun z => n (by rw [z]; exact hp))]; exact e⟩
  · by_cases e : k = n
    · subst e
      rw [h] at h1; cases h1
      rw [List.getElem?_set_self (r.len ▸ hn)] at h2
      cases h2
      exact hm
    · rw [List.getElem?_set_ne (Ne.symm e)] at h2
      have na : a ≠ p := fun z => by
        subst z
        obtain ⟨hk, ek⟩ := List.getElem?_eq_some_iff.mp h1
        obtain ⟨_, en⟩ := List.getElem?_eq_some_iff.mp h
        exact e ((List.getElem_inj r.nd).mp (ek.trans en.symm))
      exact (r.cell k a m' h1 h2).ext (Ext.write hp) fun u q => by rw [upd_ne na]; exact q
  · obtain ⟨u, e⟩ := r.frk a ha
    by_cases z : a = p
    · rw [z]; exact ⟨o, upd_same⟩
    · exact ⟨u, by rw [upd_ne z]; exact e⟩

variable (w)
structure Here (as : List Addr) (H : Hp) (σ : L2.St) (δ : Dv) (μ : List M) : Prop where
  rel : Rel w as H μ
  sl : Sl w as H σ δ
/-- an exception's own dict -/
def ExD (as : List Addr) (H : Hp) (dd : Option Addr) (fs : List (Str × D)) : Prop :=
  (fs = [] ∧ dd = none) ∨ ∃ (dx : Addr) (vs : List (Str × V)), dd = some dx ∧ H dx = some (.xd vs) ∧ dx ∉ as ∧ dx ∉ w.fr ∧ vs.map (·.1) = fs.map (·.1) ∧ Dens w as H (vs.map (·.2)) (fs.map (·.2))

/-! ### what is reckoned -/
inductive ER where
  | ok (d : D) (μ : List M)
  | exc (c : Nat) (fs : List (Str × D)) (μ : List M)
  | bad
inductive AR where
  | ok (ds : List D) (μ : List M)
  | exc (c : Nat) (fs : List (Str × D)) (μ : List M)
  | bad
inductive TR where
  | ok (b : Bool) (μ : List M)
  | exc (c : Nat) (fs : List (Str × D)) (μ : List M)
  | bad
inductive SR where
  | nx (δ : Dv) (μ : List M)
  | rt (d : D) (δ : Dv) (μ : List M)
  | bk (δ : Dv) (μ : List M)
  | ct (δ : Dv) (μ : List M)
  | exc (c : Nat) (fs : List (Str × D)) (δ : Dv) (μ : List M)
  | bad
abbrev EM := Dv → List M → ER
abbrev AM := Dv → List M → AR
abbrev TM := Dv → List M → TR
abbrev SM := Dv → List M → SR
def ER.bind (r : ER) (k : D → List M → ER) : ER := match r with
  | .ok d μ => k d μ
  | .exc c fs μ => .exc c fs μ
  | .bad => .bad
def ER.bindA (r : ER) (k : D → List M → AR) : AR := match r with
  | .ok d μ => k d μ
  | .exc c fs μ => .exc c fs μ
  | .bad => .bad
def ER.bindT (r : ER) (k : D → List M → TR) : TR := match r with
  | .ok d μ => k d μ
  | .exc c fs μ => .exc c fs μ
  | .bad => .bad
def AR.bindE (r : AR) (k : List D → List M → ER) : ER := match r with
  | .ok d μ => k d μ
  | .exc c fs μ => .exc c fs μ
  | .bad => .bad
def AR.bind (r : AR) (k : List D → List M → AR) : AR := match r with
  | .ok d μ => k d μ
  | .exc c fs μ => .exc c fs μ
  | .bad => .bad
def TR.bindE (r : TR) (k : Bool → List M → ER) : ER := match r with
  | .ok d μ => k d μ
  | .exc c fs μ => .exc c fs μ
  | .bad => .bad
def TR.bind (r : TR) (k : Bool → List M → TR) : TR := match r with
  | .ok d μ => k d μ
  | .exc c fs μ => .exc c fs μ
  | .bad => .bad
def ER.bindS (r : ER) (δ : Dv) (k : D → List M → SR) : SR := match r with
  | .ok d μ => k d μ
  | .exc c fs μ => .exc c fs δ μ
  | .bad => .bad
def AR.bindS (r : AR) (δ : Dv) (k : List D → List M → SR) : SR := match r with
  | .ok d μ => k d μ
  | .exc c fs μ => .exc c fs δ μ
  | .bad => .bad
def TR.bindS (r : TR) (δ : Dv) (k : Bool → List M → SR) : SR := match r with
  | .ok d μ => k d μ
  | .exc c fs μ => .exc c fs δ μ
  | .bad => .bad

def EOk (W : WX) (σ : L2.St) (as : List Addr) (H : Hp) (r : ER) (Q : VK) : Prop := match r with
  | .ok d μ' => ∀ v H' as', Ext as H H' as' → Rel w as' H' μ' → Den w as' H' v d → Q v H'
  | .exc c fs μ' => ∀ dd H' as', Ext as H H' as' → Rel w as' H' μ' → ExD w as' H' dd fs → W (.ref (w.ct c)) dd σ H'
  | .bad => False
def AOk (W : WX) (σ : L2.St) (as : List Addr) (H : Hp) (r : AR) (Q : List V → Hp → Prop) : Prop := match r with
  | .ok ds μ' => ∀ vs H' as', Ext as H H' as' → Rel w as' H' μ' → Dens w as' H' vs ds → Q vs H'
  | .exc c fs μ' => ∀ dd H' as', Ext as H H' as' → Rel w as' H' μ' → ExD w as' H' dd fs → W (.ref (w.ct c)) dd σ H'
  | .bad => False
def TOk (W : WX) (σ : L2.St) (as : List Addr) (H : Hp) (r : TR) (Q : Bool → Hp → Prop) : Prop := match r with
  | .ok b μ' => ∀ H' as', Ext as H H' as' → Rel w as' H' μ' → Q b H'
  | .exc c fs μ' => ∀ dd H' as', Ext as H H' as' → Rel w as' H' μ' → ExD w as' H' dd fs → W (.ref (w.ct c)) dd σ H'
  | .bad => False
def SOk (W : WX) (as : List Addr) (H : Hp) (r : SR) (E : Ends) : Prop := match r with
  | .nx δ' μ' => ∀ σ' H' as', Ext as H H' as' → Here w as' H' σ' δ' μ' → E.nx σ' H'
  | .rt d _ μ' => ∀ v H' as', Ext as H H' as' → Rel w as' H' μ' → Den w as' H' v d → E.rt v H'
  | .bk δ' μ' => ∀ σ' H' as', Ext as H H' as' → Here w as' H' σ' δ' μ' → E.bk σ' H'
  | .ct δ' μ' => ∀ σ' H' as', Ext as H H' as' → Here w as' H' σ' δ' μ' → E.ct σ' H'
  | .exc c fs δ' μ' => ∀ dd σ' H' as', Ext as H H' as' → Here w as' H' σ' δ' μ' → ExD w as' H' dd fs → W (.ref (w.ct c)) dd σ' H'
  | .bad => False
def rdE (W : WX) (m : EM) : TE := fun σ H Q => ∃ fr as δ μ, Here (w.on fr) as H σ δ μ ∧ EOk (w.on fr) W σ as H (m δ μ) Q
def rdA (W : WX) (m : AM) : TA := fun σ H Q => ∃ fr as δ μ, Here (w.on fr) as H σ δ μ ∧ AOk (w.on fr) W σ as H (m δ μ) Q
def rdT (W : WX) (m : TM) : TT := fun σ H Q => ∃ fr as δ μ, Here (w.on fr) as H σ δ μ ∧ TOk (w.on fr) W σ as H (m δ μ) Q
def rdS (W : WX) (m : SM) : TS := fun E σ H => ∃ fr as δ μ, Here (w.on fr) as H σ δ μ ∧ SOk (w.on fr) W as H (m δ μ) E
variable {w}
theorem Here.ext {as as' : List Addr} {H H' : Hp} {σ : L2.St} {δ : Dv} {μ μ' : List M} (h : Here w as H σ δ μ) (e : Ext as H H' as') (r : Rel w as' H' μ') : Here w as' H' σ δ μ' := ⟨r, h.sl.ext e⟩
theorem EOk.ext {W : WX} {σ : L2.St} {as as1 : List Addr} {H H1 : Hp} {r : ER} {Q : VK} (e : Ext as H H1 as1) (q : EOk w W σ as H r Q) : EOk w W σ as1 H1 r Q := match r, q with
  | .ok _ _, q => fun v H' as' e' => q v H' as' (e.trans e')
  | .exc _ _ _, q => fun dd H' as' e' => q dd H' as' (e.trans e')
  | .bad, q => q
theorem AOk.ext {W : WX} {σ : L2.St} {as as1 : List Addr} {H H1 : Hp} {r : AR} {Q : List V → Hp → Prop} (e : Ext as H H1 as1) (q : AOk w W σ as H r Q) : AOk w W σ as1 H1 r Q := match r, q with
  | .ok _ _, q => fun v H' as' e' => q v H' as' (e.trans e')
  | .exc _ _ _, q => fun dd H' as' e' => q dd H' as' (e.trans e')
  | .bad, q => q
theorem TOk.ext {W : WX} {σ : L2.St} {as as1 : List Addr} {H H1 : Hp} {r : TR} {Q : Bool → Hp → Prop} (e : Ext as H H1 as1) (q : TOk w W σ as H r Q) : TOk w W σ as1 H1 r Q := match r, q with
  | .ok _ _, q => fun H' as' e' => q H' as' (e.trans e')
  | .exc _ _ _, q => fun dd H' as' e' => q dd H' as' (e.trans e')
  | .bad, q => q
theorem SOk.ext {W : WX} {as as1 : List Addr} {H H1 : Hp} {r : SR} {E : Ends} (e : Ext as H H1 as1) (q : SOk w W as H r E) : SOk w W as1 H1 r E := match r, q with
  | .nx _ _, q => fun σ' H' as' e' => q σ' H' as' (e.trans e')
  | .rt _ _ _, q => fun v H' as' e' => q v H' as' (e.trans e')
  | .bk _ _, q => fun σ' H' as' e' => q σ' H' as' (e.trans e')
  | .ct _ _, q => fun σ' H' as' e' => q σ' H' as' (e.trans e')
  | .exc _ _ _ _, q => fun dd σ' H' as' e' => q dd σ' H' as' (e.trans e')
  | .bad, q => q

section
variable {W : WX} {fr : List Addr} {σ : L2.St} {as : List Addr} {H : Hp} {δ : Dv} {μ : List M}
/-- an expression, then what follows (an expression) -/
theorem bE {ma : EM} {k : D → List M → ER} {Q Q' : VK} (h : Here (w.on fr) as H σ δ μ) (q : EOk (w.on fr) W σ as H ((ma δ μ).bind k) Q)
    (kk : ∀ v H1 as1 d μ1, Here (w.on fr) as1 H1 σ δ μ1 → Den (w.on fr) as1 H1 v d → EOk (w.on fr) W σ as1 H1 (k d μ1) Q → Q' v H1) : rdE w W ma σ H Q' := by
  refine ⟨fr, as, δ, μ, h, ?_⟩
  revert q
  cases ma δ μ with
  | ok d μ1 => exact fun q v H1 as1 e r dn => kk v H1 as1 d μ1 (h.ext e r) dn (EOk.ext e q)
  | exc c fs μ1 => exact fun q => q
  | bad => exact fun q => q
theorem bEA {ma : EM} {k : D → List M → AR} {Q : List V → Hp → Prop} {Q' : VK} (h : Here (w.on fr) as H σ δ μ) (q : AOk (w.on fr) W σ as H ((ma δ μ).bindA k) Q)
    (kk : ∀ v H1 as1 d μ1, Here (w.on fr) as1 H1 σ δ μ1 → Den (w.on fr) as1 H1 v d → Ext as H H1 as1 → AOk (w.on fr) W σ as1 H1 (k d μ1) Q → Q' v H1) : rdE w W ma σ H Q' := by
  refine ⟨fr, as, δ, μ, h, ?_⟩
  revert q
  cases ma δ μ with
  | ok d μ1 => exact fun q v H1 as1 e r dn => kk v H1 as1 d μ1 (h.ext e r) dn e (AOk.ext e q)
  | exc c fs μ1 => exact fun q => q
  | bad => exact fun q => q
theorem bET {ma : EM} {k : D → List M → TR} {Q : Bool → Hp → Prop} {Q' : VK} (h : Here (w.on fr) as H σ δ μ) (q : TOk (w.on fr) W σ as H ((ma δ μ).bindT k) Q)
    (kk : ∀ v H1 as1 d μ1, Here (w.on fr) as1 H1 σ δ μ1 → Den (w.on fr) as1 H1 v d → TOk (w.on fr) W σ as1 H1 (k d μ1) Q → Q' v H1) : rdE w W ma σ H Q' := by
  refine ⟨fr, as, δ, μ, h, ?_⟩
  revert q
  cases ma δ μ with
  | ok d μ1 => exact fun q v H1 as1 e r dn => kk v H1 as1 d μ1 (h.ext e r) dn (TOk.ext e q)
  | exc c fs μ1 => exact fun q => q
  | bad => exact fun q => q
theorem bES {ma : EM} {k : D → List M → SR} {E : Ends} {Q' : VK} (h : Here (w.on fr) as H σ δ μ) (q : SOk (w.on fr) W as H ((ma δ μ).bindS δ k) E)
    (kk : ∀ v H1 as1 d μ1, Here (w.on fr) as1 H1 σ δ μ1 → Den (w.on fr) as1 H1 v d → SOk (w.on fr) W as1 H1 (k d μ1) E → Q' v H1) : rdE w W ma σ H Q' := by
  refine ⟨fr, as, δ, μ, h, ?_⟩
  revert q
  cases ma δ μ with
  | ok d μ1 => exact fun q v H1 as1 e r dn => kk v H1 as1 d μ1 (h.ext e r) dn (SOk.ext e q)
  | exc c fs μ1 => exact fun q dd H1 as1 e r x => q dd σ H1 as1 e (h.ext e r) x
  | bad => exact fun q => q
theorem bAE {ma : AM} {k : List D → List M → ER} {Q : VK} {Q' : List V → Hp → Prop} (h : Here (w.on fr) as H σ δ μ) (q : EOk (w.on fr) W σ as H ((ma δ μ).bindE k) Q)
    (kk : ∀ v H1 as1 d μ1, Here (w.on fr) as1 H1 σ δ μ1 → Dens (w.on fr) as1 H1 v d → EOk (w.on fr) W σ as1 H1 (k d μ1) Q → Q' v H1) : rdA w W ma σ H Q' := by
  refine ⟨fr, as, δ, μ, h, ?_⟩
  revert q
  cases ma δ μ with
  | ok d μ1 => exact fun q v H1 as1 e r dn => kk v H1 as1 d μ1 (h.ext e r) dn (EOk.ext e q)
  | exc c fs μ1 => exact fun q => q
  | bad => exact fun q => q
theorem bA {ma : AM} {k : List D → List M → AR} {Q : List V → Hp → Prop} {Q' : List V → Hp → Prop} (h : Here (w.on fr) as H σ δ μ) (q : AOk (w.on fr) W σ as H ((ma δ μ).bind k) Q)
    (kk : ∀ v H1 as1 d μ1, Here (w.on fr) as1 H1 σ δ μ1 → Dens (w.on fr) as1 H1 v d → Ext as H H1 as1 → AOk (w.on fr) W σ as1 H1 (k d μ1) Q → Q' v H1) : rdA w W ma σ H Q' := by
  refine ⟨fr, as, δ, μ, h, ?_⟩
  revert q
  cases ma δ μ with
  | ok d μ1 => exact fun q v H1 as1 e r dn => kk v H1 as1 d μ1 (h.ext e r) dn e (AOk.ext e q)
  | exc c fs μ1 => exact fun q => q
  | bad => exact fun q => q
theorem bAS {ma : AM} {k : List D → List M → SR} {E : Ends} {Q' : List V → Hp → Prop} (h : Here (w.on fr) as H σ δ μ) (q : SOk (w.on fr) W as H ((ma δ μ).bindS δ k) E)
    (kk : ∀ v H1 as1 d μ1, Here (w.on fr) as1 H1 σ δ μ1 → Dens (w.on fr) as1 H1 v d → SOk (w.on fr) W as1 H1 (k d μ1) E → Q' v H1) : rdA w W ma σ H Q' := by
  refine ⟨fr, as, δ, μ, h, ?_⟩
  revert q
  cases ma δ μ with
  | ok d μ1 => exact fun q v H1 as1 e r dn => kk v H1 as1 d μ1 (h.ext e r) dn (SOk.ext e q)
  | exc c fs μ1 => exact fun q dd H1 as1 e r x => q dd σ H1 as1 e (h.ext e r) x
  | bad => exact fun q => q
theorem bTE {ma : TM} {k : Bool → List M → ER} {Q : VK} {Q' : Bool → Hp → Prop} (h : Here (w.on fr) as H σ δ μ) (q : EOk (w.on fr) W σ as H ((ma δ μ).bindE k) Q)
    (kk : ∀ b H1 as1 μ1, Here (w.on fr) as1 H1 σ δ μ1 → EOk (w.on fr) W σ as1 H1 (k b μ1) Q → Q' b H1) : rdT w W ma σ H Q' := by
  refine ⟨fr, as, δ, μ, h, ?_⟩
  revert q
  cases ma δ μ with
  | ok d μ1 => exact fun q H1 as1 e r => kk d H1 as1 μ1 (h.ext e r) (EOk.ext e q)
  | exc c fs μ1 => exact fun q => q
  | bad => exact fun q => q
theorem bT {ma : TM} {k : Bool → List M → TR} {Q : Bool → Hp → Prop} {Q' : Bool → Hp → Prop} (h : Here (w.on fr) as H σ δ μ) (q : TOk (w.on fr) W σ as H ((ma δ μ).bind k) Q)
    (kk : ∀ b H1 as1 μ1, Here (w.on fr) as1 H1 σ δ μ1 → TOk (w.on fr) W σ as1 H1 (k b μ1) Q → Q' b H1) : rdT w W ma σ H Q' := by
  refine ⟨fr, as, δ, μ, h, ?_⟩
  revert q
  cases ma δ μ with
  | ok d μ1 => exact fun q H1 as1 e r => kk d H1 as1 μ1 (h.ext e r) (TOk.ext e q)
  | exc c fs μ1 => exact fun q => q
  | bad => exact fun q => q
theorem bTS {ma : TM} {k : Bool → List M → SR} {E : Ends} {Q' : Bool → Hp → Prop} (h : Here (w.on fr) as H σ δ μ) (q : SOk (w.on fr) W as H ((ma δ μ).bindS δ k) E)
    (kk : ∀ b H1 as1 μ1, Here (w.on fr) as1 H1 σ δ μ1 → SOk (w.on fr) W as1 H1 (k b μ1) E → Q' b H1) : rdT w W ma σ H Q' := by
  refine ⟨fr, as, δ, μ, h, ?_⟩
  revert q
  cases ma δ μ with
  | ok d μ1 => exact fun q H1 as1 e r => kk d H1 as1 μ1 (h.ext e r) (SOk.ext e q)
  | exc c fs μ1 => exact fun q dd H1 as1 e r x => q dd σ H1 as1 e (h.ext e r) x
  | bad => exact fun q => q
end
end DL

namespace DL
open PySem PySem.Spec PyProof.Rows L2

/-! ### judgements weakened, readings joined -/
section
variable {X : Cx}
theorem PE.to {e : Expr} {t t' : TE} (h : PE X e t) (i : ∀ σ H Q, t' σ H Q → t σ H Q) : PE X e t' := ⟨fun pins s σ H Q I q => h.run pins s σ H Q I (i σ H Q q)⟩
theorem PT.to {e : Expr} {t t' : TT} (h : PT X e t) (i : ∀ σ H Q, t' σ H Q → t σ H Q) : PT X e t' := ⟨fun pins s σ H Q I q => h.run pins s σ H Q I (i σ H Q q)⟩
theorem PW.to {e : Expr} {t t' : TT} (h : PW X e t) (i : ∀ σ H Q, t' σ H Q → t σ H Q) : PW X e t' := ⟨fun wh pins s σ H Q I q => h.run wh pins s σ H Q I (i σ H Q q)⟩
theorem PA.to {e : List Expr} {t t' : TA} (h : PA X e t) (i : ∀ σ H Q, t' σ H Q → t σ H Q) : PA X e t' := ⟨fun pos pins s σ H Q I q => h.run pos pins s σ H Q I (i σ H Q q)⟩
theorem PS.to {e : Stmt} {t t' : TS} (h : PS X e t) (i : ∀ D σ H, t' D σ H → t D σ H) : PS X e t' := ⟨fun pins s σ H D I q => h.run pins s σ H D I (i D σ H q)⟩
theorem PSs.to {e : List Stmt} {t t' : TS} (h : PSs X e t) (i : ∀ D σ H, t' D σ H → t D σ H) : PSs X e t' := ⟨fun pins s σ H D I q => h.run pins s σ H D I (i D σ H q)⟩
theorem PE.or {e : Expr} {t t' : TE} (h : PE X e t) (h' : PE X e t') : PE X e (fun σ H Q => t σ H Q ∨ t' σ H Q) := ⟨fun pins s σ H Q I q => q.elim (h.run pins s σ H Q I) (h'.run pins s σ H Q I)⟩
theorem OpR.or {f : Value → Value → Sem Value} {r r' : R2} (h : OpR X f r) (h' : OpR X f r') : OpR X f (fun x y H Q => r x y H Q ∨ r' x y H Q) :=
  fun pins s σ H x y v u Q I a b q => q.elim (h pins s σ H x y v u Q I a b) (h' pins s σ H x y v u Q I a b)
theorem CallR.or {f : Value} {r r' : List V → Hp → VK → Prop} (h : CallR X f r) (h' : CallR X f r') : CallR X f (fun x H Q => r x H Q ∨ r' x H Q) :=
  fun pins s σ H x v Q I a q => q.elim (h pins s σ H x v Q I a) (h' pins s σ H x v Q I a)
end

variable {w : Wd}
/-! ### lists and tuples read -/
def cellL (μ : List M) (n : Nat) : Option (List D) := match μ[n]? with
  | some (.lst l) => some l
  | _ => none
def lsOf (μ : List M) : D → Option (List D)
  | .lst l => some l
  | .ro l => some l
  | .loc n => cellL μ n
  | _ => none
theorem sqL_of {as : List Addr} {H : Hp} {μ : List M} {v : V} {d : D} {l : List D} (r : Rel w as H μ) (h : Den w as H v d) (e : lsOf μ d = some l) : ∃ a vs, v = .ref a ∧ SqL w.K H a vs ∧ Dens w as H vs l := by
  cases h with
  | lst f n q k => cases e; exact ⟨_, _, rfl, .inl (.inl q), k⟩
  | ro f n q k => cases e; exact ⟨_, _, rfl, .inl q, k⟩
  | roK q k => cases e; exact ⟨_, _, rfl, q H, k⟩
  | @loc a n q =>
    have e : cellL μ n = some l := e
    unfold cellL at e
    cases z : μ[n]? with
    | none => rw [z] at e; cases e
    | some m =>
      rw [z] at e
      cases m with
      | lst l' =>
        cases e
        obtain ⟨vs, h1, h2⟩ := r.cell n a _ q z
        exact ⟨_, _, rfl, .inl (.inl h1), h2⟩
      | _ => cases e
  | _ => cases e
theorem sqT_of {as : List Addr} {H : Hp} {v : V} {l : List D} (h : Den w as H v (.tup l)) : ∃ a vs, v = .ref a ∧ SqT w.K H a vs ∧ Dens w as H vs l := by
  cases h with
  | tup f n q k => exact ⟨_, _, rfl, .inl (.inl q), k⟩
  | tupK q k => exact ⟨_, _, rfl, q H, k⟩
/-- a list that stands by itself -/
def stOf (μ : List M) : D → Option (List D)
  | .lst l => some l
  | .loc n => cellL μ n
  | _ => none
theorem stL_of {as : List Addr} {H : Hp} {μ : List M} {v : V} {d : D} {l : List D} (r : Rel w as H μ) (h : Den w as H v d) (e : stOf μ d = some l) : ∃ a vs, v = .ref a ∧ H a = some (.lst vs) ∧ Dens w as H vs l := by
  cases h with
  | lst f n q k => cases e; exact ⟨_, _, rfl, q, k⟩
  | @loc a n q =>
    have e : cellL μ n = some l := e
    unfold cellL at e
    cases z : μ[n]? with
    | none => rw [z] at e; cases e
    | some m =>
      rw [z] at e
      cases m with
      | lst l' =>
        cases e
        obtain ⟨vs, h1, h2⟩ := r.cell n a _ q z
        exact ⟨_, _, rfl, h1, h2⟩
      | _ => cases e
  | _ => cases e

theorem str_eq (x : Str) : (⟨x.cps.toList.toArray⟩ : Str) = x := by
  cases x; simp
theorem Den.strV {as : List Addr} {H : Hp} (x : Str) : Den w as H (.str x) (.str x.cps.toList) := by
  have h := Den.str (w := w) (as := as) (H := H) x.cps.toList
  rw [str_eq] at h
  exact h
theorem str_len (s : List Nat) : (⟨s.toArray⟩ : Str).length = s.length := by show s.toArray.size = _; simp

/-! ### names, constants -/
section
variable {X : Cx} {W : WX}
def mVar (i : Nat) : EM := fun δ μ => match δ[i]? with
  | some (some d) => .ok d μ
  | _ => .bad
def mC (d : D) : EM := fun _ μ => .ok d μ
theorem d_var {i : Nat} {x : Str} {pos : Pos} (hN : X.N[i]? = some x) (hv : Vis X.env.scope x) (hd : (x == ("__debug__" : Str)) = false := by decide) (hcd : (x == ("__classdict__" : Str)) = false := by decide) : PE X (.Name x pos) (rdE w W (mVar i)) :=
  PE.to (pe_var hN hv hd hcd) fun σ H Q ⟨fr, as, δ, μ, h, q⟩ => by
    have q' : EOk (w.on fr) W σ as H (match δ[i]? with | some (some d) => .ok d μ | _ => .bad) Q := q
    cases e : δ[i]? with
    | none => rw [e] at q'; exact q'.elim
    | some o =>
      rw [e] at q'
      cases o with
      | none => exact q'.elim
      | some d =>
        obtain ⟨v, hv, hd⟩ := h.sl.get i d e
        exact ⟨v, hv, q' v H as Ext.refl h.rel hd⟩
theorem d_c {e : Expr} {v : V} {d : D} (he : PE X e (tC v)) (hd : ∀ fr as H, Den (w.on fr) as H v d) : PE X e (rdE w W (mC d)) :=
  PE.to he fun σ H Q ⟨fr, as, δ, μ, h, q⟩ => q v H as Ext.refl h.rel (hd fr as H)
theorem d_int {i j pos} : PE X (.Constant (.int i) j pos) (rdE w W (mC (.int i))) := d_c pe_int fun _ _ _ => .int i
theorem d_bl {b j pos} : PE X (.Constant (.bool b) j pos) (rdE w W (mC (.bl b))) := d_c pe_bl fun _ _ _ => .bl b
theorem d_non {j pos} : PE X (.Constant .none j pos) (rdE w W (mC .non)) := d_c pe_non fun _ _ _ => .non
theorem d_str {x : Str} {j pos} : PE X (.Constant (.str x) j pos) (rdE w W (mC (.str x.cps.toList))) := d_c pe_str fun _ _ _ => .strV x

/-! ### operators -/
def mOp (f : D → D → List M → ER) (a b : EM) : EM := fun δ μ => (a δ μ).bind fun x μ => (b δ μ).bind fun y μ => f x y μ
/-- what an operation does on data -/
def OpD (w : Wd) (r : R2) (f : D → D → List M → ER) : Prop := ∀ W σ as H δ μ x y vx vy Q, Here w as H σ δ μ → Den w as H vx x → Den w as H vy y → EOk w W σ as H (f x y μ) Q → r vx vy H Q
theorem bE2 {fr as H σ δ μ} {ma mb : EM} {f : D → D → List M → ER} {Q : VK} {r : V → V → Hp → VK → Prop} (h : Here (w.on fr) as H σ δ μ) (q : EOk (w.on fr) W σ as H (mOp f ma mb δ μ) Q)
    (hf : ∀ as H μ x y vx vy, Here (w.on fr) as H σ δ μ → Den (w.on fr) as H vx x → Den (w.on fr) as H vy y → EOk (w.on fr) W σ as H (f x y μ) Q → r vx vy H Q) : rdE w W ma σ H fun x H1 => rdE w W mb σ H1 fun y H2 => r x y H2 Q := by
  refine bE h q fun vx H1 as1 x μ1 h1 d1 q1 => ?_
  refine ⟨fr, as1, δ, μ1, h1, ?_⟩
  revert q1
  cases mb δ μ1 with
  | ok y μ2 => exact fun q1 vy H2 as2 e2 r2 d2 => hf as2 H2 μ2 x y vx vy (h1.ext e2 r2) (d1.ext e2) d2 (EOk.ext e2 q1)
  | exc c fs μ2 => exact fun q1 => q1
  | bad => exact fun q1 => q1
theorem d_op {op : Operator} {a b : Expr} {pos : Pos} {r : R2} {f : D → D → List M → ER} {ma mb : EM} (ho : OpR X (binaryOp op) r) (hf : ∀ fr, OpD (w.on fr) r f) (ha : PE X a (rdE w W ma)) (hb : PE X b (rdE w W mb)) : PE X (.BinOp a op b pos) (rdE w W (mOp f ma mb)) :=
  PE.to (pe_op ho ha hb) fun σ H Q ⟨fr, as, δ, μ, h, q⟩ => bE2 h q fun as H μ x y vx vy h dx dy q => hf fr W σ as H δ μ x y vx vy Q h dx dy q
theorem d_cmp {op : CmpOp} {a b : Expr} {pos : Pos} {r : R2} {f : D → D → List M → ER} {ma mb : EM} (ho : OpR X (compareOp op) r) (hf : ∀ fr, OpD (w.on fr) r f) (ha : PE X a (rdE w W ma)) (hb : PE X b (rdE w W mb)) (hm : behindInMarks op b = false) : PE X (.Compare a [op] [b] pos) (rdE w W (mOp f ma mb)) :=
  PE.to (pe_cmpR ho ha hb hm) fun σ H Q ⟨fr, as, δ, μ, h, q⟩ => bE2 h q fun as H μ x y vx vy h dx dy q => hf fr W σ as H δ μ x y vx vy Q h dx dy q
def mUn (f : D → List M → ER) (a : EM) : EM := fun δ μ => (a δ μ).bind fun x μ => f x μ
def UnD (w : Wd) (r : V → Hp → VK → Prop) (f : D → List M → ER) : Prop := ∀ W σ as H δ μ x vx Q, Here w as H σ δ μ → Den w as H vx x → EOk w W σ as H (f x μ) Q → r vx H Q
theorem d_un {op : UnaryOp} {a : Expr} {pos : Pos} {r : V → Hp → VK → Prop} {f : D → List M → ER} {ma : EM} (ho : UnR X (unaryOp op) r) (hf : ∀ fr, UnD (w.on fr) r f) (ha : PE X a (rdE w W ma)) : PE X (.UnaryOp op a pos) (rdE w W (mUn f ma)) :=
  PE.to (pe_un ho ha) fun σ H Q ⟨fr, as, δ, μ, h, q⟩ => bE h q fun vx H1 as1 x μ1 h1 d1 q1 => hf fr W σ as1 H1 δ μ1 x vx Q h1 d1 q1

/-! ints -/
def fI (C : Int → Int → Bool) (g : Int → Int → Int) : D → D → List M → ER := fun x y μ => match x, y with
  | .int i, .int j => if C i j then .ok (.int (g i j)) μ else .bad
  | _, _ => .bad
def fB (g : Int → Int → Bool) : D → D → List M → ER := fun x y μ => match x, y with
  | .int i, .int j => .ok (.bl (g i j)) μ
  | _, _ => .bad
theorem od_I {C : Int → Int → Bool} {P : Int → Int → Prop} {g : Int → Int → Int} (hc : ∀ i j, C i j = true → P i j) : OpD w (rI P fun i j => .int (g i j)) (fI C g) := by
  intro W σ as H δ μ x y vx vy Q h dx dy q
  cases dx with
  | int i =>
    cases dy with
    | int j =>
      have q : EOk w W σ as H (if C i j then .ok (.int (g i j)) μ else .bad) Q := q
      cases e : C i j with
      | true =>
        rw [e] at q
        exact ⟨i, j, rfl, rfl, hc i j e, q _ H as Ext.refl h.rel (.int _)⟩
      | false => rw [e] at q; exact q.elim
    | _ => exact q.elim
  | _ => exact q.elim
theorem od_I0 {g : Int → Int → Int} : OpD w (rI0 fun i j => .int (g i j)) (fI (fun _ _ => true) g) := by
  intro W σ as H δ μ x y vx vy Q h dx dy q
  cases dx with
  | int i =>
    cases dy with
    | int j => exact ⟨i, j, rfl, rfl, q _ H as Ext.refl h.rel (.int _)⟩
    | _ => exact q.elim
  | _ => exact q.elim
theorem od_B {g : Int → Int → Bool} : OpD w (rI0 fun i j => .bl (g i j)) (fB g) := by
  intro W σ as H δ μ x y vx vy Q h dx dy q
  cases dx with
  | int i =>
    cases dy with
    | int j => exact ⟨i, j, rfl, rfl, q _ H as Ext.refl h.rel (.bl _)⟩
    | _ => exact q.elim
  | _ => exact q.elim
abbrev fSub := fI (fun _ _ => true) fun i j => i - j
def small64 (i : Int) : Bool := decide (-(2 ^ 64) < i ∧ i < 2 ^ 64)
abbrev fMod := fI (fun _ j => decide (0 < j)) fun i j => i % j
abbrev fDiv := fI (fun _ j => decide (0 < j ∧ j < 1073741824)) fun i j => i / j
abbrev fPow := fI (fun i j => decide (0 ≤ j ∧ j ≤ 1000000 ∧ i.natAbs < 2 ^ 64)) fun i j => i ^ j.toNat
abbrev fLt := fB fun i j => decide (i < j)
abbrev fLe := fB fun i j => decide (i ≤ j)
abbrev fGt := fB fun i j => decide (j < i)
abbrev fGe := fB fun i j => decide (j ≤ i)
theorem d_sub {a b : Expr} {pos : Pos} {ma mb : EM} (ha : PE X a (rdE w W ma)) (hb : PE X b (rdE w W mb)) : PE X (.BinOp a .Sub b pos) (rdE w W (mOp fSub ma mb)) := d_op op_sub (fun _ => od_I0) ha hb
theorem d_mod {a b : Expr} {pos : Pos} {ma mb : EM} (ha : PE X a (rdE w W ma)) (hb : PE X b (rdE w W mb)) : PE X (.BinOp a .Mod b pos) (rdE w W (mOp fMod ma mb)) := d_op op_mod (fun _ => od_I fun _ _ h => by simpa [CDiv, CPow] using h) ha hb
theorem d_div {a b : Expr} {pos : Pos} {ma mb : EM} (ha : PE X a (rdE w W ma)) (hb : PE X b (rdE w W mb)) : PE X (.BinOp a .FloorDiv b pos) (rdE w W (mOp fDiv ma mb)) := d_op op_fdiv (fun _ => od_I fun _ _ h => by simpa [CDiv, CPow] using h) ha hb
theorem d_pow {a b : Expr} {pos : Pos} {ma mb : EM} (ha : PE X a (rdE w W ma)) (hb : PE X b (rdE w W mb)) : PE X (.BinOp a .Pow b pos) (rdE w W (mOp fPow ma mb)) := d_op op_pow (fun _ => od_I fun _ _ h => by simpa [CDiv, CPow] using h) ha hb
theorem d_lt {a b : Expr} {pos : Pos} {ma mb : EM} (ha : PE X a (rdE w W ma)) (hb : PE X b (rdE w W mb)) : PE X (.Compare a [.Lt] [b] pos) (rdE w W (mOp fLt ma mb)) := d_cmp op_lt (fun _ => od_B) ha hb (nomark _)
theorem d_le {a b : Expr} {pos : Pos} {ma mb : EM} (ha : PE X a (rdE w W ma)) (hb : PE X b (rdE w W mb)) : PE X (.Compare a [.LtE] [b] pos) (rdE w W (mOp fLe ma mb)) := d_cmp op_le (fun _ => od_B) ha hb (nomark _)
theorem d_gt {a b : Expr} {pos : Pos} {ma mb : EM} (ha : PE X a (rdE w W ma)) (hb : PE X b (rdE w W mb)) : PE X (.Compare a [.Gt] [b] pos) (rdE w W (mOp fGt ma mb)) := d_cmp op_gt (fun _ => od_B) ha hb (nomark _)
theorem d_ge {a b : Expr} {pos : Pos} {ma mb : EM} (ha : PE X a (rdE w W ma)) (hb : PE X b (rdE w W mb)) : PE X (.Compare a [.GtE] [b] pos) (rdE w W (mOp fGe ma mb)) := d_cmp op_ge (fun _ => od_B) ha hb (nomark _)
/-- a <= b <= c, .. of ints -/
def mChain (g g' : Int → Int → Bool) (a b c : EM) : EM := fun δ μ => (a δ μ).bind fun x μ => (b δ μ).bind fun y μ => match x, y with
  | .int i, .int j => if g i j then (c δ μ).bind fun z μ => match z with
    | .int k => .ok (.bl (g' j k)) μ
    | _ => .bad
    else .ok (.bl false) μ
  | _, _ => .bad
theorem d_chain {op op' : CmpOp} {a b c : Expr} {pos : Pos} {g g' : Int → Int → Bool} {ma mb mc : EM} (ho : OpR X (compareOp op) (rI0 fun i j => .bl (g i j))) (ho' : OpR X (compareOp op') (rI0 fun i j => .bl (g' i j)))
    (ha : PE X a (rdE w W ma)) (hb : PE X b (rdE w W mb)) (hc : PE X c (rdE w W mc)) (hm : lastMarks [op, op'] [b, c] = false := by with_unfolding_all rfl) : PE X (.Compare a [op, op'] [b, c] pos) (rdE w W (mChain g g' ma mb mc)) := by
  refine PE.to (pe_chain ho ho' ha hb hc hm) fun σ H Q ⟨fr, as, δ, μ, h, q⟩ => ?_
  refine bE h q fun vx H1 as1 x μ1 h1 d1 q1 => ?_
  refine ⟨fr, as1, δ, μ1, h1, ?_⟩
  revert q1
  cases mb δ μ1 with
  | exc c fs μ2 => exact fun q1 => q1
  | bad => exact fun q1 => q1
  | ok y μ2 =>
    intro q1 vy H2 as2 e2 r2 d2
    have h2 := h1.ext e2 r2
    have d1' := d1.ext e2
    have q2 := EOk.ext e2 q1
    cases d1' with
    | int i =>
      cases d2 with
      | int j =>
        refine ⟨i, j, rfl, rfl, g i j, rfl, ?_⟩
        have q3 : EOk (w.on fr) W σ as2 H2 (if g i j then (mc δ μ2).bind fun z μ => match z with | .int k => .ok (.bl (g' j k)) μ | _ => .bad else .ok (.bl false) μ2) Q := q2
        cases e : g i j with
        | false =>
          rw [e] at q3
          exact q3 _ H2 as2 Ext.refl h2.rel (.bl false)
        | true =>
          rw [e] at q3
          refine bE h2 q3 fun vz H3 as3 z μ3 h3 d3 q4 => ?_
          cases d3 with
          | int k => exact ⟨j, k, rfl, rfl, q4 _ H3 as3 Ext.refl h3.rel (.bl _)⟩
          | _ => exact q4.elim
      | _ => exact q2.elim
    | _ => exact q2.elim


/-! + -/
theorem stOf_ls {μ : List M} {d : D} {l : List D} (h : stOf μ d = some l) : lsOf μ d = some l := by
  cases d <;> first | exact h | cases h
def catOk (a b : Nat) : Bool := decide (a + b ≤ 16777216)
theorem catOk_line {a b : Nat} (h : catOk a b = true) : a + b ≤ sizeLine := by
  have h := of_decide_eq_true h
  rw [sizeLine_eq]; exact h
def fCatL (x y : D) (μ : List M) : ER := match stOf μ x, stOf μ y with
  | some a, some b => if catOk a.length b.length then .ok (.lst (a ++ b)) μ else .bad
  | _, _ => .bad
def fAdd (x y : D) (μ : List M) : ER := match x with
  | .int i => match y with
    | .int j => .ok (.int (i + j)) μ
    | _ => .bad
  | .str a => match y with
    | .str b => if catOk a.length b.length then .ok (.str (a ++ b)) μ else .bad
    | _ => .bad
  | .tup (u :: a) => match y with
    | .tup b => if catOk (u :: a).length b.length then .ok (.tup (u :: a ++ b)) μ else .bad
    | _ => .bad
  | x => fCatL x y μ
abbrev rAddAll (K : PySem.W.Frag) : R2 := fun x y H Q => (rI0 (fun i j => .int (i + j)) x y H Q ∨ (∃ i j, x = .str i ∧ y = .str j ∧ i.length + j.length ≤ sizeLine ∧ Q (.str (i ++ j)) H)) ∨ (rCatT K x y H Q ∨ rCat x y H Q)
theorem op_addAll {X : Cx} : OpR X (binaryOp .Add) (rAddAll X.K) := (op_add.or op_add_str).or (op_catT.or op_cat)
theorem str_app (a b : List Nat) : (⟨a.toArray⟩ : Str) ++ ⟨b.toArray⟩ = ⟨(a ++ b).toArray⟩ := by
  show (⟨a.toArray ++ b.toArray⟩ : Str) = _
  simp
theorem od_catL {W : WX} {σ : L2.St} {as : List Addr} {H : Hp} {δ : Dv} {μ : List M} {x y : D} {vx vy : V} {Q : VK} (h : Here w as H σ δ μ) (dx : Den w as H vx x) (dy : Den w as H vy y) (q : EOk w W σ as H (fCatL x y μ) Q) : rCat vx vy H Q := by
  unfold fCatL at q
  cases e1 : stOf μ x with
  | none => rw [e1] at q; exact q.elim
  | some a =>
    cases e2 : stOf μ y with
    | none => rw [e1, e2] at q; exact q.elim
    | some b =>
      rw [e1, e2] at q
      cases e3 : catOk a.length b.length with
      | false => simp only [e3] at q; exact q.elim
      | true =>
        simp only [e3] at q
        obtain ⟨p1, vs1, rfl, h1, k1⟩ := stL_of h.rel dx e1
        obtain ⟨p2, vs2, rfl, h2, k2⟩ := stL_of h.rel dy e2
        refine ⟨p1, p2, vs1, vs2, rfl, rfl, h1, h2, ?_, fun p hp => ?_⟩
        · rw [k1.length, k2.length]; exact catOk_line e3
        · exact q (.ref p) _ as (Ext.push hp) (h.rel.push hp) (.lst (h.rel.newF hp) (h.rel.new hp) upd_same ((k1.append k2).ext (Ext.push hp)))
theorem od_add {X : Cx} (hK : X.K = w.K) : OpD w (rAddAll X.K) fAdd := by
  intro W σ as H δ μ x y vx vy Q h dx dy q
  rw [hK]
  cases x with
  | int i =>
    cases dx
    cases y with
    | int j => cases dy; exact .inl (.inl ⟨i, j, rfl, rfl, q _ H as Ext.refl h.rel (.int _)⟩)
    | _ => exact q.elim
  | str a =>
    cases dx
    cases y with
    | str b =>
      cases dy
      have q : EOk w W σ as H (if catOk a.length b.length then .ok (.str (a ++ b)) μ else .bad) Q := q
      cases e : catOk a.length b.length with
      | false => rw [e] at q; exact q.elim
      | true =>
        rw [e] at q
        refine .inl (.inr ⟨_, _, rfl, rfl, ?_, ?_⟩)
        · rw [str_len, str_len]; exact catOk_line e
        · rw [str_app]; exact q _ H as Ext.refl h.rel (.str _)
    | _ => exact q.elim
  | tup a =>
    cases a with
    | nil => exact .inr (.inr (od_catL h dx dy q))
    | cons u a =>
      obtain ⟨p1, vs1, rfl, h1, k1⟩ := sqT_of dx
      cases y with
      | tup b =>
        obtain ⟨p2, vs2, rfl, h2, k2⟩ := sqT_of dy
        have ne : vs1 ≠ [] := fun z => by rw [z] at k1; cases k1
        have q : EOk w W σ as H (if catOk (u :: a).length b.length then .ok (.tup (u :: a ++ b)) μ else .bad) Q := q
        cases e : catOk (u :: a).length b.length with
        | false => rw [e] at q; exact q.elim
        | true =>
          rw [e] at q
          refine .inr (.inl ⟨p1, p2, vs1, vs2, rfl, rfl, h1, h2, ne, ?_, fun z => ?_, fun z p hp => ?_⟩)
          · rw [k1.length, k2.length]; exact catOk_line e
          · subst z
            cases k2
            refine q _ H as Ext.refl h.rel ?_
            rw [List.append_nil]; exact dx
          · exact q (.ref p) _ as (Ext.push hp) (h.rel.push hp) (.tup (h.rel.newF hp) (h.rel.new hp) upd_same ((k1.append k2).ext (Ext.push hp)))
      | _ => exact q.elim
  | _ => exact .inr (.inr (od_catL h dx dy q))
theorem d_add {X : Cx} {W : WX} {a b : Expr} {pos : Pos} {ma mb : EM} (ha : PE X a (rdE w W ma)) (hb : PE X b (rdE w W mb)) (hK : X.K = w.K := by rfl) : PE X (.BinOp a .Add b pos) (rdE w W (mOp fAdd ma mb)) := d_op op_addAll (fun _ => od_add hK) ha hb

/-! * -/
def mulOk (i j : Int) : Bool := decide ((-(2 ^ 64) < i ∧ i < 2 ^ 64) ∨ (-(2 ^ 64) < j ∧ j < 2 ^ 64))
def repOk (n : Nat) (k : Int) : Bool := decide (-(2 ^ 63) ≤ k ∧ k < 2 ^ 63 ∧ n * k.toNat ≤ 16777216)
def fRepL (x y : D) (μ : List M) : ER := match y with
  | .int k => match stOf μ x with
    | some a => if repOk a.length k then .ok (.lst (List.replicate k.toNat a).flatten) μ else .bad
    | none => .bad
  | _ => .bad
def fMul (x y : D) (μ : List M) : ER := match x with
  | .int i => match y with
    | .int j => if mulOk i j then .ok (.int (i * j)) μ else .bad
    | _ => .bad
  | x => fRepL x y μ
theorem Dens.rep {as : List Addr} {H : Hp} {vs : List V} {ds : List D} (h : Dens w as H vs ds) : ∀ n : Nat, Dens w as H (List.replicate n vs).flatten (List.replicate n ds).flatten
  | 0 => .nil
  | n + 1 => by
    rw [List.replicate_succ, List.replicate_succ, List.flatten_cons, List.flatten_cons]
    exact h.append (Dens.rep h n)
theorem od_repL {W : WX} {σ : L2.St} {as : List Addr} {H : Hp} {δ : Dv} {μ : List M} {x y : D} {vx vy : V} {Q : VK} (h : Here w as H σ δ μ) (dx : Den w as H vx x) (dy : Den w as H vy y) (q : EOk w W σ as H (fRepL x y μ) Q) : rRep vx vy H Q := by
  unfold fRepL at q
  cases dy with
  | int k =>
    cases e1 : stOf μ x with
    | none => simp only [e1] at q; exact q.elim
    | some a =>
      simp only [e1] at q
      cases e2 : repOk a.length k with
      | false => simp only [e2] at q; exact q.elim
      | true =>
        simp only [e2] at q
        obtain ⟨p1, vs1, rfl, h1, k1⟩ := stL_of h.rel dx e1
        have e2' : -(2 ^ 63) ≤ k ∧ k < 2 ^ 63 ∧ a.length * k.toNat ≤ 16777216 := of_decide_eq_true e2
        obtain ⟨g1, g2, g3⟩ := e2'
        refine ⟨p1, k, vs1, rfl, rfl, h1, g1, g2, ?_, fun p hp => ?_⟩
        · rw [k1.length, sizeLine_eq]; exact g3
        · exact q (.ref p) _ as (Ext.push hp) (h.rel.push hp) (.lst (h.rel.newF hp) (h.rel.new hp) upd_same ((k1.rep _).ext (Ext.push hp)))
  | _ => exact q.elim
theorem od_mul : OpD w (fun x y H Q => rI CMul (fun i j => .int (i * j)) x y H Q ∨ rRep x y H Q) fMul := by
  intro W σ as H δ μ x y vx vy Q h dx dy q
  cases x with
  | int i =>
    cases dx
    cases y with
    | int j =>
      cases dy
      have q : EOk w W σ as H (if mulOk i j then .ok (.int (i * j)) μ else .bad) Q := q
      cases e : mulOk i j with
      | false => rw [e] at q; exact q.elim
      | true =>
        rw [e] at q
        have e' : (-(2 ^ 64) < i ∧ i < 2 ^ 64) ∨ (-(2 ^ 64) < j ∧ j < 2 ^ 64) := of_decide_eq_true e
        exact .inl ⟨i, j, rfl, rfl, e', q _ H as Ext.refl h.rel (.int _)⟩
    | _ => exact q.elim
  | _ => exact .inr (od_repL h dx dy q)
theorem d_mul {X : Cx} {W : WX} {a b : Expr} {pos : Pos} {ma mb : EM} (ha : PE X a (rdE w W ma)) (hb : PE X b (rdE w W mb)) : PE X (.BinOp a .Mult b pos) (rdE w W (mOp fMul ma mb)) := d_op (op_mul.or op_rep) (fun _ => od_mul) ha hb

/-! == and != of data -/
mutual
def py : D → Option PyData
  | .non => some .none
  | .bl b => some (.bool b)
  | .int i => some (.int i)
  | .str s => some (.str ⟨s.toArray⟩)
  | .lst l => (pys l).map .list
  | .ro l => (pys l).map .list
  | .tup l => (pys l).map .tuple
  | .dic _ => none
  | .obj _ _ => none
  | .exc _ _ => none
  | .ty _ => none
  | .cls _ => none
  | .lam => none
  | .loc _ => none
def pys : List D → Option (List PyData)
  | [] => some []
  | d :: l => match py d, pys l with
    | some x, some xs => some (x :: xs)
    | _, _ => none
end
mutual
theorem py_dp {as : List Addr} {H : Hp} {K : PySem.W.Frag} (hK : w.K = K) : ∀ {v : V} {d : D} {p : PyData}, Den w as H v d → py d = some p → Dp K H v p
  | _, _, _, .non, e => by cases e; exact .non
  | _, _, _, .bl b, e => by cases e; exact .bl b
  | _, _, _, .int i, e => by cases e; exact .int i
  | _, _, _, .str s, e => by cases e; exact .str _
  | _, .lst l, _, .lst f n q k, e => by
    cases z : pys l with
    | none => simp only [py, z] at e; cases e
    | some xs =>
      simp only [py, z] at e; cases e
      exact .lst (.inl (.inl q)) (pys_dp hK k z)
  | _, .ro l, _, .ro f n q k, e => by
    cases z : pys l with
    | none => simp only [py, z] at e; cases e
    | some xs =>
      simp only [py, z] at e; cases e
      exact .lst (.inl q) (pys_dp hK k z)
  | _, .ro l, _, .roK q k, e => by
    cases z : pys l with
    | none => simp only [py, z] at e; cases e
    | some xs =>
      simp only [py, z] at e; cases e
      exact .lst (hK ▸ q H) (pys_dp hK k z)
  | _, .tup l, _, .tup f n q k, e => by
    cases z : pys l with
    | none => simp only [py, z] at e; cases e
    | some xs =>
      simp only [py, z] at e; cases e
      exact .tup (.inl (.inl q)) (pys_dp hK k z)
  | _, .tup l, _, .tupK q k, e => by
    cases z : pys l with
    | none => simp only [py, z] at e; cases e
    | some xs =>
      simp only [py, z] at e; cases e
      exact .tup (hK ▸ q H) (pys_dp hK k z)
  | _, _, _, .dic _ _ _ _ _, e => by cases e
  | _, _, _, .obj _ _ _ _ _, e => by cases e
  | _, _, _, .exc0 _ _ _, e => by cases e
  | _, _, _, .excD _ _ _ _ _ _ _ _, e => by cases e
  | _, _, _, .ty _, e => by cases e
  | _, _, _, .cls _, e => by cases e
  | _, _, _, .lam _, e => by cases e
  | _, _, _, .loc _, e => by cases e
theorem pys_dp {as : List Addr} {H : Hp} {K : PySem.W.Frag} (hK : w.K = K) : ∀ {vs : List V} {ds : List D} {ps : List PyData}, Dens w as H vs ds → pys ds = some ps → DpAll K H vs ps
  | _, _, _, .nil, e => by cases e; exact .nil
  | _, d :: l, _, .cons h t, e => by
    cases z : py d with
    | none => simp only [pys, z] at e; cases e
    | some x =>
      cases z2 : pys l with
      | none => simp only [pys, z, z2] at e; cases e
      | some xs =>
        simp only [pys, z, z2] at e; cases e
        exact .cons (py_dp hK h z) (pys_dp hK t z2)
end
/-- a list's cell as it stands, on top -/
def top (μ : List M) (d : D) : D := match d with
  | .loc n => match cellL μ n with
    | some l => .lst l
    | none => .loc n
  | d => d
theorem top_dp {as : List Addr} {H : Hp} {μ : List M} {K : PySem.W.Frag} (hK : w.K = K) {v : V} {d : D} {p : PyData} (r : Rel w as H μ) (h : Den w as H v d) (e : py (top μ d) = some p) : Dp K H v p := by
  cases d with
  | loc n =>
    unfold top at e
    cases z : cellL μ n with
    | none => simp only [z] at e; cases e
    | some l =>
      simp only [z] at e
      obtain ⟨a, vs, rfl, h1, h2⟩ := stL_of r h (show stOf μ (.loc n) = some l from z)
      cases z2 : pys l with
      | none => simp only [py, z2] at e; cases e
      | some xs =>
        simp only [py, z2] at e; cases e
        exact .lst (.inl (.inl h1)) (pys_dp hK h2 z2)
  | _ => exact py_dp hK h e
def fEqD (neg : Bool) (x y : D) (μ : List M) : ER := match py (top μ x), py (top μ y) with
  | some a, some b => if SeqAt.shaped a && SeqAt.shaped b then .ok (.bl (if neg then !PyData.eqv a b else PyData.eqv a b)) μ else .bad
  | _, _ => .bad
theorem od_eqD {K : PySem.W.Frag} (hK : w.K = K) : OpD w (rEqD K) (fEqD false) := by
  intro W σ as H δ μ x y vx vy Q h dx dy q
  unfold fEqD at q
  cases e1 : py (top μ x) with
  | none => rw [e1] at q; exact q.elim
  | some a =>
    cases e2 : py (top μ y) with
    | none => rw [e1, e2] at q; exact q.elim
    | some b =>
      rw [e1, e2] at q
      cases e3 : (SeqAt.shaped a && SeqAt.shaped b) with
      | false => simp only [e3] at q; exact q.elim
      | true =>
        simp only [e3] at q
        obtain ⟨s1, s2⟩ := Bool.and_eq_true_iff.mp e3
        exact ⟨a, b, top_dp hK h.rel dx e1, top_dp hK h.rel dy e2, s1, s2, q _ H as Ext.refl h.rel (.bl _)⟩
theorem od_neD {K : PySem.W.Frag} (hK : w.K = K) : OpD w (rNeD K) (fEqD true) := by
  intro W σ as H δ μ x y vx vy Q h dx dy q
  unfold fEqD at q
  cases e1 : py (top μ x) with
  | none => rw [e1] at q; exact q.elim
  | some a =>
    cases e2 : py (top μ y) with
    | none => rw [e1, e2] at q; exact q.elim
    | some b =>
      rw [e1, e2] at q
      cases e3 : (SeqAt.shaped a && SeqAt.shaped b) with
      | false => simp only [e3] at q; exact q.elim
      | true =>
        simp only [e3] at q
        obtain ⟨s1, s2⟩ := Bool.and_eq_true_iff.mp e3
        exact ⟨a, b, top_dp hK h.rel dx e1, top_dp hK h.rel dy e2, s1, s2, q _ H as Ext.refl h.rel (.bl _)⟩
theorem d_eq {X : Cx} {W : WX} {a b : Expr} {pos : Pos} {ma mb : EM} (hu : X.A.units + 64 < cLine) (ha : PE X a (rdE w W ma)) (hb : PE X b (rdE w W mb)) (hK : w.K = X.K := by rfl) : PE X (.Compare a [.Eq] [b] pos) (rdE w W (mOp (fEqD false) ma mb)) := d_cmp (op_eqD hu) (fun _ => od_eqD hK) ha hb (nomark _)
theorem d_ne {X : Cx} {W : WX} {a b : Expr} {pos : Pos} {ma mb : EM} (hu : X.A.units + 64 < cLine) (ha : PE X a (rdE w W ma)) (hb : PE X b (rdE w W mb)) (hK : w.K = X.K := by rfl) : PE X (.Compare a [.NotEq] [b] pos) (rdE w W (mOp (fEqD true) ma mb)) := d_cmp (op_neD hu) (fun _ => od_neD hK) ha hb (nomark _)

/-! is None; a sign in a text -/
def isNon : D → Bool
  | .non => true
  | _ => false
def fIsN (neg : Bool) (x _y : D) (μ : List M) : ER := .ok (.bl (if neg then !isNon x else isNon x)) μ
theorem den_non {as : List Addr} {H : Hp} {v : V} {d : D} (h : Den w as H v d) : decide (v = .non) = isNon d := by
  cases h <;> simp [isNon]
theorem d_isN {X : Cx} {W : WX} {a : Expr} {j p pos} {ma : EM} (ha : PE X a (rdE w W ma)) : PE X (.Compare a [.Is] [.Constant .none j p] pos) (rdE w W (mUn (fun x μ => .ok (.bl (isNon x)) μ) ma)) :=
  PE.to (pe_cmpR op_isN ha pe_non (nomark _)) fun σ H Q ⟨fr, as, δ, μ, h, q⟩ => bE h q fun vx H1 as1 x μ1 h1 d1 q1 => ⟨rfl, by rw [den_non d1]; exact q1 _ H1 as1 Ext.refl h1.rel (.bl _)⟩
theorem d_notN {X : Cx} {W : WX} {a : Expr} {j p pos} {ma : EM} (ha : PE X a (rdE w W ma)) : PE X (.Compare a [.IsNot] [.Constant .none j p] pos) (rdE w W (mUn (fun x μ => .ok (.bl (!isNon x)) μ) ma)) :=
  PE.to (pe_cmpR op_notN ha pe_non (nomark _)) fun σ H Q ⟨fr, as, δ, μ, h, q⟩ => bE h q fun vx H1 as1 x μ1 h1 d1 q1 => ⟨rfl, by rw [den_non d1]; exact q1 _ H1 as1 Ext.refl h1.rel (.bl _)⟩

end
end DL

namespace DL
open PySem PySem.Spec PyProof.Rows L2
variable {w : Wd}
section
variable {X : Cx} {W : WX} {e a b c : Expr} {pos : Pos}

/-! ### tests -/
def mB (m : EM) : TM := fun δ μ => (m δ μ).bindT fun d μ => match d with
  | .bl b => .ok b μ
  | _ => .bad
theorem t_val {m : EM} (h : PE X e (rdE w W m)) (he : ∀ whole, isTrue e X.env whole = (do let v ← whole; standAt e.pos; holding [v] (truthy v)) := by intro _; rfl) : PT X e (rdT w W (mB m)) :=
  PT.to (pt_val h he) fun σ H Q ⟨fr, as, δ, μ, h, q⟩ => bET h q fun v H1 as1 d μ1 h1 d1 q1 => by
    cases d1 with
    | bl b => exact ⟨b, rfl, q1 H1 as1 Ext.refl h1.rel⟩
    | _ => exact q1.elim
theorem t_chain {op op' : CmpOp} {g g' : Int → Int → Bool} {ma mb mc : EM} (ho : OpR X (compareOp op) (rI0 fun i j => .bl (g i j))) (ho' : OpR X (compareOp op') (rI0 fun i j => .bl (g' i j)))
    (ha : PE X a (rdE w W ma)) (hb : PE X b (rdE w W mb)) (hc : PE X c (rdE w W mc)) (hm : lastMarks [op, op'] [b, c] = false := by with_unfolding_all rfl) : PT X (.Compare a [op, op'] [b, c] pos) (rdT w W (mB (mChain g g' ma mb mc))) := by
  refine PT.to (pt_chain ho ho' ha hb hc hm) fun σ H Q ⟨fr, as, δ, μ, h, q⟩ => ?_
  have q0 : EOk (w.on fr) W σ as H (mChain g g' ma mb mc δ μ) (fun v H' => ∃ k, v = .bl k ∧ Q k H') := by
    have q1 : TOk (w.on fr) W σ as H ((mChain g g' ma mb mc δ μ).bindT fun d μ => match d with | .bl b => .ok b μ | _ => .bad) Q := q
    revert q1
    cases mChain g g' ma mb mc δ μ with
    | ok d μ1 =>
      intro q1 v H' as' e' r' d'
      cases d' with
      | bl b => exact ⟨b, rfl, q1 H' as' e' r'⟩
      | _ => exact q1.elim
    | exc c fs μ1 => exact fun q => q
    | bad => exact fun q => q
  have z : tChain (rI0 fun i j => .bl (g i j)) (rI0 fun i j => .bl (g' i j)) (rdE w W ma) (rdE w W mb) (rdE w W mc) σ H (fun v H' => ∃ k, v = .bl k ∧ Q k H') := by
    refine bE h q0 fun vx H1 as1 x μ1 h1 d1 q1 => ?_
    refine ⟨fr, as1, δ, μ1, h1, ?_⟩
    revert q1
    cases mb δ μ1 with
    | exc c fs μ2 => exact fun q1 => q1
    | bad => exact fun q1 => q1
    | ok y μ2 =>
      intro q1 vy H2 as2 e2 r2 d2
      have h2 := h1.ext e2 r2
      have d1' := d1.ext e2
      have q2 := EOk.ext e2 q1
      cases d1' with
      | int i =>
        cases d2 with
        | int j =>
          refine ⟨i, j, rfl, rfl, g i j, rfl, ?_⟩
          have q3 : EOk (w.on fr) W σ as2 H2 (if g i j then (mc δ μ2).bind fun z μ => match z with | .int k => .ok (.bl (g' j k)) μ | _ => .bad else .ok (.bl false) μ2) (fun v H' => ∃ k, v = .bl k ∧ Q k H') := q2
          cases e : g i j with
          | false =>
            rw [e] at q3
            exact q3 _ H2 as2 Ext.refl h2.rel (.bl false)
          | true =>
            rw [e] at q3
            refine bE h2 q3 fun vz H3 as3 z μ3 h3 d3 q4 => ?_
            cases d3 with
            | int k => exact ⟨j, k, rfl, rfl, q4 _ H3 as3 Ext.refl h3.rel (.bl _)⟩
            | _ => exact q4.elim
        | _ => exact q2.elim
      | _ => exact q2.elim
  exact z
def mAndT (a b : TM) : TM := fun δ μ => (a δ μ).bind fun k μ => if k then b δ μ else .ok false μ
def mOrT (a b : TM) : TM := fun δ μ => (a δ μ).bind fun k μ => if k then .ok true μ else b δ μ
def mNotT (a : TM) : TM := fun δ μ => (a δ μ).bind fun k μ => .ok (!k) μ
theorem TOk.rd {fr as H σ δ μ} {m : TM} {Q : Bool → Hp → Prop} (h : Here (w.on fr) as H σ δ μ) (q : TOk (w.on fr) W σ as H (m δ μ) Q) : rdT w W m σ H Q := ⟨fr, as, δ, μ, h, q⟩
theorem EOk.rd {fr as H σ δ μ} {m : EM} {Q : VK} (h : Here (w.on fr) as H σ δ μ) (q : EOk (w.on fr) W σ as H (m δ μ) Q) : rdE w W m σ H Q := ⟨fr, as, δ, μ, h, q⟩
theorem AOk.rd {fr as H σ δ μ} {m : AM} {Q : List V → Hp → Prop} (h : Here (w.on fr) as H σ δ μ) (q : AOk (w.on fr) W σ as H (m δ μ) Q) : rdA w W m σ H Q := ⟨fr, as, δ, μ, h, q⟩
theorem SOk.rd {fr as H σ δ μ} {m : SM} {E : Ends} (h : Here (w.on fr) as H σ δ μ) (q : SOk (w.on fr) W as H (m δ μ) E) : rdS w W m E σ H := ⟨fr, as, δ, μ, h, q⟩
theorem w_and1 {m : TM} (h : PT X a (rdT w W m)) : PW X (.BoolOp .And [a] pos) (rdT w W m) := pw_and1 h
theorem w_or1 {m : TM} (h : PT X a (rdT w W m)) : PW X (.BoolOp .Or [a] pos) (rdT w W m) := pw_or1 h
theorem w_and {rest : List Expr} {m m' : TM} (h : PT X a (rdT w W m)) (h' : PW X (.BoolOp .And (b :: rest) pos) (rdT w W m')) : PW X (.BoolOp .And (a :: b :: rest) pos) (rdT w W (mAndT m m')) :=
  PW.to (pw_and h h') fun σ H Q ⟨fr, as, δ, μ, h, q⟩ => bT h q fun k H1 as1 μ1 h1 q1 => by
    cases k with
    | true => exact TOk.rd h1 q1
    | false => exact q1 H1 as1 Ext.refl h1.rel
theorem w_or {rest : List Expr} {m m' : TM} (h : PT X a (rdT w W m)) (h' : PW X (.BoolOp .Or (b :: rest) pos) (rdT w W m')) : PW X (.BoolOp .Or (a :: b :: rest) pos) (rdT w W (mOrT m m')) :=
  PW.to (pw_or h h') fun σ H Q ⟨fr, as, δ, μ, h, q⟩ => bT h q fun k H1 as1 μ1 h1 q1 => by
    cases k with
    | true => exact q1 H1 as1 Ext.refl h1.rel
    | false => exact TOk.rd h1 q1
theorem t_pw {m : TM} (h : PW X e (rdT w W m)) : PT X e (rdT w W m) := h.pt
theorem t_not {m : TM} (h : PT X a (rdT w W m)) : PT X (.UnaryOp .Not a pos) (rdT w W (mNotT m)) :=
  PT.to (pt_not h) fun σ H Q ⟨fr, as, δ, μ, h, q⟩ => bT h q fun k H1 as1 μ1 h1 q1 => q1 H1 as1 Ext.refl h1.rel
/-! values -/
def mAndV (a b : EM) : EM := fun δ μ => (a δ μ).bind fun x μ => match x with
  | .bl k => if k then b δ μ else .ok (.bl false) μ
  | _ => .bad
def mOrV (a b : EM) : EM := fun δ μ => (a δ μ).bind fun x μ => match x with
  | .bl k => if k then .ok (.bl true) μ else b δ μ
  | _ => .bad
def mNotV (a : EM) : EM := fun δ μ => (a δ μ).bind fun x μ => match x with
  | .bl k => .ok (.bl (!k)) μ
  | _ => .bad
theorem d_one {op} {m : EM} (h : PE X a (rdE w W m)) : PE X (.BoolOp op [a] pos) (rdE w W m) := pe_one h
theorem d_and {rest : List Expr} {m m' : EM} (h : PE X a (rdE w W m)) (h' : PE X (.BoolOp .And (b :: rest) pos) (rdE w W m')) : PE X (.BoolOp .And (a :: b :: rest) pos) (rdE w W (mAndV m m')) :=
  PE.to (pe_and h h') fun σ H Q ⟨fr, as, δ, μ, h, q⟩ => bE h q fun v H1 as1 d μ1 h1 d1 q1 => by
    cases d1 with
    | bl k =>
      cases k with
      | true => exact ⟨true, rfl, EOk.rd h1 q1⟩
      | false => exact ⟨false, rfl, q1 _ H1 as1 Ext.refl h1.rel (.bl _)⟩
    | _ => exact q1.elim
theorem d_or {rest : List Expr} {m m' : EM} (h : PE X a (rdE w W m)) (h' : PE X (.BoolOp .Or (b :: rest) pos) (rdE w W m')) : PE X (.BoolOp .Or (a :: b :: rest) pos) (rdE w W (mOrV m m')) :=
  PE.to (pe_or h h') fun σ H Q ⟨fr, as, δ, μ, h, q⟩ => bE h q fun v H1 as1 d μ1 h1 d1 q1 => by
    cases d1 with
    | bl k =>
      cases k with
      | true => exact ⟨true, rfl, q1 _ H1 as1 Ext.refl h1.rel (.bl _)⟩
      | false => exact ⟨false, rfl, EOk.rd h1 q1⟩
    | _ => exact q1.elim
theorem d_not {m : EM} (h : PE X a (rdE w W m)) : PE X (.UnaryOp .Not a pos) (rdE w W (mNotV m)) :=
  PE.to (pe_not h) fun σ H Q ⟨fr, as, δ, μ, h, q⟩ => bE h q fun v H1 as1 d μ1 h1 d1 q1 => by
    cases d1 with
    | bl k => exact ⟨k, rfl, q1 _ H1 as1 Ext.refl h1.rel (.bl _)⟩
    | _ => exact q1.elim
def mIf (t : TM) (a b : EM) : EM := fun δ μ => (t δ μ).bindE fun k μ => if k then a δ μ else b δ μ
theorem d_if {mt : TM} {ma mb : EM} (ht : PT X c (rdT w W mt)) (ha : PE X a (rdE w W ma)) (hb : PE X b (rdE w W mb)) : PE X (.IfExp c a b pos) (rdE w W (mIf mt ma mb)) :=
  PE.to (pe_ifExp ht ha hb) fun σ H Q ⟨fr, as, δ, μ, h, q⟩ => bTE h q fun k H1 as1 μ1 h1 q1 => by
    cases k with
    | true => exact EOk.rd h1 q1
    | false => exact EOk.rd h1 q1

/-! ### lists of arguments, displays -/
def mNil : AM := fun _ μ => .ok [] μ
def mCons (a : EM) (r : AM) : AM := fun δ μ => (a δ μ).bindA fun x μ => (r δ μ).bind fun xs μ => .ok (x :: xs) μ
theorem a_nil : PA X [] (rdA w W mNil) := PA.to pa_nil fun σ H Q ⟨fr, as, δ, μ, h, q⟩ => q [] H as Ext.refl h.rel .nil
theorem a_cons {es : List Expr} {ma : EM} {mr : AM} (ha : PE X e (rdE w W ma)) (hr : PA X es (rdA w W mr)) (hs : starEach (e :: es) X.env = (false, eval e X.env) :: starEach es X.env := by rfl) : PA X (e :: es) (rdA w W (mCons ma mr)) :=
  PA.to (pa_cons ha hr hs) fun σ H Q ⟨fr, as, δ, μ, h, q⟩ => bEA h q fun v H1 as1 d μ1 h1 d1 _ q1 =>
    bA h1 q1 fun vs H2 as2 ds μ2 h2 d2 e2 q2 => q2 _ H2 as2 Ext.refl h2.rel (.cons (d1.ext e2) d2)
def lineOk (n : Nat) : Bool := decide (n ≤ 16777216)
theorem lineOk_line {n : Nat} (h : lineOk n = true) : n ≤ sizeLine := by
  have h := of_decide_eq_true h
  rw [sizeLine_eq]; exact h
def mTup (a : AM) : EM := fun δ μ => (a δ μ).bindE fun ds μ => if lineOk ds.length then .ok (.tup ds) μ else .bad
def mLst (a : AM) : EM := fun δ μ => (a δ μ).bindE fun ds μ => if lineOk ds.length then .ok (.lst ds) μ else .bad
/-- a list as a cell -/
def mLstM (a : AM) : EM := fun δ μ => (a δ μ).bindE fun ds μ => if lineOk ds.length then .ok (.loc μ.length) (μ ++ [.lst ds]) else .bad
theorem d_tup {es : List Expr} {x1} {ma : AM} (ha : PA X es (rdA w W ma)) : PE X (.Tuple es x1 pos) (rdE w W (mTup ma)) :=
  PE.to (pe_tup ha) fun σ H Q ⟨fr, as, δ, μ, h, q⟩ => bAE h q fun vs H1 as1 ds μ1 h1 d1 q1 => by
    cases e : lineOk ds.length with
    | false => simp only [e] at q1; exact q1.elim
    | true =>
      simp only [e] at q1
      exact ⟨by rw [d1.length]; exact lineOk_line e, fun p hp => q1 (.ref p) _ as1 (Ext.push hp) (h1.rel.push hp) (.tup (h1.rel.newF hp) (h1.rel.new hp) upd_same (d1.ext (Ext.push hp)))⟩
theorem d_lst {es : List Expr} {ma : AM} (ha : PA X es (rdA w W ma)) : PE X (.List es pos) (rdE w W (mLst ma)) :=
  PE.to (pe_lst ha) fun σ H Q ⟨fr, as, δ, μ, h, q⟩ => bAE h q fun vs H1 as1 ds μ1 h1 d1 q1 => by
    cases e : lineOk ds.length with
    | false => simp only [e] at q1; exact q1.elim
    | true =>
      simp only [e] at q1
      exact ⟨by rw [d1.length]; exact lineOk_line e, fun p hp => q1 (.ref p) _ as1 (Ext.push hp) (h1.rel.push hp) (.lst (h1.rel.newF hp) (h1.rel.new hp) upd_same (d1.ext (Ext.push hp)))⟩
/-- a list laid as a cell -/
theorem cell_new {as H μ} {p : Addr} {vs : List V} {ds : List D} (r : Rel w as H μ) (hp : H p = none) (d : Dens w as H vs ds) :
    Ext as H (upd H p (.lst vs)) (as ++ [p]) ∧ Rel w (as ++ [p]) (upd H p (.lst vs)) (μ ++ [.lst ds]) ∧ Den w (as ++ [p]) (upd H p (.lst vs)) (.ref p) (.loc μ.length) := by
  have e : Ext as H (upd H p (.lst vs)) (as ++ [p]) := Ext.cell hp
  refine ⟨e, r.cellNew hp ⟨vs, upd_same, d.ext e⟩, .loc ?_⟩
  rw [← r.len, List.getElem?_append_right (Nat.le_refl _)]
  simp
theorem d_lstM {es : List Expr} {ma : AM} (ha : PA X es (rdA w W ma)) : PE X (.List es pos) (rdE w W (mLstM ma)) :=
  PE.to (pe_lst ha) fun σ H Q ⟨fr, as, δ, μ, h, q⟩ => bAE h q fun vs H1 as1 ds μ1 h1 d1 q1 => by
    cases e : lineOk ds.length with
    | false => simp only [e] at q1; exact q1.elim
    | true =>
      simp only [e] at q1
      exact ⟨by rw [d1.length]; exact lineOk_line e, fun p hp => let ⟨e', r', n'⟩ := cell_new h1.rel hp d1; q1 (.ref p) _ _ e' r' n'⟩

/-! ### x[i] -/
theorem atI_dens {as H} {vs : List V} {ds : List D} {i : Int} {d : D} (k : Dens w as H vs ds) (e : atI ds i = some d) : ∃ v, atI vs i = some v ∧ Den w as H v d := by
  unfold atI at e ⊢
  rw [k.length]
  cases z : ixN ds.length i with
  | none => rw [z] at e; cases e
  | some j =>
    rw [z] at e
    exact k.get e
def fIx (x y : D) (μ : List M) : ER := match y with
  | .int i => match x with
    | .str s => if lineOk s.length then match atI s i with
      | some c => .ok (.str [c]) μ
      | none => .bad
      else .bad
    | .tup l => match atI l i with
      | some d => .ok d μ
      | none => .bad
    | x => match lsOf μ x with
      | some l => match atI l i with
        | some d => .ok d μ
        | none => .bad
      | none => .bad
  | _ => .bad
theorem od_ix {K : PySem.W.Frag} (hK : w.K = K) : OpD w (rIx K) fIx := by
  intro W σ as H δ μ x y vx vy Q h dx dy q
  subst hK
  cases dy with
  | int i =>
    have lists : (match lsOf μ x with | some l => (match atI l i with | some d => ER.ok d μ | none => .bad) | none => .bad) = fIx x (.int i) μ → rIx w.K vx (.int i) H Q := by
      intro e
      rw [← e] at q
      cases e1 : lsOf μ x with
      | none => rw [e1] at q; exact q.elim
      | some l =>
        simp only [e1] at q
        cases e2 : atI l i with
        | none => rw [e2] at q; exact q.elim
        | some d =>
          rw [e2] at q
          obtain ⟨p, vs, rfl, h1, k1⟩ := sqL_of h.rel dx e1
          obtain ⟨v, h2, k2⟩ := atI_dens k1 e2
          exact .inl ⟨p, vs, i, v, rfl, rfl, h1, h2, q v H as Ext.refl h.rel k2⟩
    cases x with
    | str s =>
      cases dx
      have q : EOk w W σ as H (if lineOk s.length then (match atI s i with | some c => ER.ok (.str [c]) μ | none => .bad) else .bad) Q := q
      cases e : lineOk s.length with
      | false => rw [e] at q; exact q.elim
      | true =>
        rw [e] at q
        have q : EOk w W σ as H (match atI s i with | some c => ER.ok (.str [c]) μ | none => .bad) Q := q
        cases e2 : atI s i with
        | none => rw [e2] at q; exact q.elim
        | some c =>
          rw [e2] at q
          refine .inr (.inr ⟨_, i, c, rfl, rfl, by rw [str_len]; exact lineOk_line e, ?_, q _ H as Ext.refl h.rel (.str [c])⟩)
          show atI s.toArray.toList i = some c
          simpa using e2
    | tup l =>
      have q : EOk w W σ as H (match atI l i with | some d => ER.ok d μ | none => .bad) Q := q
      cases e2 : atI l i with
      | none => rw [e2] at q; exact q.elim
      | some d =>
        rw [e2] at q
        obtain ⟨p, vs, rfl, h1, k1⟩ := sqT_of dx
        obtain ⟨v, h2, k2⟩ := atI_dens k1 e2
        exact .inr (.inl ⟨p, vs, i, v, rfl, rfl, h1, h2, q v H as Ext.refl h.rel k2⟩)
    | _ => exact lists rfl
  | _ => exact q.elim
theorem d_ix {ma mb : EM} (ha : PE X a (rdE w W ma)) (hb : PE X b (rdE w W mb)) (hs : PlainIx b := by exact fun _ _ => rfl) (hK : w.K = X.K := by rfl) : PE X (.Subscript a b pos) (rdE w W (mOp fIx ma mb)) :=
  PE.to (pe_ix ix_seq ha hb hs) fun σ H Q ⟨fr, as, δ, μ, h, q⟩ => bE2 h q fun as H μ x y vx vy h dx dy q => od_ix (w := w.on fr) hK W σ as H δ μ x y vx vy Q h dx dy q

/-! ### x in l of data -/
def fInD (neg : Bool) (x y : D) (μ : List M) : ER := match py (top μ x), py (top μ y) with
  | some d, some (.list ds) => if SeqAt.shaped d && SeqAt.shaped (.list ds) then .ok (.bl (if neg then !(ds.any fun z => PyData.eqv z d) else ds.any fun z => PyData.eqv z d)) μ else .bad
  | _, _ => .bad
theorem od_inD {K : PySem.W.Frag} (hK : w.K = K) : OpD w (rInD K) (fInD false) := by
  intro W σ as H δ μ x y vx vy Q h dx dy q
  unfold fInD at q
  cases e1 : py (top μ x) with
  | none => rw [e1] at q; exact q.elim
  | some a =>
    cases e2 : py (top μ y) with
    | none => rw [e1, e2] at q; exact q.elim
    | some b =>
      rw [e1, e2] at q
      cases b with
      | list ds =>
        cases e3 : (SeqAt.shaped a && SeqAt.shaped (.list ds)) with
        | false => simp only [e3] at q; exact q.elim
        | true =>
          simp only [e3] at q
          obtain ⟨s1, s2⟩ := Bool.and_eq_true_iff.mp e3
          exact ⟨a, ds, top_dp hK h.rel dx e1, top_dp hK h.rel dy e2, s1, s2, q _ H as Ext.refl h.rel (.bl _)⟩
      | _ => exact q.elim
theorem od_notInD {K : PySem.W.Frag} (hK : w.K = K) : OpD w (rNotInD K) (fInD true) := by
  intro W σ as H δ μ x y vx vy Q h dx dy q
  unfold fInD at q
  cases e1 : py (top μ x) with
  | none => rw [e1] at q; exact q.elim
  | some a =>
    cases e2 : py (top μ y) with
    | none => rw [e1, e2] at q; exact q.elim
    | some b =>
      rw [e1, e2] at q
      cases b with
      | list ds =>
        cases e3 : (SeqAt.shaped a && SeqAt.shaped (.list ds)) with
        | false => simp only [e3] at q; exact q.elim
        | true =>
          simp only [e3] at q
          obtain ⟨s1, s2⟩ := Bool.and_eq_true_iff.mp e3
          exact ⟨a, ds, top_dp hK h.rel dx e1, top_dp hK h.rel dy e2, s1, s2, q _ H as Ext.refl h.rel (.bl _)⟩
      | _ => exact q.elim
/-- a sign in a text, written or not -/
def fInS (neg : Bool) (x y : D) (μ : List M) : ER := match x, y with
  | .str [c], .str z => .ok (.bl (if neg then !decide (c ∈ z) else decide (c ∈ z))) μ
  | _, _ => .bad
theorem od_inS : OpD w (fun x y H Q => ∃ (c : Nat) (z : Str), x = .str ⟨#[c]⟩ ∧ y = .str z ∧ Q (.bl (decide (c ∈ z.cps.toList))) H) (fInS false) := by
  intro W σ as H δ μ x y vx vy Q h dx dy q
  cases dx with
  | str s =>
    cases dy with
    | str z =>
      match s, q with
      | [c], q => exact ⟨c, _, rfl, rfl, by simpa using q _ H as Ext.refl h.rel (.bl _)⟩
      | [], q => exact q.elim
      | _ :: _ :: _, q => exact q.elim
    | _ => match s, q with
      | [c], q => exact q.elim
      | [], q => exact q.elim
      | _ :: _ :: _, q => exact q.elim
  | _ => exact q.elim
theorem od_notInS : OpD w (fun x y H Q => ∃ (c : Nat) (z : Str), x = .str ⟨#[c]⟩ ∧ y = .str z ∧ Q (.bl (!decide (c ∈ z.cps.toList))) H) (fInS true) := by
  intro W σ as H δ μ x y vx vy Q h dx dy q
  cases dx with
  | str s =>
    cases dy with
    | str z =>
      match s, q with
      | [c], q => exact ⟨c, _, rfl, rfl, by simpa using q _ H as Ext.refl h.rel (.bl _)⟩
      | [], q => exact q.elim
      | _ :: _ :: _, q => exact q.elim
    | _ => match s, q with
      | [c], q => exact q.elim
      | [], q => exact q.elim
      | _ :: _ :: _, q => exact q.elim
  | _ => exact q.elim
theorem d_inS {ma mb : EM} (ha : PE X a (rdE w W ma)) (hb : PE X b (rdE w W mb)) (hm : behindInMarks .In b = false := by rfl) : PE X (.Compare a [.In] [b] pos) (rdE w W (mOp (fInS false) ma mb)) := d_cmp op_in_sign (fun _ => od_inS) ha hb hm
theorem d_notInS {ma mb : EM} (ha : PE X a (rdE w W ma)) (hb : PE X b (rdE w W mb)) (hm : behindInMarks .NotIn b = false := by rfl) : PE X (.Compare a [.NotIn] [b] pos) (rdE w W (mOp (fInS true) ma mb)) := d_cmp op_notIn_sign (fun _ => od_notInS) ha hb hm
theorem d_inD {ma mb : EM} (hu : X.A.units + 65 < cLine) (ha : PE X a (rdE w W ma)) (hb : PE X b (rdE w W mb)) (hm : behindInMarks .In b = false := by rfl) (hK : w.K = X.K := by rfl) : PE X (.Compare a [.In] [b] pos) (rdE w W (mOp (fInD false) ma mb)) := d_cmp (op_inD hu) (fun _ => od_inD hK) ha hb hm
theorem d_notInD {ma mb : EM} (hu : X.A.units + 65 < cLine) (ha : PE X a (rdE w W ma)) (hb : PE X b (rdE w W mb)) (hm : behindInMarks .NotIn b = false := by rfl) (hK : w.K = X.K := by rfl) : PE X (.Compare a [.NotIn] [b] pos) (rdE w W (mOp (fInD true) ma mb)) := d_cmp (op_notInD hu) (fun _ => od_notInD hK) ha hb hm
end
/-! lists and tuples as one -/
def sqOf (μ : List M) : D → Option (List D)
  | .tup l => some l
  | d => lsOf μ d
theorem sq_of {as : List Addr} {H : Hp} {μ : List M} {v : V} {d : D} {l : List D} (r : Rel w as H μ) (h : Den w as H v d) (e : sqOf μ d = some l) : ∃ a vs, v = .ref a ∧ (SqL w.K H a vs ∨ SqT w.K H a vs) ∧ Dens w as H vs l := by
  cases d with
  | tup l' =>
    cases e
    obtain ⟨a, vs, rfl, h1, h2⟩ := sqT_of h
    exact ⟨a, vs, rfl, .inr h1, h2⟩
  | _ =>
    obtain ⟨a, vs, rfl, h1, h2⟩ := sqL_of r h e
    exact ⟨a, vs, rfl, .inl h1, h2⟩
end DL

/-! x[::-1] of a text -/
namespace L2
open PySem PySem.Spec PyProof.Rows
def tRevS (te : TE) : TE := fun σ H Q => te σ H fun x H1 => ∃ z : Str, x = .str z ∧ z.length ≤ sizeLine ∧ Q (.str ⟨z.cps.toList.reverse.toArray⟩) H1
theorem sliceBy_rev (z : Str) (t u : Tok) : (sliceMade z t none none (some (-1, u))) = (if ((-1 : Int) == 1 && (Builtin.Str.strSliceIndices none none (-1) z.length).length == z.length) = true then Made.val (.str z t)
    else Made.str ⟨((Builtin.Str.strSliceIndices none none (-1) z.length).filterMap (z.cps[·]?)).toArray⟩) := by
  first | rfl | (unfold sliceMade slicePicked; rfl)
theorem rev_picked (z : Str) : ((Builtin.Str.strSliceIndices none none (-1) z.length).filterMap (z.cps[·]?)) = z.cps.toList.reverse := by
  rw [picked_rev, filterMap_get]
  · rw [List.map_map]
    obtain ⟨⟨l⟩⟩ := z
    show (List.range l.length).map (fun k => (l.toArray).getD (l.length - 1 - k) 0) = l.reverse
    apply List.ext_getElem
    · simp
    · intro i h1 h2
      simp at h1 h2
      have h3 : l.length - 1 - i < l.length := by omega
      simp [Array.getD, h3]
  · intro i hi
    obtain ⟨k, hk, rfl⟩ := List.mem_map.mp hi
    have hk' : k < z.length := List.mem_range.mp hk
    show z.length - 1 - k < z.length
    omega
theorem pe_revS {X : Cx} {e : Expr} {te : TE} {k : Nat} {p1 p2 p3 pos : Pos} (he : PE X e te) : PE X (.Subscript e (.Slice none none (some (.UnaryOp .USub (.Constant (.int 1) k p1) p2)) p3) pos) (tRevS te) := by
  refine ⟨fun pins s σ H Q I h => ?_⟩
  refine Subscript_ (thn (he.run pins s σ H _ I h) fun v s1 ⟨x, H1, I1, r1, q1⟩ => ?_)
  obtain ⟨z, ex, hz, q⟩ := q1
  subst ex
  obtain ⟨t, rfl⟩ := r1
  have hst : PO X (some (.UnaryOp .USub (.Constant (.int 1) k p1) p2)) (tPart (tUn (rU fun i => .int (-i)) (tC (.int 1)))) := po_some (pe_un un_neg pe_int)
  refine wpAny_Slice (thn (po_none.run pins s1 σ H1 (fun o H2 => o = none ∧ H2 = H1) I1 ⟨rfl, rfl⟩) fun vl s2 ⟨l, H2, I2, pl, el, e2⟩ => ?_)
  subst el e2
  refine thn (po_none.run pins s2 σ H2 (fun o H3 => o = none ∧ H3 = H2) I2 ⟨rfl, rfl⟩) fun vu s3 ⟨u, H3, I3, pu, eu, e3⟩ => ?_
  subst eu e3
  refine thn (hst.run pins s3 σ H3 (fun o H4 => o = some (-1) ∧ H4 = H3) I3 ⟨1, rfl, -1, rfl, rfl, rfl⟩) fun vs s4 ⟨o, H4, I4, ps, eo, e4⟩ => ?_
  subst eo e4
  have I5 : Inv X pins σ H4 { s4 with heap := s4.heap.push { cls := .type "slice", data := .fields #[vl, vu, vs] } } := I4.kept (t' := s4.toks) fun b ob q => Heap.get?_push_of_some _ q
  cases pl
  cases pu
  cases ps with
  | int _ st =>
  show wpAny (model X.prog X.w) X.A (subscriptTail e (.Slice none none (some (.UnaryOp .USub (.Constant (.int 1) k p1) p2)) p3) (.str z t) (.ref s4.heap.objs.size)) (EP X pins σ Q) X.xe _
  refine tail_any (ops := [.str z t, .ref s4.heap.objs.size]) (typeIs_str _ _ _) (F.slot_str_getitem.lookup) ?_ (by with_unfolding_all rfl)
  refine wpAny_getItem_str_slice (l := none) (u := none) (st := some (-1, st)) ⟨_, Heap.get?_push_size _ rfl, rfl, rfl⟩ rfl ?_
  rw [sliceBy_rev, if_neg (by simp), rev_picked]
  refine ⟨?_, .str _, H4, I5.tok _, ⟨_, rfl⟩, q⟩
  show (z.cps.toList.reverse.toArray).size ≤ sizeLine
  simp
  exact hz
end L2

namespace DL
open PySem PySem.Spec PyProof.Rows L2
variable {w : Wd}

/-! ### letters -/
def swL (c : Nat) : Nat := if c = 65 then 97 else if c = 66 then 98 else if c = 97 then 65 else if c = 98 then 66 else c
def isL (c : Nat) : Bool := c == 65 || c == 66 || c == 97 || c == 98
theorem isL_cases {c : Nat} (h : isL c = true) : c = 65 ∨ c = 66 ∨ c = 97 ∨ c = 98 := by
  simp [isL] at h
  omega
theorem sw_at (cps : Array Nat) (i c : Nat) (h : cps[i]? = some c) (hc : isL c = true) :
    (if Unicode.isUpper c then Unicode.lowerAt cps i else if Unicode.isLower c then Unicode.upperOf c else [c]) = [swL c] := by
  unfold Unicode.lowerAt
  rw [h]
  dsimp only
  generalize Unicode.endsWord cps i = z
  rcases isL_cases hc with rfl | rfl | rfl | rfl <;> cases z <;> decide +kernel
theorem flatten_one (f : Nat → Nat → List Nat) (g : Nat → Nat) (l : List Nat) (h : ∀ i c, l[i]? = some c → f i c = [g c]) :
    (l.toArray.mapIdx fun i c => (f i c).toArray).flatten = (l.map g).toArray := by
  have e : (l.toArray.mapIdx fun i c => (f i c).toArray) = (l.map fun c => #[g c]).toArray := by
    apply Array.ext
    · simp
    · intro i h1 h2
      simp at h1
      simp [h i l[i] (by simp [h1])]
  rw [e]
  clear e h
  induction l with
  | nil => rfl
  | cons a r ih =>
    have : ((a :: r).map fun c => #[g c]).toArray.flatten = #[g a] ++ (r.map fun c => #[g c]).toArray.flatten := by simp
    rw [this, ih]
    simp
theorem swapcase_letters (l : List Nat) (h : l.all isL = true) : Txt.swapcase ⟨l.toArray⟩ = ⟨(l.map swL).toArray⟩ := by
  unfold Txt.swapcase placed
  show (⟨(l.toArray.mapIdx fun i c => _).flatten⟩ : Str) = _
  rw [flatten_one _ swL l fun i c e => sw_at l.toArray i c (by simpa using e) (List.all_eq_true.mp h c (List.mem_of_getElem? e))]

section
variable {X : Cx} {W : WX} {e a b c : Expr} {pos : Pos}
theorem mt_swapcase : MtR X "str.swapcase" (fun x xs H Q => ∃ l : List Nat, x = .str ⟨l.toArray⟩ ∧ xs = [] ∧ l.all isL = true ∧ l.length ≤ 16777216 ∧ Q (.str ⟨(l.map swL).toArray⟩) H) := by
  intro pins s σ H x xs v us Q I rx rs h
  obtain ⟨l, rfl, rfl, ha, hl, q⟩ := h
  obtain ⟨t, rfl⟩ := rx
  cases rs
  have hz : (Txt.swapcase ⟨l.toArray⟩).length ≤ 16777216 := by
    rw [swapcase_letters l ha]
    show ((l.map swL).toArray).size ≤ _
    simpa using hl
  refine call_gives F.slot_str_swapcase (typeIs_str _ _ _) F.entry_str_swapcase (F.args_str_swapcase_1 _) (gives_str_swapcase _ t (short24 hz)) ⟨fit_le (short24 hz), ?_⟩
  have e := swapcase_letters l ha
  unfold Txt.swapcase at e
  rw [e]
  exact ⟨.str ⟨(l.map swL).toArray⟩, H, I.tok _, ⟨_, rfl⟩, q⟩

/-! ### methods of built-in types -/
def mM0 (f : D → List M → ER) (a : EM) : EM := fun δ μ => (a δ μ).bind fun x μ => f x μ
def mM1 (g : D → List M → Bool) (f : D → List D → List M → ER) (a : EM) (r : AM) : EM := fun δ μ => (a δ μ).bind fun x μ => if g x μ then (r δ μ).bindE fun ds μ => f x ds μ else .bad
/-- of a text -/
def fSwap (x : D) (μ : List M) : ER := match x with
  | .str s => if s.all isL && lineOk s.length then .ok (.str (s.map swL)) μ else .bad
  | _ => .bad
theorem d_swapcase {apos cpos : Pos} {ma : EM} (ha : PE X a (rdE w W ma)) (hbase : attributeBase a "swapcase" X.env (eval a X.env) = eval a X.env := by rfl) (hline : (apos.endLine == cpos.line) = true := by rfl) :
    PE X (.Call (.Attribute a "swapcase" apos) [] [] cpos) (rdE w W (mM0 fSwap ma)) :=
  PE.to (pe_bm0 F.plainAttrs_str F.slot_str_swapcase F.type_str_swapcase mt_swapcase ha hbase hline) fun σ H Q ⟨fr, as, δ, μ, h, q⟩ => bE h q fun v H1 as1 d μ1 h1 d1 q1 => by
    cases d1 with
    | str s =>
      have q1 : EOk (w.on fr) W σ as1 H1 (if s.all isL && lineOk s.length then .ok (.str (s.map swL)) μ1 else .bad) Q := q1
      cases e : (s.all isL && lineOk s.length) with
      | false => rw [e] at q1; exact q1.elim
      | true =>
        rw [e] at q1
        obtain ⟨e1, e2⟩ := Bool.and_eq_true_iff.mp e
        exact ⟨rfl, s, rfl, rfl, e1, of_decide_eq_true e2, q1 _ H1 as1 Ext.refl h1.rel (.str _)⟩
    | _ => exact q1.elim
/-- sep.join(texts), the sep empty -/
def strsOf : List D → Option (List (List Nat))
  | [] => some []
  | .str s :: r => (strsOf r).map (s :: ·)
  | _ :: _ => none
theorem strs_dens {as H} : ∀ {vs : List V} {ds : List D} {l : List (List Nat)}, Dens w as H vs ds → strsOf ds = some l → vs = (l.map fun s => (⟨s.toArray⟩ : Str)).map V.str
  | _, _, _, .nil, e => by cases e; rfl
  | _, _, l, .cons h t, e => by
    cases h with
    | str s =>
      rename_i vs ds
      cases z : strsOf ds with
      | none => simp only [strsOf, z] at e; cases e
      | some l' =>
        simp only [strsOf, z] at e; cases e
        rw [strs_dens t z]; rfl
    | _ => cases e
theorem join_empty (l : List (List Nat)) : Txt.join (⟨([] : List Nat).toArray⟩ : Str) (l.map fun s => (⟨s.toArray⟩ : Str)) = ⟨l.flatten.toArray⟩ := by
  show Builtin.Str.glued _ _ = _
  unfold Builtin.Str.glued
  have gen : ∀ (r : List (List Nat)) (acc : List Nat), (r.map fun s => (⟨s.toArray⟩ : Str)).foldl (fun (acc : Array Nat) (p : Str) => acc ++ (([] : List Nat).toArray) ++ p.cps) acc.toArray = (acc ++ r.flatten).toArray := by
    intro r
    induction r with
    | nil => intro acc; simp
    | cons x r ih =>
      intro acc
      rw [List.map_cons, List.foldl_cons]
      have e : acc.toArray ++ ([] : List Nat).toArray ++ (⟨x.toArray⟩ : Str).cps = (acc ++ x).toArray := by simp
      rw [e, ih]
      simp
  cases l with
  | nil => rfl
  | cons x r =>
    have := gen r x
    simp only [List.map_cons, List.drop_one, List.tail_cons, List.headD_cons]
    rw [this]
    simp
def fJoin0 (x : D) (ds : List D) (μ : List M) : ER := match x, ds with
  | .str [], [y] => match sqOf μ y with
    | some l => match strsOf l with
      | some ts => if lineOk (ts.map List.length).sum then .ok (.str ts.flatten) μ else .bad
      | none => .bad
    | none => .bad
  | _, _ => .bad

theorem sqK {fr : List Addr} {K : PySem.W.Frag} (hK : w.K = K) : (w.on fr).K = K := hK
def abIx (c : Nat) : Option Nat := if c = 65 then some 0 else if c = 66 then some 1 else if c = 97 then some 2 else if c = 98 then some 3 else none
/-- "ABab".index(c) -/
theorem ab_index (c k : Nat) (h : abIx c = some k) : Txt.index0 ⟨[65, 66, 97, 98].toArray⟩ ⟨[c].toArray⟩ = some k := by
  unfold abIx at h
  split at h
  · rename_i e; subst e; cases h; decide +kernel
  split at h
  · rename_i e; subst e; cases h; decide +kernel
  split at h
  · rename_i e; subst e; cases h; decide +kernel
  split at h
  · rename_i e; subst e; cases h; decide +kernel
  · cases h
theorem mt_abIndex (hc : X.calm = true) : MtR X "str.index" (fun x xs H Q => ∃ c k : Nat, x = .str ⟨[65, 66, 97, 98].toArray⟩ ∧ xs = [.str ⟨[c].toArray⟩] ∧ abIx c = some k ∧ Q (.int (k : Int)) H) := by
  intro pins s σ H x xs v us Q I rx rs h
  obtain ⟨c, k, rfl, rfl, e, q⟩ := h
  obtain ⟨t, rfl⟩ := rx
  cases rs with
  | cons r1 rs =>
    cases rs
    obtain ⟨u, rfl⟩ := r1
    have e1 := ab_index c k e
    unfold Txt.index0 at e1
    cases q2 : Builtin.Str.occurrences (⟨[65, 66, 97, 98].toArray⟩ : Str) (⟨[c].toArray⟩ : Str) 0 (⟨[65, 66, 97, 98].toArray⟩ : Str).length 1 with
    | nil => rw [q2] at e1; cases e1
    | cons k' rest =>
      rw [q2] at e1
      cases e1
      exact call_gives F.slot_str_index (typeIs_str _ _ _) F.entry_str_index (F.args_str_index_2 _ _) (gives_str_index _ _ t u k rest q2) ⟨.int (k : Int), H, I.tok _, ⟨_, rfl⟩, q⟩
def fAbIndex (x : D) (ds : List D) (μ : List M) : ER := match x, ds with
  | .str [65, 66, 97, 98], [.str [c]] => match abIx c with
    | some k => .ok (.int (k : Int)) μ
    | none => .bad
  | _, _ => .bad

abbrev Few (X : Cx) (e : Expr) (es : List Expr) (cpos : Pos) : Prop := ((backTo cpos (starEach (e :: es) X.env)).all (fun x => !x.1) && (backToKw cpos (keywordEach [] X.env)).all (fun x => x.1.isSome)
      && decide ((e :: es).length + ([] : List Keyword).length + (if ([] : List Keyword).isEmpty then 0 else 1) < 30)) = true
/-- a method on data -/
def MtD (w : Wd) (r : V → List V → Hp → VK → Prop) (f : D → List D → List M → ER) : Prop := ∀ W σ as H δ μ x ds vx vs Q, Here w as H σ δ μ → Den w as H vx x → Dens w as H vs ds → EOk w W σ as H (f x ds μ) Q → r vx vs H Q
/-- what the receiver's kind is, told by data -/
def TyD (w : Wd) (T : String) (g : D → List M → Bool) : Prop := ∀ as H σ δ μ x vx, Here w as H σ δ μ → Den w as H vx x → g x μ = true → tyV w.K T vx H
theorem d_bm {T : String} {id : String} {name : Str} {apos cpos : Pos} {es : List Expr} {r : V → List V → Hp → VK → Prop} {g : D → List M → Bool} {f : D → List D → List M → ER} {ma : EM} {mr : AM} (pa : PlainAttrs T) (slot : Slot T name id) (hty : typeOf (.builtin id) = pure (.type "method_descriptor")) (hm : MtR X id r)
    (hg : ∀ fr, TyD (w.on fr) T g) (hf : ∀ fr, MtD (w.on fr) r f) (ho : PE X a (rdE w W ma)) (ha : PA X (e :: es) (rdA w W mr)) (hK : X.K = w.K) (hbase : attributeBase a name X.env (eval a X.env) = eval a X.env) (hfew : Few X e es cpos)
    (hline : (apos.endLine == cpos.line) = true) (hs : starEach (e :: es) X.env = (false, eval e X.env) :: starEach es X.env) (hplain : (backTo cpos (starEach es X.env)).any (·.1) = false) :
    PE X (.Call (.Attribute a name apos) (e :: es) [] cpos) (rdE w W (mM1 g f ma mr)) := by
  refine PE.to (pe_bm pa slot hty hm ho ha hbase hfew hline hs hplain) fun σ H Q ⟨fr, as, δ, μ, h, q⟩ => bE h q fun vx H1 as1 x μ1 h1 d1 q1 => ?_
  cases e : g x μ1 with
  | false => simp only [e] at q1; exact q1.elim
  | true =>
    simp only [e] at q1
    refine ⟨hK ▸ hg fr as1 H1 σ δ μ1 x vx h1 d1 e, fr, as1, δ, μ1, h1, ?_⟩
    have q2 : EOk (w.on fr) W σ as1 H1 ((mr δ μ1).bindE fun ds μ => f x ds μ) Q := q1
    revert q2
    cases mr δ μ1 with
    | ok ds μ2 => exact fun q2 vs H2 as2 e2 r2 d2 => hf fr W σ as2 H2 δ μ2 x ds vx vs Q (h1.ext e2 r2) (d1.ext e2) d2 (EOk.ext e2 q2)
    | exc c fs μ2 => exact fun q2 => q2
    | bad => exact fun q2 => q2
def isStr (x : D) (_ : List M) : Bool := match x with
  | .str _ => true
  | _ => false
theorem ty_str : TyD w "str" isStr := by
  intro as H σ δ μ x vx h d e
  cases d <;> first | rfl | cases e
/-! x[::-1] -/
def fRev (x : D) (μ : List M) : ER := match x with
  | .str s => if lineOk s.length then .ok (.str s.reverse) μ else .bad
  | x => match lsOf μ x with
    | some l => .ok (.lst l.reverse) μ
    | none => .bad
theorem d_rev {k : Nat} {p1 p2 p3 : Pos} {ma : EM} (ha : PE X a (rdE w W ma)) (hK : X.K = w.K := by rfl) : PE X (.Subscript a (.Slice none none (some (.UnaryOp .USub (.Constant (.int 1) k p1) p2)) p3) pos) (rdE w W (mM0 fRev ma)) := by
  refine PE.to (PE.or (pe_revS ha) (pe_revL ha)) fun σ H Q ⟨fr, as, δ, μ, h, q⟩ => ?_
  have q0 : EOk (w.on fr) W σ as H ((ma δ μ).bind fun x μ => fRev x μ) Q := q
  cases e : ma δ μ with
  | bad => rw [e] at q0; exact q0.elim
  | exc c fs μ1 =>
    rw [e] at q0
    exact .inl ⟨fr, as, δ, μ, h, by rw [e]; exact q0⟩
  | ok x μ1 =>
    rw [e] at q0
    have q0 : EOk (w.on fr) W σ as H (fRev x μ1) Q := q0
    have lists : (∃ l, lsOf μ1 x = some l ∧ fRev x μ1 = .ok (.lst l.reverse) μ1) → tRevL X.K (rdE w W ma) σ H Q := by
      rintro ⟨l, e1, e2⟩
      rw [e2] at q0
      refine ⟨fr, as, δ, μ, h, ?_⟩
      rw [e]
      intro v H1 as1 e1' r1 d1
      obtain ⟨p, vs, rfl, h1, k1⟩ := sqL_of r1 d1 e1
      refine ⟨p, vs, rfl, by rw [hK]; exact h1, fun p' hp => ?_⟩
      exact q0 _ _ as1 (e1'.trans (Ext.push hp)) (r1.push hp) (.lst (r1.newF hp) (r1.new hp) upd_same (k1.reverse.ext (Ext.push hp)))
    cases x with
    | str s =>
      left
      have q0 : EOk (w.on fr) W σ as H (if lineOk s.length then .ok (.str s.reverse) μ1 else .bad) Q := q0
      cases e3 : lineOk s.length with
      | false => rw [e3] at q0; exact q0.elim
      | true =>
        rw [e3] at q0
        refine ⟨fr, as, δ, μ, h, ?_⟩
        rw [e]
        intro v H1 as1 e1 r1 d1
        cases d1
        refine ⟨_, rfl, by rw [str_len]; exact lineOk_line e3, ?_⟩
        have z := q0 _ H1 as1 e1 r1 (.str s.reverse)
        simpa using z
    | _ =>
      right
      refine lists ?_
      first
        | exact ⟨_, rfl, rfl⟩
        | (unfold fRev at q0
           dsimp only at q0
           split at q0
           · rename_i l e1; exact ⟨l, e1, by unfold fRev; dsimp only; rw [e1]⟩
           · exact q0.elim)
        | exact q0.elim
end
end DL

namespace DL
open PySem PySem.Spec PyProof.Rows L2
variable {w : Wd}
section
variable {X : Cx} {W : WX} {e a b c : Expr} {pos p : Pos} {es : List Expr} {x : Str}

/-! ### calls of built-ins -/
def mCB (f : List D → List M → ER) (r : AM) : EM := fun δ μ => (r δ μ).bindE fun ds μ => f ds μ
def CallD (w : Wd) (r : List V → Hp → VK → Prop) (f : List D → List M → ER) : Prop := ∀ W σ as H δ μ ds vs Q, Here w as H σ δ μ → Dens w as H vs ds → EOk w W σ as H (f ds μ) Q → r vs H Q
theorem d_callB {id : String} {r : List V → Hp → VK → Prop} {f : List D → List M → ER} {mr : AM} (hc : CallR X (.builtin id) r) (hf : ∀ fr, CallD (w.on fr) r f) (hg : Gl X x) (hm : X.mg x = none) (hv : bootBuiltins x = some (.builtin id)) (ha : PA X (e :: es) (rdA w W mr))
    (hn : x ≠ "__name__" := by decide) (hdb : (x == ("__debug__" : Str)) = false := by decide)
    (he : starEach (e :: es) X.env = (false, eval e X.env) :: starEach es X.env := by rfl) (hpl : (backTo pos (starEach es X.env)).any (·.1) = false := by rfl) : PE X (.Call (.Name x p) (e :: es) [] pos) (rdE w W (mCB f mr)) :=
  PE.to (pe_callB hc hg hm hv ha hn hdb he hpl) fun σ H Q ⟨fr, as, δ, μ, h, q⟩ => bAE h q fun vs H1 as1 ds μ1 h1 d1 q1 => hf fr W σ as1 H1 δ μ1 ds vs Q h1 d1 q1
theorem d_callTy {T : String} {r : List V → Hp → VK → Prop} {f : List D → List M → ER} {mr : AM} (hc : CallR X (.type T) r) (hf : ∀ fr, CallD (w.on fr) r f) (hg : Gl X x) (hm : X.mg x = none) (hv : bootBuiltins x = some (.type T)) (ha : PA X (e :: es) (rdA w W mr))
    (hn : x ≠ "__name__" := by decide) (hdb : (x == ("__debug__" : Str)) = false := by decide)
    (he : starEach (e :: es) X.env = (false, eval e X.env) :: starEach es X.env := by rfl) (hpl : (backTo pos (starEach es X.env)).any (·.1) = false := by rfl) : PE X (.Call (.Name x p) (e :: es) [] pos) (rdE w W (mCB f mr)) :=
  PE.to (pe_callTy hc hg hm hv ha hn hdb he hpl) fun σ H Q ⟨fr, as, δ, μ, h, q⟩ => bAE h q fun vs H1 as1 ds μ1 h1 d1 q1 => hf fr W σ as1 H1 δ μ1 ds vs Q h1 d1 q1

/-! len -/
def fLen (ds : List D) (μ : List M) : ER := match ds with
  | [.str s] => if lineOk s.length then .ok (.int s.length) μ else .bad
  | [y] => match sqOf μ y with
    | some l => .ok (.int l.length) μ
    | none => .bad
  | _ => .bad
theorem cd_len {K : PySem.W.Frag} (hK : w.K = K) : CallD w (fun xs H Q => ∃ x n, xs = [x] ∧ LenV K x H n ∧ Q (.int n) H) fLen := by
  intro W σ as H δ μ ds vs Q h d q
  subst hK
  unfold fLen at q
  split at q
  · rename_i s
    cases d with
    | cons d1 t1 =>
      cases t1
      cases d1
      cases e : lineOk s.length with
      | false => rw [e] at q; exact q.elim
      | true =>
        rw [e] at q
        exact ⟨_, s.length, rfl, ⟨by rw [str_len]; exact lineOk_line e, (str_len s).symm⟩, q _ H as Ext.refl h.rel (.int _)⟩
  · rename_i y _
    cases d with
    | cons d1 t1 =>
      cases t1
      cases e : sqOf μ y with
      | none => rw [e] at q; exact q.elim
      | some l =>
        rw [e] at q
        obtain ⟨p, vs, rfl, h1, k1⟩ := sq_of h.rel d1 e
        refine ⟨_, l.length, rfl, ?_, q _ H as Ext.refl h.rel (.int _)⟩
        rcases h1 with h1 | h1
        · exact .inl ⟨vs, h1, k1.length.symm⟩
        · exact .inr ⟨vs, h1, k1.length.symm⟩
  · exact q.elim
theorem d_len {mr : EM} (hg : Gl X "len") (hm : X.mg "len" = none) (ha : PE X e (rdE w W mr)) (hs : starEach [e] X.env = (false, eval e X.env) :: starEach [] X.env := by rfl) (hpl : (backTo pos (starEach [] X.env)).any (·.1) = false := by rfl) (hK : w.K = X.K := by rfl) :
    PE X (.Call (.Name "len" p) [e] [] pos) (rdE w W (mCB fLen (mCons mr mNil))) := d_callB call_len (fun _ => cd_len hK) hg hm PySem.boot_len (a_cons ha a_nil hs) (by decide) (by decide) hs hpl

/-! abs, int, min, max -/
def fAbs (ds : List D) (μ : List M) : ER := match ds with
  | [.int i] => .ok (.int (if i < 0 then -i else i)) μ
  | _ => .bad
theorem cd_abs : CallD w (fun xs H Q => ∃ i, xs = [.int i] ∧ Q (.int (if i < 0 then -i else i)) H) fAbs := by
  intro W σ as H δ μ ds vs Q h d q
  unfold fAbs at q
  split at q
  · cases d with
    | cons d1 t1 => cases t1; cases d1; exact ⟨_, rfl, q _ H as Ext.refl h.rel (.int _)⟩
  · exact q.elim
def fInt (ds : List D) (μ : List M) : ER := match ds with
  | [.int i] => .ok (.int i) μ
  | [.bl k] => .ok (.int (if k then 1 else 0)) μ
  | _ => .bad
theorem cd_int : CallD w (fun xs H Q => (∃ i, xs = [.int i] ∧ Q (.int i) H) ∨ ∃ k, xs = [.bl k] ∧ Q (.int (if k then 1 else 0)) H) fInt := by
  intro W σ as H δ μ ds vs Q h d q
  unfold fInt at q
  split at q
  · cases d with
    | cons d1 t1 => cases t1; cases d1; exact .inl ⟨_, rfl, q _ H as Ext.refl h.rel (.int _)⟩
  · cases d with
    | cons d1 t1 => cases t1; cases d1; exact .inr ⟨_, rfl, q _ H as Ext.refl h.rel (.int _)⟩
  · exact q.elim
def fMin2 (ds : List D) (μ : List M) : ER := match ds with
  | [.int i, .int j] => .ok (.int (if j < i then j else i)) μ
  | _ => .bad
theorem cd_min2 : CallD w (fun xs H Q => ∃ i j, xs = [.int i, .int j] ∧ Q (.int (if j < i then j else i)) H) fMin2 := by
  intro W σ as H δ μ ds vs Q h d q
  unfold fMin2 at q
  split at q
  · cases d with
    | cons d1 t1 =>
      cases t1 with
      | cons d2 t2 => cases t2; cases d1; cases d2; exact ⟨_, _, rfl, q _ H as Ext.refl h.rel (.int _)⟩
  · exact q.elim

/-! all, any -/
def blsOf : List D → Option (List Bool)
  | [] => some []
  | .bl b :: r => (blsOf r).map (b :: ·)
  | _ :: _ => none
theorem bls_dens {as H} : ∀ {vs : List V} {ds : List D} {l : List Bool}, Dens w as H vs ds → blsOf ds = some l → vs = l.map V.bl
  | _, _, _, .nil, e => by cases e; rfl
  | _, _, l, .cons h t, e => by
    cases h with
    | bl s =>
      rename_i vs ds
      cases z : blsOf ds with
      | none => simp only [blsOf, z] at e; cases e
      | some l' =>
        simp only [blsOf, z] at e; cases e
        rw [bls_dens t z]; rfl
    | _ => cases e
def fAll (ds : List D) (μ : List M) : ER := match ds with
  | [y] => match lsOf μ y with
    | some l => match blsOf l with
      | some bs => .ok (.bl (bs.all id)) μ
      | none => .bad
    | none => .bad
  | _ => .bad
def fAny (ds : List D) (μ : List M) : ER := match ds with
  | [y] => match lsOf μ y with
    | some l => match blsOf l with
      | some bs => .ok (.bl (bs.any id)) μ
      | none => .bad
    | none => .bad
  | _ => .bad
theorem cd_all {K : PySem.W.Frag} (hK : w.K = K) : CallD w (rAll K) fAll := by
  intro W σ as H δ μ ds vs Q h d q
  subst hK
  unfold fAll at q
  split at q
  · rename_i y
    cases d with
    | cons d1 t1 =>
      cases t1
      cases e : lsOf μ y with
      | none => rw [e] at q; exact q.elim
      | some l =>
        simp only [e] at q
        cases e2 : blsOf l with
        | none => rw [e2] at q; exact q.elim
        | some bs =>
          rw [e2] at q
          obtain ⟨p, vs, rfl, h1, k1⟩ := sqL_of h.rel d1 e
          have e3 := bls_dens k1 e2
          subst e3
          exact ⟨p, bs, rfl, h1, q _ H as Ext.refl h.rel (.bl _)⟩
  · exact q.elim
theorem cd_any {K : PySem.W.Frag} (hK : w.K = K) : CallD w (rAny K) fAny := by
  intro W σ as H δ μ ds vs Q h d q
  subst hK
  unfold fAny at q
  split at q
  · rename_i y
    cases d with
    | cons d1 t1 =>
      cases t1
      cases e : lsOf μ y with
      | none => rw [e] at q; exact q.elim
      | some l =>
        simp only [e] at q
        cases e2 : blsOf l with
        | none => rw [e2] at q; exact q.elim
        | some bs =>
          rw [e2] at q
          obtain ⟨p, vs, rfl, h1, k1⟩ := sqL_of h.rel d1 e
          have e3 := bls_dens k1 e2
          subst e3
          exact ⟨p, bs, rfl, h1, q _ H as Ext.refl h.rel (.bl _)⟩
  · exact q.elim

/-! list(x), tuple(x) -/
def fList (ds : List D) (μ : List M) : ER := match ds with
  | [y] => match sqOf μ y with
    | some l => .ok (.lst l) μ
    | none => .bad
  | _ => .bad
def fListM (ds : List D) (μ : List M) : ER := match ds with
  | [y] => match sqOf μ y with
    | some l => .ok (.loc μ.length) (μ ++ [.lst l])
    | none => .bad
  | _ => .bad
def fTuple (ds : List D) (μ : List M) : ER := match ds with
  | [.tup l] => .ok (.tup l) μ
  | [y] => match lsOf μ y with
    | some l => .ok (.tup l) μ
    | none => .bad
  | _ => .bad
abbrev rListOf (K : PySem.W.Frag) : List V → Hp → VK → Prop := fun xs H Q => ∃ p ys, xs = [.ref p] ∧ (SqL K H p ys ∨ SqT K H p ys) ∧ ∀ l, H l = none → Q (.ref l) (upd H l (.lst ys))
abbrev rTupleOf (K : PySem.W.Frag) : List V → Hp → VK → Prop := fun xs H Q => ∃ p ys, xs = [.ref p] ∧ ((SqL K H p ys ∧ ∀ l, H l = none → Q (.ref l) (upd H l (.tup ys))) ∨ (SqT K H p ys ∧ Q (.ref p) H))
theorem cd_list {K : PySem.W.Frag} (hK : w.K = K) : CallD w (rListOf K) fList := by
  intro W σ as H δ μ ds vs Q h d q
  subst hK
  unfold fList at q
  split at q
  · rename_i y
    cases d with
    | cons d1 t1 =>
      cases t1
      cases e : sqOf μ y with
      | none => rw [e] at q; exact q.elim
      | some l =>
        rw [e] at q
        obtain ⟨p, vs, rfl, h1, k1⟩ := sq_of h.rel d1 e
        exact ⟨p, vs, rfl, h1, fun p' hp => q _ _ as (Ext.push hp) (h.rel.push hp) (.lst (h.rel.newF hp) (h.rel.new hp) upd_same (k1.ext (Ext.push hp)))⟩
  · exact q.elim
theorem cd_listM {K : PySem.W.Frag} (hK : w.K = K) : CallD w (rListOf K) fListM := by
  intro W σ as H δ μ ds vs Q h d q
  subst hK
  unfold fListM at q
  split at q
  · rename_i y
    cases d with
    | cons d1 t1 =>
      cases t1
      cases e : sqOf μ y with
      | none => rw [e] at q; exact q.elim
      | some l =>
        rw [e] at q
        obtain ⟨p, vs, rfl, h1, k1⟩ := sq_of h.rel d1 e
        exact ⟨p, vs, rfl, h1, fun p' hp => let ⟨e', r', n'⟩ := cell_new h.rel hp k1; q _ _ _ e' r' n'⟩
  · exact q.elim
theorem cd_tuple {K : PySem.W.Frag} (hK : w.K = K) : CallD w (rTupleOf K) fTuple := by
  intro W σ as H δ μ ds vs Q h d q
  subst hK
  unfold fTuple at q
  split at q
  · rename_i l
    cases d with
    | cons d1 t1 =>
      cases t1
      obtain ⟨p, vs, rfl, h1, k1⟩ := sqT_of d1
      exact ⟨p, vs, rfl, .inr ⟨h1, q _ H as Ext.refl h.rel d1⟩⟩
  · rename_i y _
    cases d with
    | cons d1 t1 =>
      cases t1
      cases e : lsOf μ y with
      | none => rw [e] at q; exact q.elim
      | some l =>
        rw [e] at q
        obtain ⟨p, vs, rfl, h1, k1⟩ := sqL_of h.rel d1 e
        exact ⟨p, vs, rfl, .inl ⟨h1, fun p' hp => q _ _ as (Ext.push hp) (h.rel.push hp) (.tup (h.rel.newF hp) (h.rel.new hp) upd_same (k1.ext (Ext.push hp)))⟩⟩
  · exact q.elim

/-! isinstance with built-in types -/
def tyD (μ : List M) : D → Option String
  | .non => some "NoneType"
  | .bl _ => some "bool"
  | .int _ => some "int"
  | .str _ => some "str"
  | .lst _ => some "list"
  | .ro _ => some "list"
  | .tup _ => some "tuple"
  | .dic _ => some "dict"
  | .loc n => match μ[n]? with
    | some (.lst _) => some "list"
    | some (.dic _) => some "dict"
    | _ => none
  | _ => none
theorem tyD_x {as H μ} {v : V} {d : D} {t : String} (r : Rel w as H μ) (h : Den w as H v d) (e : tyD μ d = some t) : TyX w.K H v (.type t) := by
  cases h with
  | non => cases e; exact .base .non
  | bl b => cases e; exact .base (.bl b)
  | int i => cases e; exact .base (.int i)
  | str s => cases e; exact .base (.str _)
  | lst f n q k => cases e; exact .base (.lst q)
  | ro f n q k =>
    cases e
    rcases q with q | ⟨o, q⟩
    · exact .base (.lst q)
    · exact .base (.frz q)
  | roK q k =>
    cases e
    rcases q (fun _ => none) with z | ⟨o, its, n, h1, h2, _⟩
    · rcases z with z | ⟨o, z⟩ <;> cases z
    · exact .kList h1 h2
  | tup f n q k => cases e; exact .base (.tup q)
  | tupK q k =>
    cases e
    rcases q (fun _ => none) with z | ⟨o, its, n, h1, h2, _⟩
    · rcases z with z | ⟨o, z⟩ <;> cases z
    · exact .kTuple h1 h2
  | dic f n q k k2 => cases e; exact .base (.dK q)
  | @loc a n q =>
    have e : (match μ[n]? with | some (.lst _) => some "list" | some (.dic _) => some "dict" | _ => none) = some t := e
    cases z : μ[n]? with
    | none => rw [z] at e; cases e
    | some m =>
      rw [z] at e
      have c := r.cell n a m q z
      cases m with
      | lst l => cases e; obtain ⟨vs, h1, _⟩ := c; exact .base (.lst h1)
      | dic l => cases e; obtain ⟨vs, h1, _⟩ := c; exact .base (.dK h1)
      | _ => cases e
  | _ => cases e
def kitAnyB (t : String) : List String → Option Bool
  | [] => some false
  | c :: cs => match kitB t c with
    | some true => some true
    | some false => kitAnyB t cs
    | none => none
def tysOf : List D → Option (List String)
  | [] => some []
  | .ty n :: r => (tysOf r).map (n :: ·)
  | _ :: _ => none
theorem kitAny_of {K : PySem.W.Frag} {t : String} : ∀ {cs : List String} {b : Bool}, kitAnyB t cs = some b → PySem.W.kitAny K (.type t) (cs.map Value.type) = some b
  | [], b, e => by cases e; exact kitAny_nil
  | c :: cs, b, e => by
    unfold kitAnyB at e
    cases z : kitB t c with
    | none => rw [z] at e; cases e
    | some k =>
      rw [z] at e
      cases k with
      | true => cases e; exact kitAny_cons (kit_ty z) (fun q => absurd q (by decide)) fun _ => rfl
      | false => exact kitAny_cons (kit_ty z) (fun _ => kitAny_of e) fun q => absurd q (by decide)
theorem tys_dens {as H} : ∀ {vs : List V} {ds : List D} {l : List String}, Dens w as H vs ds → tysOf ds = some l → Paired ClsV vs (l.map Value.type)
  | _, _, _, .nil, e => by cases e; exact .nil
  | _, _, l, .cons h t, e => by
    cases h with
    | ty s =>
      rename_i vs ds
      cases z : tysOf ds with
      | none => simp only [tysOf, z] at e; cases e
      | some l' =>
        simp only [tysOf, z] at e; cases e
        exact .cons (.ty s) (tys_dens t z)
    | _ => cases e
def fIsI (ds : List D) (μ : List M) : ER := match ds with
  | [x, .ty c] => match tyD μ x with
    | some t => match kitB t c with
      | some b => .ok (.bl b) μ
      | none => .bad
    | none => .bad
  | [x, .tup l] => match tyD μ x, tysOf l with
    | some t, some cs => match kitAnyB t cs with
      | some b => .ok (.bl b) μ
      | none => .bad
    | _, _ => .bad
  | _ => .bad
end
end DL

namespace DL
open PySem PySem.Spec PyProof.Rows L2
variable {w : Wd}

/-! ### slots forgotten -/
theorem wipe_set {σ : L2.St} {t : Nat} {x : Option V} : ∀ {vs : List Nat}, t ∈ vs → L2.wipe (σ.set t x) vs = L2.wipe σ vs
  | [], h => nomatch h
  | v :: vs, h => by
    show (L2.wipe (σ.set t x) vs).set v none = (L2.wipe σ vs).set v none
    by_cases e : t = v
    · subst e
      by_cases m : t ∈ vs
      · rw [wipe_set m]
      · rw [wipe_comm m, List.set_set]
    · have m : t ∈ vs := by
        rcases List.mem_cons.mp h with z | z
        · exact absurd z e
        · exact z
      rw [wipe_set m]
where
  wipe_comm {σ : L2.St} {t : Nat} {x : Option V} : ∀ {vs : List Nat}, t ∉ vs → L2.wipe (σ.set t x) vs = (L2.wipe σ vs).set t x
    | [], _ => rfl
    | v :: vs, h => by
      show (L2.wipe (σ.set t x) vs).set v none = ((L2.wipe σ vs).set v none).set t x
      rw [wipe_comm fun m => h (List.mem_cons_of_mem _ m)]
      exact List.set_comm _ _ fun z => h (by rw [z]; exact List.mem_cons_self)
theorem wipe_idem {σ : L2.St} : ∀ {vs us : List Nat}, (∀ v ∈ us, v ∈ vs) → L2.wipe (L2.wipe σ us) vs = L2.wipe σ vs
  | vs, [], _ => rfl
  | vs, u :: us, h => by
    show L2.wipe ((L2.wipe σ us).set u none) vs = _
    rw [wipe_set (h u List.mem_cons_self)]
    exact wipe_idem fun v m => h v (List.mem_cons_of_mem _ m)

/-! ### targets -/
abbrev GM := D → List M → Dv → Option Dv
abbrev GsM := List D → List M → Dv → Option Dv
/-- what a target does on data; ts: its slots -/
def GD (w : Wd) (ts : List Nat) (g : TG) (gm : GM) : Prop := ∀ as H σ δ μ v d δ' Q, Here w as H σ δ μ → Den w as H v d → gm d μ δ = some δ' →
  (∀ σ', Sl w as H σ' δ' → (∀ vs, (∀ t ∈ ts, t ∈ vs) → L2.wipe σ' vs = L2.wipe σ vs) → Q σ' H) → g v σ H Q
def GsD (w : Wd) (ts : List Nat) (g : TGs) (gm : GsM) : Prop := ∀ as H σ δ μ vs ds δ' Q, Here w as H σ δ μ → Dens w as H vs ds → gm ds μ δ = some δ' →
  (∀ σ', Sl w as H σ' δ' → (∀ us, (∀ t ∈ ts, t ∈ us) → L2.wipe σ' us = L2.wipe σ us) → Q σ' H) → g vs σ H Q
def mgName (i : Nat) : GM := fun d _ δ => some (δ.set i (some d))
theorem gd_name {i : Nat} : GD w [i] (gName i) (mgName i) := by
  intro as H σ δ μ v d δ' Q h dn e k
  cases e
  exact k _ (h.sl.set dn i) fun vs m => wipe_set (m i List.mem_cons_self)
def mgNil : GsM := fun ds _ δ => match ds with
  | [] => some δ
  | _ => none
def mgCons (g : GM) (r : GsM) : GsM := fun ds μ δ => match ds with
  | d :: t => match g d μ δ with
    | some δ' => r t μ δ'
    | none => none
  | [] => none
theorem gd_nil : GsD w [] gNil mgNil := by
  intro as H σ δ μ vs ds δ' Q h dn e k
  cases dn with
  | nil => cases e; exact ⟨rfl, k σ h.sl fun _ _ => rfl⟩
  | cons a b => cases e
theorem gd_cons {ts us : List Nat} {g : TG} {gs : TGs} {gm : GM} {gsm : GsM} (h1 : GD w ts g gm) (h2 : GsD w us gs gsm) : GsD w (ts ++ us) (gCons g gs) (mgCons gm gsm) := by
  intro as H σ δ μ vs ds δ' Q h dn e k
  cases dn with
  | nil => cases e
  | @cons v d vs ds a b =>
    have e : (match gm d μ δ with | some δ' => gsm ds μ δ' | none => none) = some δ' := e
    cases z : gm d μ δ with
    | none => rw [z] at e; cases e
    | some δ1 =>
      rw [z] at e
      refine ⟨_, _, rfl, h1 as H σ δ μ v d δ1 _ h a z fun σ1 s1 w1 => ?_⟩
      exact h2 as H σ1 δ1 μ vs ds δ' Q ⟨h.rel, s1⟩ b e fun σ2 s2 w2 => k σ2 s2 fun ws m => (w2 ws fun t q => m t (List.mem_append_right _ q)).trans (w1 ws fun t q => m t (List.mem_append_left _ q))
/-- a, b = a tuple or a list -/
def mgTup (n : Nat) (r : GsM) : GM := fun d μ δ => match sqOf μ d with
  | some l => if l.length = n then r l μ δ else none
  | none => none
def gSeq (K : PySem.W.Frag) (n : Nat) (t : TGs) : TG := fun v σ H Q => gTup K n t v σ H Q ∨ gUnl K n t v σ H Q
theorem PG.or {X : Cx} {e : Expr} {t u : TG} (h : PG X e t) (h' : PG X e u) : PG X e (fun v σ H Q => t v σ H Q ∨ u v σ H Q) := ⟨fun pins s σ H v x Q I r q => q.elim (h.run pins s σ H v x Q I r) (h'.run pins s σ H v x Q I r)⟩
theorem pg_seq {X : Cx} {es : List Expr} {k : Nat} {pos : Pos} {t : TGs} {n : Nat} (hc : X.calm = true) (h : PGs X es t)
    (hn : (assignEach es X.env).length = n := by rfl) (hst : (assignEach es X.env).findIdx? (·.1) = none := by rfl) : PG X (.Tuple es k pos) (gSeq X.K n t) :=
  PG.or (pg_tup hc h hn hst) (pg_unl hc h hn hst)
theorem gd_tup {K : PySem.W.Frag} (hK : w.K = K) {n : Nat} {ts : List Nat} {g : TGs} {gm : GsM} (h1 : GsD w ts g gm) : GD w ts (gSeq K n g) (mgTup n gm) := by
  intro as H σ δ μ v d δ' Q h dn e k
  subst hK
  unfold mgTup at e
  cases z : sqOf μ d with
  | none => rw [z] at e; cases e
  | some l =>
    simp only [z] at e
    by_cases hn : l.length = n
    · rw [if_pos hn] at e
      obtain ⟨a, vs, rfl, hs, dv⟩ := sq_of h.rel dn z
      rcases hs with hs | hs
      · exact .inr ⟨a, vs, rfl, hs, by rw [dv.length]; exact hn, h1 as H σ δ μ vs l δ' Q h dv e k⟩
      · exact .inl ⟨a, vs, rfl, hs, by rw [dv.length]; exact hn, h1 as H σ δ μ vs l δ' Q h dv e k⟩
    · rw [if_neg hn] at e; cases e

/-! ### statements -/
section
variable {X : Cx} {W : WX} {e a b c : Expr} {pos : Pos}
def mNext : SM := fun δ μ => .nx δ μ
def mSeq (a b : SM) : SM := fun δ μ => match a δ μ with
  | .nx δ μ => b δ μ
  | r => r
def mDrop (m : EM) : SM := fun δ μ => (m δ μ).bindS δ fun _ μ => .nx δ μ
def mRet (m : EM) : SM := fun δ μ => (m δ μ).bindS δ fun d μ => .rt d δ μ
def mRetN : SM := fun δ μ => .rt .non δ μ
def mBrk : SM := fun δ μ => .bk δ μ
def mCnt : SM := fun δ μ => .ct δ μ
def mIfS (t : TM) (a b : SM) : SM := fun δ μ => (t δ μ).bindS δ fun k μ => if k then a δ μ else b δ μ
def mAsg (m : EM) (g : GM) : SM := fun δ μ => (m δ μ).bindS δ fun d μ => match g d μ δ with
  | some δ' => .nx δ' μ
  | none => .bad
theorem ss_nil : PSs X [] (rdS w W mNext) := PSs.to pss_nil fun D σ H ⟨fr, as, δ, μ, h, q⟩ => q σ H as Ext.refl h
theorem s_pass : PS X (.Pass pos) (rdS w W mNext) := PS.to ps_pass fun D σ H ⟨fr, as, δ, μ, h, q⟩ => q σ H as Ext.refl h
theorem s_doc {x j pos pos'} : PS X (.Expr (.Constant (.str x) j pos) pos') (rdS w W mNext) := PS.to ps_doc fun D σ H ⟨fr, as, δ, μ, h, q⟩ => q σ H as Ext.refl h
theorem s_break : PS X (.Break pos) (rdS w W mBrk) := PS.to ps_break fun D σ H ⟨fr, as, δ, μ, h, q⟩ => q σ H as Ext.refl h
theorem s_continue : PS X (.Continue pos) (rdS w W mCnt) := PS.to ps_continue fun D σ H ⟨fr, as, δ, μ, h, q⟩ => q σ H as Ext.refl h
/-- one block behind another -/
theorem SOk.seq {fr as H σ δ μ} {ma mb : SM} {E : Ends} (h : Here (w.on fr) as H σ δ μ) (q : SOk (w.on fr) W as H (mSeq ma mb δ μ) E) : SOk (w.on fr) W as H (ma δ μ) { E with nx := rdS w W mb E } := by
  have q : SOk (w.on fr) W as H (match ma δ μ with | .nx δ μ => mb δ μ | r => r) E := q
  revert q
  cases ma δ μ with
  | nx δ1 μ1 => exact fun q σ' H' as' e' h' => ⟨fr, as', δ1, μ1, h', SOk.ext e' q⟩
  | rt d δ1 μ1 => exact fun q => q
  | bk δ1 μ1 => exact fun q => q
  | ct δ1 μ1 => exact fun q => q
  | exc c fs δ1 μ1 => exact fun q => q
  | bad => exact fun q => q
theorem ss_cons {st : Stmt} {rest : List Stmt} {ma mb : SM} (h1 : PS X st (rdS w W ma)) (h2 : PSs X rest (rdS w W mb)) : PSs X (st :: rest) (rdS w W (mSeq ma mb)) :=
  PSs.to (pss_cons h1 h2) fun D σ H ⟨fr, as, δ, μ, h, q⟩ => ⟨fr, as, δ, μ, h, SOk.seq h q⟩
theorem ss_one {st : Stmt} {ma : SM} (h1 : PS X st (rdS w W ma)) : PSs X [st] (rdS w W ma) := pss_one h1
theorem s_expr {m : EM} (he : PE X e (rdE w W m)) (hs : swapsWith e none pos.line X.env = pure false := by rfl) : PS X (.Expr e pos) (rdS w W (mDrop m)) :=
  PS.to (ps_expr he hs) fun D σ H ⟨fr, as, δ, μ, h, q⟩ => bES h q fun v H1 as1 d μ1 h1 d1 q1 => q1 σ H1 as1 Ext.refl h1
theorem s_ret {m : EM} (he : PE X e (rdE w W m)) : PS X (.Return (some e) pos) (rdS w W (mRet m)) :=
  PS.to (ps_ret he) fun D σ H ⟨fr, as, δ, μ, h, q⟩ => bES h q fun v H1 as1 d μ1 h1 d1 q1 => q1 v H1 as1 Ext.refl h1.rel d1
theorem s_retN : PS X (.Return none pos) (rdS w W mRetN) := PS.to ps_retN fun D σ H ⟨fr, as, δ, μ, h, q⟩ => q _ H as Ext.refl h.rel .non
theorem s_if {xa xb : List Stmt} {t : TM} {ma mb : SM} (hc : PT X c (rdT w W t)) (ha : PSs X xa (rdS w W ma)) (hb : PSs X xb (rdS w W mb)) : PS X (.If c xa xb pos) (rdS w W (mIfS t ma mb)) :=
  PS.to (ps_if hc ha hb) fun D σ H ⟨fr, as, δ, μ, h, q⟩ => bTS h q fun k H1 as1 μ1 h1 q1 => by
    cases k with
    | true => exact SOk.rd h1 q1
    | false => exact SOk.rd h1 q1
theorem asg_ok {fr as H σ δ μ} {m : EM} {g : TG} {gm : GM} {ts : List Nat} {E : Ends} (hg : GD (w.on fr) ts g gm) (h : Here (w.on fr) as H σ δ μ) (q : SOk (w.on fr) W as H (mAsg m gm δ μ) E) : rdE w W m σ H fun x H1 => g x σ H1 E.nx :=
  bES h q fun v H1 as1 d μ1 h1 d1 q1 => by
    have q1 : SOk (w.on fr) W as1 H1 (match gm d μ1 δ with | some δ' => .nx δ' μ1 | none => .bad) E := q1
    cases z : gm d μ1 δ with
    | none => rw [z] at q1; exact q1.elim
    | some δ' =>
      rw [z] at q1
      exact hg as1 H1 σ δ μ1 v d δ' _ h1 d1 z fun σ' s' _ => q1 σ' H1 as1 Ext.refl ⟨h1.rel, s'⟩
theorem s_asg {tg : Expr} {m : EM} {g : TG} {gm : GM} {ts : List Nat} (hg : PG X tg g) (hd : ∀ fr, GD (w.on fr) ts g gm) (he : PE X e (rdE w W m)) (hs : swapsWithSole [tg] e pos.line X.env = pure false := by rfl) (hw : swappedStores [tg] e X.env = pure none := by rfl)
    (h1 : (assignEach [tg] X.env).map (·.2) = [assign tg X.env] := by rfl) : PS X (.Assign [tg] e pos) (rdS w W (mAsg m gm)) :=
  PS.to (ps_asg he hg hs hw h1) fun D σ H ⟨fr, as, δ, μ, h, q⟩ => asg_ok (hd fr) h q
theorem s_set {i : Nat} {x : Str} {m : EM} {pos' : Pos} (hN : X.N.Nodup) (hi : X.N[i]? = some x) (hx : Loc X.env.scope x) (he : PE X e (rdE w W m)) (hs : swapsWith e (some (.Name x pos')) pos.line X.env = pure false := by rfl) (hf : X.fn x = true ∨ X.env.scope.names.lookup x = some .local := by first | exact .inl rfl | exact .inr rfl | assumption) :
    PS X (.Assign [.Name x pos'] e pos) (rdS w W (mAsg m (mgName i))) :=
  PS.to (ps_set hN hi hx he hs hf) fun D σ H ⟨fr, as, δ, μ, h, q⟩ => asg_ok gd_name h q
/-- a, b = x, y with plain local names -/
def mPar (i j : Nat) (m : AM) : SM := fun δ μ => (m δ μ).bindS δ fun ds μ => match ds with
  | [x, y] => .nx ((δ.set i (some x)).set j (some y)) μ
  | _ => .bad
theorem s_par {i j : Nat} {x y : Str} {m : AM} {px py pt : Pos} {kt k2 pt2} (hc : X.calm = true) (hN : X.N.Nodup) (hi : X.N[i]? = some x) (hj : X.N[j]? = some y) (hij : i ≠ j)
    (hx : X.env.scope.names.lookup x = some .local) (hy : X.env.scope.names.lookup y = some .local) (ha : PA X [a, b] (rdA w W m))
    (hw : swappedStores [.Tuple [.Name x px, .Name y py] kt pt] (.Tuple [a, b] k2 pt2) X.env = pure (some [x, y]))
    (hs : swapsWithSole [.Tuple [.Name x px, .Name y py] kt pt] (.Tuple [a, b] k2 pt2) pos.line X.env = pure false := by rfl) :
    PS X (.Assign [.Tuple [.Name x px, .Name y py] kt pt] (.Tuple [a, b] k2 pt2) pos) (rdS w W (mPar i j m)) :=
  PS.to (ps_par hc hN hi hj hij hx hy ha hw hs) fun D σ H ⟨fr, as, δ, μ, h, q⟩ => bAS h q fun vs H1 as1 ds μ1 h1 d1 q1 => by
    match ds, d1, q1 with
    | [], _, q1 => exact q1.elim
    | [_], _, q1 => exact q1.elim
    | _ :: _ :: _ :: _, _, q1 => exact q1.elim
    | [x, y], .cons k1 (.cons k2 .nil), q1 => exact ⟨_, _, rfl, q1 _ H1 as1 Ext.refl ⟨h1.rel, (h1.sl.set k1 i).set k2 j⟩⟩

/-! ### what is walked -/
/-- n turns; at each the items as they then stand -/
inductive IR where
  | ok (n : Nat) (g : List M → Option (List D)) (μ : List M)
  | exc (c : Nat) (fs : List (Str × D)) (μ : List M)
  | bad
abbrev IM := Dv → List M → IR
/-- as Ext, but for what is barred -/
structure Xt (fr as : List Addr) (H H' : Hp) (as' : List Addr) : Prop where
  pre : ∃ t, as' = as ++ t
  new : ∀ a, a ∈ as' → a ∉ as → H a = none
  keep0 : ∀ b o, H b = some o → b ∉ as → b ∉ fr → H' b = some o ∨ ((∃ ps, o = .tbl ps) ∧ ∃ ps, H' b = some (.tbl ps))
  there : ∀ b o, H b = some o → b ∉ as → ∃ o', H' b = some o'
theorem Xt.of {fr as as' : List Addr} {H H' : Hp} (e : Ext as H H' as') : Xt fr as H H' as' := ⟨e.pre, e.new, fun b o h n _ => e.keep0 b o h n, fun b o h n => e.there h n⟩
theorem Xt.keep {fr as as' : List Addr} {H H' : Hp} (e : Xt fr as H H' as') (b : Addr) (o : HO) (h : H b = some o) (n : b ∉ as) (f : b ∉ fr) (nt : ∀ ps, o ≠ .tbl ps := by intro _ z; cases z) : H' b = some o :=
  (e.keep0 b o h n f).elim id fun ⟨⟨ps, z⟩, _⟩ => absurd z (nt ps)
theorem Xt.out {fr as as' : List Addr} {H H' : Hp} (e : Xt fr as H H' as') {b : Addr} {o : HO} (h : H b = some o) (n : b ∉ as) : b ∉ as' := fun m => by
  rw [e.new b m n] at h
  cases h
theorem Xt.get {fr as as' : List Addr} {H H' : Hp} (e : Xt fr as H H' as') {n : Nat} {a : Addr} (h : as[n]? = some a) : as'[n]? = some a := by
  obtain ⟨t, rfl⟩ := e.pre
  rw [List.getElem?_append_left (List.getElem?_eq_some_iff.mp h).1]
  exact h
theorem Xt.trans {fr as as1 as2 : List Addr} {H H1 H2 : Hp} (a : Xt fr as H H1 as1) (b : Ext as1 H1 H2 as2) : Xt fr as H H2 as2 := by
  obtain ⟨t, rfl⟩ := a.pre
  obtain ⟨t', rfl⟩ := b.pre
  refine ⟨⟨t ++ t', by rw [List.append_assoc]⟩, fun x h n => ?_, fun x o h n f => ?_, fun x o h n => ?_⟩
  · by_cases m : x ∈ as ++ t
    · exact a.new x m n
    · cases q : H x with
      | none => rfl
      | some o =>
        have z := b.new x h m
        obtain ⟨o', q'⟩ := a.there x o q n
        rw [q'] at z
        cases z
  · have n1 := a.out h n
    rcases a.keep0 x o h n f with h1 | ⟨h0, ps, h1⟩
    · exact b.keep0 x o h1 n1
    · rcases b.keep0 x _ h1 n1 with h2 | ⟨_, ps', h2⟩
      · exact .inr ⟨h0, ps, h2⟩
      · exact .inr ⟨h0, ps', h2⟩
  · obtain ⟨o', q'⟩ := a.there x o h n
    exact b.there q' (a.out h n)
theorem Xt.upd {fr as as' : List Addr} {H H' : Hp} {L : Addr} {o : HO} (e : Xt fr as H H' as') (m : L ∈ fr) : Xt fr as H (upd H' L o) as' :=
  ⟨e.pre, e.new, fun b u h n f => by
    have hb : b ≠ L := fun z => f (by rw [z]; exact m)
    rw [upd_ne hb]; exact e.keep0 b u h n f, fun b u h n => by
    by_cases z : b = L
    · rw [z]; exact ⟨o, upd_same⟩
    · rw [upd_ne z]; exact e.there b u h n⟩
theorem Rd.xt {fr as as' : List Addr} {H H' : Hp} (e : Xt fr as H H' as') {a : Addr} {u : HO} (h : Rd H a u) (n : a ∉ as) (f : a ∉ fr) (nt : ∀ ps, u ≠ .tbl ps := by intro _ z; cases z) : Rd H' a u ∧ a ∉ as' := by
  rcases h with h | ⟨o, h⟩
  · exact ⟨.inl (e.keep _ _ h n f nt), e.out h n⟩
  · exact ⟨.inr ⟨o, e.keep _ _ h n f⟩, e.out h n⟩
mutual
theorem Den.xt {fr as as' : List Addr} {H H' : Hp} (e : Xt fr as H H' as') : ∀ {v : V} {d : D}, Den (w.on fr) as H v d → Den (w.on fr) as' H' v d
  | _, _, .non => .non
  | _, _, .bl b => .bl b
  | _, _, .int i => .int i
  | _, _, .str s => .str s
  | _, _, .lst f n r q => .lst f (e.out r n) (e.keep _ _ r n f) (Dens.xt e q)
  | _, _, .ro f n r q => .ro f (Rd.xt e r n f).2 (Rd.xt e r n f).1 (Dens.xt e q)
  | _, _, .tup f n r q => .tup f (e.out r n) (e.keep _ _ r n f) (Dens.xt e q)
  | _, _, .roK r q => .roK r (Dens.xt e q)
  | _, _, .tupK r q => .tupK r (Dens.xt e q)
  | _, _, .dic f n r k q => .dic f (e.out r n) (e.keep _ _ r n f) k (Dens.xt e q)
  | _, _, .obj f n r k q => .obj f (e.out r n) (e.keep _ _ r n f) k (Dens.xt e q)
  | _, _, .exc0 f n r => .exc0 f (e.out r n) (e.keep _ _ r n f exv_tbl)
  | _, _, .excD f n r f2 n2 r2 k q => .excD f (e.out r n) (e.keep _ _ r n f exv_tbl) f2 (e.out r2 n2) (e.keep _ _ r2 n2 f2) k (Dens.xt e q)
  | _, _, .ty n => .ty n
  | _, _, .cls c => .cls c
  | _, _, .lam h => .lam h
  | _, _, .loc h => .loc (e.get h)
theorem Dens.xt {fr as as' : List Addr} {H H' : Hp} (e : Xt fr as H H' as') : ∀ {vs : List V} {ds : List D}, Dens (w.on fr) as H vs ds → Dens (w.on fr) as' H' vs ds
  | _, _, .nil => .nil
  | _, _, .cons h t => .cons (Den.xt e h) (Dens.xt e t)
end
structure JOk (w : Wd) (J : It) (as0 : List Addr) (H0 : Hp) (n : Nat) (g : List M → Option (List D)) : Prop where
  go : ∀ fr, (∀ a ∈ fr, a ∈ w.fr ∨ H0 a = none) → ∀ as H μ l i, Xt fr as0 H0 H as → Rel (w.on fr) as H μ → g μ = some l → l.length = n → i < n → J.go i H
  yld : ∀ fr, (∀ a ∈ fr, a ∈ w.fr ∨ H0 a = none) → ∀ as H μ l i x H', Xt fr as0 H0 H as → Rel (w.on fr) as H μ → g μ = some l → l.length = n → i < n → J.yld i H x H' → ∃ d, l[i]? = some d ∧ Ext as H H' as ∧ Rel (w.on fr) as H' μ ∧ Den (w.on fr) as H' x d
  stop : ∀ fr, (∀ a ∈ fr, a ∈ w.fr ∨ H0 a = none) → ∀ as H μ l, Xt fr as0 H0 H as → Rel (w.on fr) as H μ → g μ = some l → l.length = n → J.stop n H
mutual
theorem Den.fr {as : List Addr} {H : Hp} {fr : List Addr} (f : ∀ a ∈ fr, a ∈ w.fr ∨ H a = none) : ∀ {v : V} {d : D}, Den w as H v d → Den (w.on fr) as H v d
  | _, _, .non => .non
  | _, _, .bl b => .bl b
  | _, _, .int i => .int i
  | _, _, .str s => .str s
  | _, _, .lst k n r q => .lst (fun m => (f _ m).elim k fun z => by rw [r] at z; cases z) n r (Dens.fr f q)
  | _, _, .ro k n r q => .ro (fun m => (f _ m).elim k fun z => by rcases r with r | ⟨o, r⟩ <;> (rw [r] at z; cases z)) n r (Dens.fr f q)
  | _, _, .tup k n r q => .tup (fun m => (f _ m).elim k fun z => by rw [r] at z; cases z) n r (Dens.fr f q)
  | _, _, .roK r q => .roK r (Dens.fr f q)
  | _, _, .tupK r q => .tupK r (Dens.fr f q)
  | _, _, .dic k n r k2 q => .dic (fun m => (f _ m).elim k fun z => by rw [r] at z; cases z) n r k2 (Dens.fr f q)
  | _, _, .obj k n r k2 q => .obj (fun m => (f _ m).elim k fun z => by rw [r] at z; cases z) n r k2 (Dens.fr f q)
  | _, _, .exc0 k n r => .exc0 (fun m => (f _ m).elim k fun z => by rw [r] at z; cases z) n r
  | _, _, .excD k n r k3 n2 r2 k2 q => .excD (fun m => (f _ m).elim k fun z => by rw [r] at z; cases z) n r (fun m => (f _ m).elim k3 fun z => by rw [r2] at z; cases z) n2 r2 k2 (Dens.fr f q)
  | _, _, .ty n => .ty n
  | _, _, .cls c => .cls c
  | _, _, .lam h => .lam h
  | _, _, .loc h => .loc h
theorem Dens.fr {as : List Addr} {H : Hp} {fr : List Addr} (f : ∀ a ∈ fr, a ∈ w.fr ∨ H a = none) : ∀ {vs : List V} {ds : List D}, Dens w as H vs ds → Dens (w.on fr) as H vs ds
  | _, _, .nil => .nil
  | _, _, .cons h t => .cons (Den.fr f h) (Dens.fr f t)
end
def IOk (w : Wd) (W : WX) (σ : L2.St) (as : List Addr) (H : Hp) (r : IR) (R : It → Hp → Prop) : Prop := match r with
  | .ok n g μ' => ∀ J H' as', Ext as H H' as' → Rel w as' H' μ' → JOk w J as' H' n g → R J H'
  | .exc c fs μ' => ∀ dd H' as', Ext as H H' as' → Rel w as' H' μ' → ExD w as' H' dd fs → W (.ref (w.ct c)) dd σ H'
  | .bad => False
theorem IOk.ext {W : WX} {σ : L2.St} {as as1 : List Addr} {H H1 : Hp} {r : IR} {R : It → Hp → Prop} (e : Ext as H H1 as1) (q : IOk w W σ as H r R) : IOk w W σ as1 H1 r R := match r, q with
  | .ok _ _ _, q => fun J H' as' e' => q J H' as' (e.trans e')
  | .exc _ _ _, q => fun dd H' as' e' => q dd H' as' (e.trans e')
  | .bad, q => q
def rdI (w : Wd) (W : WX) (m : IM) : TI := fun σ H R => ∃ fr as δ μ, Here (w.on fr) as H σ δ μ ∧ IOk (w.on fr) W σ as H (m δ μ) R
theorem PI.to {tg it : Expr} {t t' : TI} (h : PI X tg it t) (i : ∀ σ H R, t' σ H R → t σ H R) : PI X tg it t' := ⟨fun pins s σ H R I q => h.run pins s σ H R I (i σ H R q)⟩
theorem PI.or {tg it : Expr} {t t' : TI} (h : PI X tg it t) (h' : PI X tg it t') : PI X tg it (fun σ H R => t σ H R ∨ t' σ H R) := ⟨fun pins s σ H R I q => q.elim (h.run pins s σ H R I) (h'.run pins s σ H R I)⟩
def ER.bindI (r : ER) (k : D → List M → IR) : IR := match r with
  | .ok d μ => k d μ
  | .exc c fs μ => .exc c fs μ
  | .bad => .bad
def AR.bindI (r : AR) (k : List D → List M → IR) : IR := match r with
  | .ok d μ => k d μ
  | .exc c fs μ => .exc c fs μ
  | .bad => .bad
theorem bEI {fr as H σ δ μ} {ma : EM} {k : D → List M → IR} {R : It → Hp → Prop} {Q' : VK} (h : Here (w.on fr) as H σ δ μ) (q : IOk (w.on fr) W σ as H ((ma δ μ).bindI k) R)
    (kk : ∀ v H1 as1 d μ1, Here (w.on fr) as1 H1 σ δ μ1 → Den (w.on fr) as1 H1 v d → IOk (w.on fr) W σ as1 H1 (k d μ1) R → Q' v H1) : rdE w W ma σ H Q' := by
  refine ⟨fr, as, δ, μ, h, ?_⟩
  revert q
  cases ma δ μ with
  | ok d μ1 => exact fun q v H1 as1 e r dn => kk v H1 as1 d μ1 (h.ext e r) dn (IOk.ext e q)
  | exc c fs μ1 => exact fun q => q
  | bad => exact fun q => q
theorem bAI {fr as H σ δ μ} {ma : AM} {k : List D → List M → IR} {R : It → Hp → Prop} {Q' : List V → Hp → Prop} (h : Here (w.on fr) as H σ δ μ) (q : IOk (w.on fr) W σ as H ((ma δ μ).bindI k) R)
    (kk : ∀ v H1 as1 d μ1, Here (w.on fr) as1 H1 σ δ μ1 → Dens (w.on fr) as1 H1 v d → IOk (w.on fr) W σ as1 H1 (k d μ1) R → Q' v H1) : rdA w W ma σ H Q' := by
  refine ⟨fr, as, δ, μ, h, ?_⟩
  revert q
  cases ma δ μ with
  | ok d μ1 => exact fun q v H1 as1 e r dn => kk v H1 as1 d μ1 (h.ext e r) dn (IOk.ext e q)
  | exc c fs μ1 => exact fun q => q
  | bad => exact fun q => q
/-! a list, a tuple, a text, as it stands -/
def strItems (s : List Nat) : List D := s.map fun c => .str [c]
def seqG (d : D) : List M → Option (List D) := match d with
  | .str s => fun _ => some (strItems s)
  | d => fun μ => sqOf μ d
def mISeq (m : EM) : IM := fun δ μ => (m δ μ).bindI fun d μ => match seqG d μ with
  | some l => .ok l.length (seqG d) μ
  | none => .bad
theorem jok_list {as H a d} (ha : ∀ fr, (∀ a ∈ fr, a ∈ w.fr ∨ H a = none) → ∀ as' H' μ l, Xt fr as H H' as' → Rel (w.on fr) as' H' μ → sqOf μ d = some l → ∃ vs, SqL w.K H' a vs ∧ Dens (w.on fr) as' H' vs l) {n : Nat} : JOk w (Itl w.K a) as H n (fun μ => sqOf μ d) where
  go := fun fr f as' H' μ l i e r g hl hi => by
    obtain ⟨vs, h1, h2⟩ := ha fr f as' H' μ l e r g
    obtain ⟨v, hv, _⟩ := h2.get (i := i) (d := l[i]'(by omega)) (List.getElem?_eq_getElem _)
    exact ⟨vs, v, h1, hv⟩
  yld := fun fr f as' H' μ l i x H1 e r g hl hi ⟨e1, y⟩ => by
    subst e1
    obtain ⟨vs, h1, h2⟩ := ha fr f as' H1 μ l e r g
    obtain ⟨d, hd, dn⟩ := h2.getV (y vs h1)
    exact ⟨d, hd, Ext.refl, r, dn⟩
  stop := fun fr f as' H' μ l e r g hl => by
    obtain ⟨vs, h1, h2⟩ := ha fr f as' H' μ l e r g
    exact ⟨vs, h1, by rw [h2.length, hl]; exact Nat.le_refl _⟩
theorem jok_tup {as H a d} (ha : ∀ fr, (∀ a ∈ fr, a ∈ w.fr ∨ H a = none) → ∀ as' H' μ l, Xt fr as H H' as' → Rel (w.on fr) as' H' μ → sqOf μ d = some l → ∃ vs, SqT w.K H' a vs ∧ Dens (w.on fr) as' H' vs l) {n : Nat} : JOk w (Itt w.K a) as H n (fun μ => sqOf μ d) where
  go := fun fr f as' H' μ l i e r g hl hi => by
    obtain ⟨vs, h1, h2⟩ := ha fr f as' H' μ l e r g
    obtain ⟨v, hv, _⟩ := h2.get (i := i) (d := l[i]'(by omega)) (List.getElem?_eq_getElem _)
    exact ⟨vs, v, h1, hv⟩
  yld := fun fr f as' H' μ l i x H1 e r g hl hi ⟨e1, y⟩ => by
    subst e1
    obtain ⟨vs, h1, h2⟩ := ha fr f as' H1 μ l e r g
    obtain ⟨d, hd, dn⟩ := h2.getV (y vs h1)
    exact ⟨d, hd, Ext.refl, r, dn⟩
  stop := fun fr f as' H' μ l e r g hl => by
    obtain ⟨vs, h1, h2⟩ := ha fr f as' H' μ l e r g
    exact ⟨vs, h1, by rw [h2.length, hl]; exact Nat.le_refl _⟩
theorem jok_str {as H s} : JOk w (Its ⟨s.toArray⟩) as H s.length (fun _ => some (strItems s)) where
  go := fun fr f as' H' μ l i e r g hl hi => by
    show i < (⟨s.toArray⟩ : Str).cps.size
    simpa using hi
  yld := fun fr f as' H' μ l i x H1 e r g hl hi ⟨e1, c, hc, ex⟩ => by
    subst e1 ex
    cases g
    refine ⟨.str [c], ?_, Ext.refl, r, .str [c]⟩
    have hc : s[i]? = some c := by simpa using hc
    simp [strItems, hc]
  stop := fun fr f as' H' μ l e r g hl => by
    show (⟨s.toArray⟩ : Str).cps.size ≤ s.length
    simp
theorem i_seq {tg : Expr} {m : EM} (he : PE X e (rdE w W m)) (hK : w.K = X.K := by rfl) : PI X tg e (rdI w W (mISeq m)) :=
  PI.to (PI.or (pi_str he) (PI.or (pi_list he) (pi_tup he))) fun σ H R ⟨fr, as, δ, μ, h, q⟩ => by
    have q0 : IOk (w.on fr) W σ as H ((m δ μ).bindI fun d μ => match seqG d μ with | some l => .ok l.length (seqG d) μ | none => .bad) R := q
    have go : ∀ d μ1, m δ μ = .ok d μ1 → IOk (w.on fr) W σ as H (match seqG d μ1 with | some l => .ok l.length (seqG d) μ1 | none => .bad) R := fun d μ1 z => by
      rw [z] at q0; exact q0
    cases z : m δ μ with
    | bad => rw [z] at q0; exact q0.elim
    | exc c fs μ1 =>
      rw [z] at q0
      refine .inl ⟨fr, as, δ, μ, h, ?_⟩
      rw [z]; exact q0
    | ok d μ1 =>
      have q1 := go d μ1 z
      by_cases hs : ∃ s, d = .str s
      · obtain ⟨s, rfl⟩ := hs
        refine .inl ⟨fr, as, δ, μ, h, ?_⟩
        rw [z]
        intro v H1 as1 e1 r1 d1
        cases d1
        have q2 : IOk (w.on fr) W σ as H (.ok (strItems s).length (fun _ => some (strItems s)) μ1) R := q1
        have hl : (strItems s).length = s.length := by simp [strItems]
        rw [hl] at q2
        exact ⟨_, rfl, q2 _ H1 as1 e1 r1 jok_str⟩
      · have e2 : seqG d = fun μ => sqOf μ d := by
          cases d with
          | str s => exact absurd ⟨s, rfl⟩ hs
          | _ => rfl
        have q2 : IOk (w.on fr) W σ as H (match sqOf μ1 d with | some l => .ok l.length (fun μ => sqOf μ d) μ1 | none => .bad) R := by
          have q3 := q1
          rw [e2] at q3; exact q3
        cases z2 : sqOf μ1 d with
        | none => rw [z2] at q2; exact q2.elim
        | some l =>
          rw [z2] at q2
          by_cases ht : ∃ l, d = .tup l
          · refine .inr (.inr ⟨fr, as, δ, μ, h, ?_⟩)
            rw [z]
            intro v H1 as1 e1 r1 d1
            obtain ⟨l0, rfl⟩ := ht
            obtain ⟨a, vs, rfl, h1, h2⟩ := sqT_of d1
            rw [← hK]
            refine ⟨a, rfl, ⟨vs, h1⟩, q2 (Itt w.K a) H1 as1 e1 r1 (jok_tup (w := w.on fr) fun fr' f as' H' μ' l' e' r' g => ?_)⟩
            obtain ⟨a', vs', ea, h1', h2'⟩ := sqT_of ((d1.fr f).xt e')
            cases ea
            cases g
            exact ⟨vs', h1', h2'⟩
          · refine .inr (.inl ⟨fr, as, δ, μ, h, ?_⟩)
            rw [z]
            intro v H1 as1 e1 r1 d1
            have conv : ∀ μ' l', sqOf μ' d = some l' → lsOf μ' d = some l' := fun μ' l' g => by
              cases d with
              | tup l0 => exact absurd ⟨l0, rfl⟩ ht
              | _ => exact g
            obtain ⟨a, vs, rfl, h1, h2⟩ := sqL_of r1 d1 (conv _ _ z2)
            rw [← hK]
            refine ⟨a, rfl, ⟨vs, h1⟩, q2 (Itl w.K a) H1 as1 e1 r1 (jok_list (w := w.on fr) fun fr' f as' H' μ' l' e' r' g => ?_)⟩
            obtain ⟨a', vs', ea, h1', h2'⟩ := sqL_of r' ((d1.fr f).xt e') (conv _ _ g)
            cases ea
            exact ⟨vs', h1', h2'⟩
/-! range -/
def rngItems (lo : Int) (n : Nat) : List D := (List.range n).map fun i => .int (lo + (i : Nat))
def rngOk (i : Int) : Bool := decide (-(2 ^ 62) ≤ i ∧ i < 2 ^ 62)
def mIRng1 (m : AM) : IM := fun δ μ => (m δ μ).bindI fun ds μ => match ds with
  | [.int j] => if rngOk j then .ok j.toNat (fun _ => some (rngItems 0 j.toNat)) μ else .bad
  | _ => .bad
def mIRng2 (m : AM) : IM := fun δ μ => (m δ μ).bindI fun ds μ => match ds with
  | [.int i, .int j] => if rngOk i && rngOk j then .ok (j - i).toNat (fun _ => some (rngItems i (j - i).toNat)) μ else .bad
  | _ => .bad
theorem jok_rng {as H lo n} : JOk w (Itr lo n) as H n (fun _ => some (rngItems lo n)) where
  go := fun fr f as' H' μ l i e r g hl hi => hi
  yld := fun fr f as' H' μ l i x H1 e r g hl hi ⟨e1, ex⟩ => by
    subst e1 ex
    cases g
    exact ⟨.int (lo + i), by simp [rngItems, hi], Ext.refl, r, .int _⟩
  stop := fun fr f as' H' μ l e r g hl => Nat.le_refl _
theorem i_range1 {tg : Expr} {m : AM} {p : Pos} (hg : Gl X "range") (hm : X.mg "range" = none) (ha : PA X [a] (rdA w W m)) (hs : starEach [a] X.env = [(false, eval a X.env)] := by rfl) : PI X tg (.Call (.Name "range" p) [a] [] pos) (rdI w W (mIRng1 m)) :=
  PI.to (pi_range1 hg hm ha hs) fun σ H R ⟨fr, as, δ, μ, h, q⟩ => bAI h q fun vs H1 as1 ds μ1 h1 d1 q1 => by
    match ds, d1, q1 with
    | [.int j], .cons (.int _) .nil, q1 =>
      have q1 : IOk (w.on fr) W σ as1 H1 (if rngOk j then .ok j.toNat (fun _ => some (rngItems 0 j.toNat)) μ1 else .bad) R := q1
      cases z : rngOk j with
      | false => rw [z] at q1; exact q1.elim
      | true =>
        rw [z] at q1
        have z : -(2 ^ 62) ≤ j ∧ j < 2 ^ 62 := of_decide_eq_true z
        exact ⟨j, rfl, z.1, z.2, q1 _ H1 as1 Ext.refl h1.rel jok_rng⟩
theorem i_range2 {tg : Expr} {m : AM} {p : Pos} (hg : Gl X "range") (hm : X.mg "range" = none) (ha : PA X [a, b] (rdA w W m)) (hs : starEach [a, b] X.env = [(false, eval a X.env), (false, eval b X.env)] := by rfl) (hs2 : starEach [b] X.env = [(false, eval b X.env)] := by rfl) : PI X tg (.Call (.Name "range" p) [a, b] [] pos) (rdI w W (mIRng2 m)) :=
  PI.to (pi_range2 hg hm ha hs hs2) fun σ H R ⟨fr, as, δ, μ, h, q⟩ => bAI h q fun vs H1 as1 ds μ1 h1 d1 q1 => by
    match ds, d1, q1 with
    | [.int i, .int j], .cons (.int _) (.cons (.int _) .nil), q1 =>
      have q1 : IOk (w.on fr) W σ as1 H1 (if rngOk i && rngOk j then .ok (j - i).toNat (fun _ => some (rngItems i (j - i).toNat)) μ1 else .bad) R := q1
      cases z : rngOk i && rngOk j with
      | false => rw [z] at q1; exact q1.elim
      | true =>
        rw [z] at q1
        obtain ⟨z1, z2⟩ := Bool.and_eq_true_iff.mp z
        have z1 : -(2 ^ 62) ≤ i ∧ i < 2 ^ 62 := of_decide_eq_true z1
        have z2 : -(2 ^ 62) ≤ j ∧ j < 2 ^ 62 := of_decide_eq_true z2
        exact ⟨i, j, rfl, ⟨z1.1, z1.2, z2.1, z2.2⟩, q1 _ H1 as1 Ext.refl h1.rel jok_rng⟩

/-! ### for, while -/
def forGo (gm : GM) (mb : SM) (g : List M → Option (List D)) (n : Nat) : Nat → Nat → Dv → List M → SR
  | 0, _, δ, μ => match g μ with
    | some l => if l.length = n then .nx δ μ else .bad
    | none => .bad
  | k + 1, i, δ, μ => match g μ with
    | some l => if l.length = n then match l[i]? with
      | some d => match gm d μ δ with
        | some δ1 => match mb δ1 μ with
          | .nx δ2 μ2 => forGo gm mb g n k (i + 1) δ2 μ2
          | .ct δ2 μ2 => forGo gm mb g n k (i + 1) δ2 μ2
          | .bk δ2 μ2 => .nx δ2 μ2
          | r => r
        | none => .bad
      | none => .bad
      else .bad
    | none => .bad
def mFor (mi : IM) (gm : GM) (mb : SM) : SM := fun δ μ => match mi δ μ with
  | .ok n g μ => forGo gm mb g n n 0 δ μ
  | .exc c fs μ => .exc c fs δ μ
  | .bad => .bad
theorem s_for {tg iter : Expr} {body : List Stmt} {mi : IM} {g : TG} {gm : GM} {ts : List Nat} {mb : SM} (hp : PassesOwn (model X.prog X.w) X.A X.env X.xe) (hc : X.calm = true) (hi : PI X tg iter (rdI w W mi)) (hg : PG X tg g) (hd : ∀ fr, GD (w.on fr) ts g gm) (hb : PSs X body (rdS w W mb))
    (hs : ∀ x, foldedSetIterable iter X.env x = pure x := by intro _; rfl) : PS X (.For tg iter body [] pos) (rdS w W (mFor mi gm mb)) :=
  PS.to (ps_for hp hc hi hg hb hs) fun E σ H ⟨fr, as, δ, μ, h, q⟩ => by
    refine ⟨fr, as, δ, μ, h, ?_⟩
    have q : SOk (w.on fr) W as H (match mi δ μ with | .ok n g μ => forGo gm mb g n n 0 δ μ | .exc c fs μ => .exc c fs δ μ | .bad => .bad) E := q
    revert q
    cases mi δ μ with
    | bad => exact fun q => q
    | exc c fs μ1 => exact fun q dd H1 as1 e r x => q dd σ H1 as1 e (h.ext e r) x
    | ok n g μ1 =>
      intro q J H1 as1 e1 r1 jo
      have base : ∀ a ∈ fr, a ∈ (w.on fr).fr ∨ H1 a = none := fun a m => .inl m
      refine ⟨fun i m σ H => i ≤ n ∧ m = n - i ∧ ∃ as' δ' μ', Ext as1 H1 H as' ∧ Here (w.on fr) as' H σ δ' μ' ∧ SOk (w.on fr) W as' H (forGo gm mb g n (n - i) i δ' μ') E, ⟨n, Nat.zero_le _, by simp, as1, δ, μ1, Ext.refl, h.ext e1 r1, SOk.ext e1 q⟩, ?_⟩
      rintro i m σ2 H2 ⟨hi, rfl, as2, δ2, μ2, e2, h2, q2⟩
      by_cases hlt : i < n
      · obtain ⟨k, hk⟩ : ∃ k, n - i = k + 1 := ⟨n - i - 1, by omega⟩
        rw [hk] at q2
        have q2 : SOk (w.on fr) W as2 H2 (match g μ2 with
          | some l => if l.length = n then match l[i]? with
            | some d => match gm d μ2 δ2 with
              | some δ1 => match mb δ1 μ2 with
                | .nx δ2 μ2 => forGo gm mb g n k (i + 1) δ2 μ2
                | .ct δ2 μ2 => forGo gm mb g n k (i + 1) δ2 μ2
                | .bk δ2 μ2 => .nx δ2 μ2
                | r => r
              | none => .bad
            | none => .bad
            else .bad
          | none => .bad) E := q2
        cases z1 : g μ2 with
        | none => rw [z1] at q2; exact q2.elim
        | some l =>
          simp only [z1] at q2
          by_cases hl : l.length = n
          · rw [if_pos hl] at q2
            refine .inr ⟨jo.go fr base as2 H2 μ2 l i (.of e2) h2.rel z1 hl hlt, fun σ' H' => ∃ as' δ' μ', Ext as1 H1 H' as' ∧ Here (w.on fr) as' H' σ' δ' μ' ∧ SOk (w.on fr) W as' H' (forGo gm mb g n (n - (i + 1)) (i + 1) δ' μ') E, fun σ' H' p' => ⟨n - (i + 1), by omega, hlt, rfl, p'⟩, fun x H3 y => ?_⟩
            obtain ⟨d, hd1, e3, r3, dn⟩ := jo.yld fr base as2 H2 μ2 l i x H3 (.of e2) h2.rel z1 hl hlt y
            simp only [hd1] at q2
            cases z2 : gm d μ2 δ2 with
            | none => rw [z2] at q2; exact q2.elim
            | some δ3 =>
              simp only [z2] at q2
              have h3 := h2.ext e3 r3
              refine hd fr as2 H3 σ2 δ2 μ2 x d δ3 _ h3 dn z2 fun σ4 s4 _ => ?_
              refine ⟨fr, as2, δ3, μ2, ⟨r3, s4⟩, ?_⟩
              have q3 := SOk.ext e3 q2
              have ek : n - (i + 1) = k := by omega
              revert q3
              cases mb δ3 μ2 with
              | nx δ5 μ5 => exact fun q3 σ' H' as' e' h' => ⟨as', δ5, μ5, (e2.trans e3).trans e', h', by rw [ek]; exact SOk.ext e' q3⟩
              | ct δ5 μ5 => exact fun q3 σ' H' as' e' h' => ⟨as', δ5, μ5, (e2.trans e3).trans e', h', by rw [ek]; exact SOk.ext e' q3⟩
              | bk δ5 μ5 => exact fun q3 => q3
              | rt d δ5 μ5 => exact fun q3 => q3
              | exc c fs δ5 μ5 => exact fun q3 => q3
              | bad => exact fun q3 => q3
          · rw [if_neg hl] at q2; exact q2.elim
      · have en : i = n := by omega
        subst en
        rw [Nat.sub_self] at q2
        have q2 : SOk (w.on fr) W as2 H2 (match g μ2 with | some l => if l.length = i then .nx δ2 μ2 else .bad | none => .bad) E := q2
        cases z1 : g μ2 with
        | none => rw [z1] at q2; exact q2.elim
        | some l =>
          simp only [z1] at q2
          by_cases hl : l.length = i
          · rw [if_pos hl] at q2
            exact .inl ⟨jo.stop fr base as2 H2 μ2 l (.of e2) h2.rel z1 hl, q2 σ2 H2 as2 Ext.refl h2⟩
          · rw [if_neg hl] at q2; exact q2.elim
def whileGo (t : TM) (mb : SM) : Nat → Dv → List M → SR
  | 0, _, _ => .bad
  | k + 1, δ, μ => (t δ μ).bindS δ fun b μ1 => if b then match mb δ μ1 with
    | .nx δ2 μ2 => whileGo t mb k δ2 μ2
    | .ct δ2 μ2 => whileGo t mb k δ2 μ2
    | .bk δ2 μ2 => .nx δ2 μ2
    | r => r
    else .nx δ μ1
theorem s_while {body : List Stmt} {t : TM} {mb : SM} (fuel : Nat) (hp : PassesOwn (model X.prog X.w) X.A X.env X.xe) (hc : PT X c (rdT w W t)) (hb : PSs X body (rdS w W mb)) : PS X (.While c body [] pos) (rdS w W (whileGo t mb fuel)) :=
  PS.to (ps_while hp hc hb) fun E σ H ⟨fr, as, δ, μ, h, q⟩ => by
    refine ⟨fun m σ H => ∃ as δ μ, Here (w.on fr) as H σ δ μ ∧ SOk (w.on fr) W as H (whileGo t mb m δ μ) E, ⟨fuel, as, δ, μ, h, q⟩, ?_⟩
    rintro m σ1 H1 ⟨as1, δ1, μ1, h1, q1⟩
    cases m with
    | zero => exact q1.elim
    | succ k =>
      have q1 : SOk (w.on fr) W as1 H1 ((t δ1 μ1).bindS δ1 fun b μ1 => if b then match mb δ1 μ1 with
        | .nx δ2 μ2 => whileGo t mb k δ2 μ2
        | .ct δ2 μ2 => whileGo t mb k δ2 μ2
        | .bk δ2 μ2 => .nx δ2 μ2
        | r => r
        else .nx δ1 μ1) E := q1
      refine bTS h1 q1 fun b H2 as2 μ2 h2 q2 => ?_
      cases b with
      | false => exact q2 σ1 H2 as2 Ext.refl h2
      | true =>
        rw [if_pos rfl]
        refine ⟨fun σ' H' => ∃ as δ μ, Here (w.on fr) as H' σ' δ μ ∧ SOk (w.on fr) W as H' (whileGo t mb k δ μ) E, fun σ' H' p => ⟨k, Nat.lt_succ_self _, p⟩, ?_⟩
        refine ⟨fr, as2, δ1, μ2, h2, ?_⟩
        have q2 : SOk (w.on fr) W as2 H2 (match mb δ1 μ2 with
          | .nx δ2 μ2 => whileGo t mb k δ2 μ2
          | .ct δ2 μ2 => whileGo t mb k δ2 μ2
          | .bk δ2 μ2 => .nx δ2 μ2
          | r => r) E := q2
        revert q2
        cases mb δ1 μ2 with
        | nx δ5 μ5 => exact fun q3 σ' H' as' e' h' => ⟨as', δ5, μ5, h', SOk.ext e' q3⟩
        | ct δ5 μ5 => exact fun q3 σ' H' as' e' h' => ⟨as', δ5, μ5, h', SOk.ext e' q3⟩
        | bk δ5 μ5 => exact fun q3 => q3
        | rt d δ5 μ5 => exact fun q3 => q3
        | exc c fs δ5 μ5 => exact fun q3 => q3
        | bad => exact fun q3 => q3
end
end DL

namespace DL
open PySem PySem.Spec PyProof.Rows L2
variable {w : Wd}

/-! ### an address that is not ours is written -/
mutual
theorem Den.skip {as : List Addr} {H : Hp} {p : Addr} {o : HO} (f : p ∈ w.fr) : ∀ {v : V} {d : D}, Den w as H v d → Den w as (upd H p o) v d
  | _, _, .non => .non
  | _, _, .bl b => .bl b
  | _, _, .int i => .int i
  | _, _, .str s => .str s
  | _, _, .lst k n r q => .lst k n (by rw [upd_ne (fun z => k (by rw [z]; exact f))]; exact r) (Dens.skip f q)
  | _, _, .ro k n r q => .ro k n (by
      rcases r with r | ⟨o', r⟩
      · exact .inl (by rw [upd_ne (fun z => k (by rw [z]; exact f))]; exact r)
      · exact .inr ⟨o', by rw [upd_ne (fun z => k (by rw [z]; exact f))]; exact r⟩) (Dens.skip f q)
  | _, _, .tup k n r q => .tup k n (by rw [upd_ne (fun z => k (by rw [z]; exact f))]; exact r) (Dens.skip f q)
  | _, _, .roK r q => .roK r (Dens.skip f q)
  | _, _, .tupK r q => .tupK r (Dens.skip f q)
  | _, _, .dic k n r k2 q => .dic k n (by rw [upd_ne (fun z => k (by rw [z]; exact f))]; exact r) k2 (Dens.skip f q)
  | _, _, .obj k n r k2 q => .obj k n (by rw [upd_ne (fun z => k (by rw [z]; exact f))]; exact r) k2 (Dens.skip f q)
  | _, _, .exc0 k n r => .exc0 k n (by rw [upd_ne (fun z => k (by rw [z]; exact f))]; exact r)
  | _, _, .excD k n r k3 n2 r2 k2 q => .excD k n (by rw [upd_ne (fun z => k (by rw [z]; exact f))]; exact r) k3 n2 (by rw [upd_ne (fun z => k3 (by rw [z]; exact f))]; exact r2) k2 (Dens.skip f q)
  | _, _, .ty n => .ty n
  | _, _, .cls c => .cls c
  | _, _, .lam h => .lam h
  | _, _, .loc h => .loc h
theorem Dens.skip {as : List Addr} {H : Hp} {p : Addr} {o : HO} (f : p ∈ w.fr) : ∀ {vs : List V} {ds : List D}, Dens w as H vs ds → Dens w as (upd H p o) vs ds
  | _, _, .nil => .nil
  | _, _, .cons h t => .cons (Den.skip f h) (Dens.skip f t)
end
theorem MDen.skip {as : List Addr} {H : Hp} {p : Addr} {o : HO} (f : p ∈ w.fr) {a : Addr} (n : a ≠ p) : ∀ {m : M}, MDen w as H a m → MDen w as (upd H p o) a m
  | .lst _, ⟨vs, h, d⟩ => ⟨vs, by rw [upd_ne n]; exact h, d.skip f⟩
  | .dic _, ⟨vs, h, k, d⟩ => ⟨vs, by rw [upd_ne n]; exact h, k, d.skip f⟩
  | .obj _ _, ⟨dx, vs, h, k, d⟩ => ⟨dx, vs, by rw [upd_ne n]; exact h, k, d.skip f⟩
  | .dead, ⟨o, h⟩ => ⟨o, by rw [upd_ne n]; exact h⟩
theorem Sl.skip {as : List Addr} {H : Hp} {σ : L2.St} {δ : Dv} {p : Addr} {o : HO} (f : p ∈ w.fr) (s : Sl w as H σ δ) : Sl w as (upd H p o) σ δ :=
  ⟨s.len, fun i d h => let ⟨v, h1, h2⟩ := s.get i d h; ⟨v, h1, h2.skip f⟩⟩
theorem Rel.skip {as : List Addr} {H : Hp} {μ : List M} {p : Addr} {o : HO} (f : p ∈ w.fr) (r : Rel w as H μ) : Rel w as (upd H p o) μ :=
  ⟨r.nd, r.off, r.len, fun n a m h1 h2 => (r.cell n a m h1 h2).skip f fun z => r.off a (List.mem_of_getElem? h1) (by rw [z]; exact f), fun a m => by
    obtain ⟨u, e⟩ := r.frk a m
    by_cases z : a = p
    · rw [z]; exact ⟨o, upd_same⟩
    · exact ⟨u, by rw [upd_ne z]; exact e⟩, fun q m => (r.gh q m).skip f, r.tab.to (fun _ _ _ n => n) fun b u e _ n => by rw [upd_ne (fun z => n (by rw [z]; exact f))]; exact e⟩

/-! ### fewer addresses barred; more, if they are new -/
theorem Dens.less {as : List Addr} {H : Hp} {fr fr' : List Addr} (f : ∀ a ∈ fr', a ∈ fr) {vs : List V} {ds : List D} (h : Dens (w.on fr) as H vs ds) : Dens (w.on fr') as H vs ds := Dens.fr (w := w.on fr) (fun a m => .inl (f a m)) h
theorem Den.less {as : List Addr} {H : Hp} {fr fr' : List Addr} (f : ∀ a ∈ fr', a ∈ fr) {v : V} {d : D} (h : Den (w.on fr) as H v d) : Den (w.on fr') as H v d := Den.fr (w := w.on fr) (fun a m => .inl (f a m)) h
theorem MDen.fr {as : List Addr} {H : Hp} {fr : List Addr} (f : ∀ a ∈ fr, a ∈ w.fr ∨ H a = none) {a : Addr} : ∀ {m : M}, MDen w as H a m → MDen (w.on fr) as H a m
  | .lst _, ⟨vs, h, d⟩ => ⟨vs, h, d.fr f⟩
  | .dic _, ⟨vs, h, k, d⟩ => ⟨vs, h, k, d.fr f⟩
  | .obj _ _, ⟨dx, vs, h, k, d⟩ => ⟨dx, vs, h, k, d.fr f⟩
  | .dead, ⟨o, h⟩ => ⟨o, h⟩
theorem Sl.fr {as : List Addr} {H : Hp} {σ : L2.St} {δ : Dv} {fr : List Addr} (f : ∀ a ∈ fr, a ∈ w.fr ∨ H a = none) (s : Sl w as H σ δ) : Sl (w.on fr) as H σ δ :=
  ⟨s.len, fun i d h => let ⟨v, h1, h2⟩ := s.get i d h; ⟨v, h1, h2.fr f⟩⟩
theorem TabOk.fr {as : List Addr} {H : Hp} {fr : List Addr} (f : ∀ a ∈ fr, a ∈ w.fr ∨ H a = none) (t : TabOk w as H) : TabOk (w.on fr) as H := ⟨fun p hp => by
  obtain ⟨h1, h2, ps, h3, h4, h5⟩ := t.tb p hp
  refine ⟨h1, fun m => (f _ m).elim h2 (fun z => by rw [h3] at z; cases z), ps, h3, h4, fun pos cv e => ?_⟩
  obtain ⟨c, e1, e2, e3, e4⟩ := h5 pos cv e
  exact ⟨c, e1, e2, fun m => (f _ m).elim e3 (fun z => by rw [e4] at z; cases z), e4⟩, fun p hp => by
  obtain ⟨h1, h2, h3⟩ := t.co p hp
  exact ⟨h1, fun m => (f _ m).elim h2 (fun z => by rw [h3] at z; cases z), h3⟩⟩
theorem Rel.less {as : List Addr} {H : Hp} {μ : List M} {fr fr' : List Addr} (f : ∀ a ∈ fr', a ∈ fr) (r : Rel (w.on fr) as H μ) : Rel (w.on fr') as H μ :=
  ⟨r.nd, fun a m z => r.off a m (f a z), r.len, fun n a m h1 h2 => MDen.fr (w := w.on fr) (fun a m => .inl (f a m)) (r.cell n a m h1 h2), fun a m => r.frk a (f a m), fun p m => Sl.fr (w := w.on fr) (fun a m => .inl (f a m)) (r.gh p m), TabOk.fr (w := w.on fr) (fun a m => .inl (f a m)) r.tab⟩
/-- a new object, barred -/
theorem Rel.bar {as : List Addr} {H : Hp} {μ : List M} {fr : List Addr} {p : Addr} {o : HO} (hp : H p = none) (r : Rel (w.on fr) as H μ) : Rel (w.on (p :: fr)) as (upd H p o) μ := by
  have r' := r.push (o := o) hp
  have bar : ∀ a ∈ p :: fr, a ∈ (w.on fr).fr ∨ H a = none := fun a m => (List.mem_cons.mp m).elim (fun e => .inr (by rw [e]; exact hp)) .inl
  refine ⟨r'.nd, fun a m z => ?_, r'.len, fun n a m h1 h2 => ?_, fun a m => ?_, fun q m => (Sl.fr (w := w.on fr) bar (r.gh q m)).ext (Ext.push hp), (TabOk.fr (w := w.on fr) bar r.tab).to (fun _ _ _ n => n) fun b u e _ _ => by rw [upd_ne (ne_of_none e hp)]; exact e⟩
  · rcases List.mem_cons.mp z with e | e
    · exact r.new hp (e ▸ m)
    · exact r.off a m e
  · have c := MDen.fr (w := w.on fr) (fr := p :: fr) (fun a m => (List.mem_cons.mp m).elim (fun e => .inr (by rw [e]; exact hp)) .inl) (r.cell n a m h1 h2)
    exact c.ext (Ext.push hp) fun u e => by rw [upd_ne (ne_of_none e hp)]; exact e
  · rcases List.mem_cons.mp m with e | e
    · rw [e]; exact ⟨o, upd_same⟩
    · exact r'.frk a e
theorem Dens.bar {as : List Addr} {H : Hp} {fr : List Addr} {p : Addr} {o : HO} (hp : H p = none) {vs : List V} {ds : List D} (h : Dens (w.on fr) as H vs ds) : Dens (w.on (p :: fr)) as (upd H p o) vs ds :=
  (Dens.fr (w := w.on fr) (fr := p :: fr) (fun a m => (List.mem_cons.mp m).elim (fun e => .inr (by rw [e]; exact hp)) .inl) h).ext (Ext.push hp)
theorem Sl.bar {as : List Addr} {H : Hp} {fr : List Addr} {p : Addr} {o : HO} (hp : H p = none) {σ : L2.St} {δ : Dv} (h : Sl (w.on fr) as H σ δ) : Sl (w.on (p :: fr)) as (upd H p o) σ δ :=
  (Sl.fr (w := w.on fr) (fr := p :: fr) (fun a m => (List.mem_cons.mp m).elim (fun e => .inr (by rw [e]; exact hp)) .inl) h).ext (Ext.push hp)

/-! ### [e for x in l if ..] -/
section
variable {X : Cx} {W : WX} {e a b c : Expr} {pos : Pos}
def mYes : TM := fun _ μ => .ok true μ
theorem tests_nil : PTs X [] (rdT w W mYes) := ⟨fun pins s σ H Q I ⟨fr, as, δ, μ, h, q⟩ => pts_nil.run pins s σ H Q I (q H as Ext.refl h.rel)⟩
theorem tests_one {m : TM} (h : PT X c (rdT w W m)) : PTs X [c] (rdT w W m) := pts_one h
/-- no exception inside -/
def W0 : WX := fun _ _ _ _ => False
def lcGo (gm : GM) (tt : TM) (me : EM) (g : List M → Option (List D)) (n : Nat) : Nat → Nat → Dv → List M → List D → AR
  | 0, _, _, μ, acc => match g μ with
    | some l => if l.length = n then .ok acc μ else .bad
    | none => .bad
  | k + 1, i, δ, μ, acc => match g μ with
    | some l => if l.length = n then match l[i]? with
      | some d => match gm d μ δ with
        | some δ1 => match tt δ1 μ with
          | .ok true μ1 => match me δ1 μ1 with
            | .ok y μ2 => if lineOk (acc.length + 1) then lcGo gm tt me g n k (i + 1) δ μ2 (acc ++ [y]) else .bad
            | _ => .bad
          | .ok false μ1 => lcGo gm tt me g n k (i + 1) δ μ1 acc
          | _ => .bad
        | none => .bad
      | none => .bad
      else .bad
    | none => .bad
def wipeD (δ : Dv) (vs : List Nat) : Dv := vs.foldr (fun v x => x.set v none) δ
def mLcA (mi : IM) (gm : GM) (tt : TM) (me : EM) (vs : List Nat) : AM := fun δ μ => match mi δ μ with
  | .ok n g μ => lcGo gm tt me g n n 0 (wipeD δ vs) μ []
  | .exc c fs μ => .exc c fs μ
  | .bad => .bad
def mLc (mi : IM) (gm : GM) (tt : TM) (me : EM) (vs : List Nat) : EM := fun δ μ => (mLcA mi gm tt me vs δ μ).bindE fun l μ => .ok (.lst l) μ
def mLcM (mi : IM) (gm : GM) (tt : TM) (me : EM) (vs : List Nat) : EM := fun δ μ => (mLcA mi gm tt me vs δ μ).bindE fun l μ => .ok (.loc μ.length) (μ ++ [.lst l])
/-- the list made, as it is left -/
def Made (w : Wd) (fr as : List Addr) (H : Hp) (L : Addr) (acc : List D) (μ : List M) : Prop :=
  ∃ vs, H L = some (.lst vs) ∧ L ∉ as ∧ L ∉ fr ∧ Rel (w.on (L :: fr)) as H μ ∧ Dens (w.on (L :: fr)) as H vs acc
def LcEnd (w : Wd) (W : WX) (fr as : List Addr) (H : Hp) (σ : L2.St) (r : AR) (Q : VK) : Prop := match r with
  | .ok acc μ' => ∀ L H' as', Ext as H H' as' → Made w fr as' H' L acc μ' → H L = none → Q (.ref L) H'
  | .exc c fs μ' => ∀ dd H' as', Ext as H H' as' → Rel (w.on fr) as' H' μ' → ExD (w.on fr) as' H' dd fs → W (.ref (w.ct c)) dd σ H'
  | .bad => False
theorem lc_ok {fr as H σ δ μ} {mi : IM} {g : TG} {gm : GM} {tt : TM} {me : EM} {ts vs : List Nat} {Q : VK} (hd : ∀ fr, GD (w.on fr) ts g gm) (hv : ∀ t ∈ ts, t ∈ vs) (h : Here (w.on fr) as H σ δ μ)
    (q : LcEnd w W fr as H σ (mLcA mi gm tt me vs δ μ) Q) : tLc (rdI w W mi) g (rdT w W0 tt) (rdE w W0 me) vs σ H Q := by
  refine ⟨fr, as, δ, μ, h, ?_⟩
  unfold mLcA at q
  revert q
  cases mi δ μ with
  | bad => exact fun q => q
  | exc c fs μ1 => exact fun q => q
  | ok n gg μ1 =>
    intro q J H1 as1 e1 r1 jo L hL
    have bar : ∀ a ∈ L :: fr, a ∈ (w.on fr).fr ∨ H1 a = none := fun a m => (List.mem_cons.mp m).elim (fun z => .inr (by rw [z]; exact hL)) .inl
    have q : (fun r => LcEnd w W fr as H σ r Q) (lcGo gm tt me gg n n 0 (wipeD δ vs) μ1 []) := q
    obtain ⟨fin, hfin⟩ : ∃ fin, fin = fun r => LcEnd w W fr as H σ r Q := ⟨_, rfl⟩
    have q : fin (lcGo gm tt me gg n (n - 0) 0 (wipeD δ vs) μ1 []) := by rw [hfin]; exact q
    -- the invariant
    let Inv : Nat → Hp → Prop := fun i H => i ≤ n ∧ ∃ as' μ' acc ws, Ext as1 H1 H as' ∧ Sl (w.on (L :: fr)) as' H (L2.wipe σ vs) (wipeD δ vs) ∧ Rel (w.on (L :: fr)) as' H μ' ∧ H L = some (.lst ws) ∧ L ∉ as' ∧ Dens (w.on (L :: fr)) as' H ws acc ∧ fin (lcGo gm tt me gg n (n - i) i (wipeD δ vs) μ' acc)
    have hLas : L ∉ as1 := r1.new hL
    have hLfr : L ∉ fr := r1.newF hL
    refine ⟨fun i m H => m = n - i ∧ Inv i H, ⟨n, by simp, Nat.zero_le _, as1, μ1, [], [], ?_, ?_, r1.bar hL, upd_same, hLas, .nil, q⟩, ?_⟩
    · exact .of ⟨[], by simp⟩ (fun a m n => absurd m n) fun b u e _ => by rw [upd_ne (ne_of_none e hL)]; exact e
    · exact Sl.bar hL ((h.sl.ext e1).wipe vs)
    · rintro i m H2 ⟨rfl, hi, as2, μ2, acc, ws, e2, s2, r2, hL2, nL2, da2, q2⟩
      have r2f : Rel (w.on fr) as2 H2 μ2 := r2.less fun a m => List.mem_cons_of_mem _ m
      by_cases hlt : i < n
      · obtain ⟨k, hk⟩ : ∃ k, n - i = k + 1 := ⟨n - i - 1, by omega⟩
        rw [hk] at q2
        unfold lcGo at q2
        cases z1 : gg μ2 with
        | none => simp only [z1] at q2; subst hfin; exact q2.elim
        | some l =>
          simp only [z1] at q2
          by_cases hl : l.length = n
          · rw [if_pos hl] at q2
            refine .inr ⟨jo.go (L :: fr) bar as2 H2 μ2 l i (.of e2) r2 z1 hl hlt, fun H' => Inv (i + 1) H', fun H' p' => ⟨n - (i + 1), by omega, rfl, p'⟩, fun x H3 y => ?_⟩
            obtain ⟨d, hd1, e3, r3, dn⟩ := jo.yld (L :: fr) bar as2 H2 μ2 l i x H3 (.of e2) r2 z1 hl hlt y
            simp only [hd1] at q2
            cases z2 : gm d μ2 (wipeD δ vs) with
            | none => simp only [z2] at q2; subst hfin; exact q2.elim
            | some δ3 =>
              simp only [z2] at q2
              have hL3 : H3 L = some (.lst ws) := e3.keep _ _ hL2 nL2
              have nL3 : L ∉ as2 := nL2
              have s3 := s2.ext e3
              have da3 := da2.ext e3
              refine hd (L :: fr) as2 H3 (L2.wipe σ vs) (wipeD δ vs) μ2 x d δ3 _ ⟨r3, s3⟩ dn z2 fun σ4 s4 w4 => ?_
              refine ⟨?_, ?_⟩
              · rw [w4 vs hv]
                exact wipe_idem fun v m => m
              · refine ⟨L :: fr, as2, δ3, μ2, ⟨r3, s4⟩, ?_⟩
                cases z3 : tt δ3 μ2 with
                | bad => simp only [z3] at q2; subst hfin; exact q2.elim
                | exc c fs μ4 => simp only [z3] at q2; subst hfin; exact q2.elim
                | ok bb μ4 =>
                  intro H4 as4 e4 r4
                  have hL4 : H4 L = some (.lst ws) := e4.keep _ _ hL3 nL3
                  have nL4 : L ∉ as4 := e4.out hL3 nL3
                  cases bb with
                  | false =>
                    simp only [z3] at q2
                    rw [if_neg (by decide)]
                    have ek : n - (i + 1) = k := by omega
                    exact ⟨hlt, as4, μ4, acc, ws, (e2.trans e3).trans e4, s3.ext e4, r4, hL4, nL4, da3.ext e4, by rw [ek]; exact q2⟩
                  | true =>
                    simp only [z3] at q2
                    rw [if_pos rfl]
                    refine ⟨L :: fr, as4, δ3, μ4, ⟨r4, s4.ext e4⟩, ?_⟩
                    cases z4 : me δ3 μ4 with
                    | bad => simp only [z4] at q2; subst hfin; exact q2.elim
                    | exc c fs μ5 => simp only [z4] at q2; subst hfin; exact q2.elim
                    | ok yd μ5 =>
                      simp only [z4] at q2
                      intro yv H5 as5 e5 r5 dy
                      have hL5 : H5 L = some (.lst ws) := e5.keep _ _ hL4 nL4
                      have nL5 : L ∉ as5 := e5.out hL4 nL4
                      cases z5 : lineOk (acc.length + 1) with
                      | false => simp only [z5] at q2; subst hfin; exact (show False from by simp only [Bool.false_eq_true, if_false] at q2; exact q2).elim
                      | true =>
                        simp only [z5, if_true] at q2
                        have hm : L ∈ (w.on (L :: fr)).fr := List.mem_cons_self
                        refine ⟨ws, hL5, ?_, ?_⟩
                        · have := lineOk_line z5
                          rw [da2.length]; omega
                        · have ek : n - (i + 1) = k := by omega
                          refine ⟨hlt, as5, μ5, acc ++ [yd], ws ++ [yv], ?_, ((s3.ext e4).ext e5).skip hm, r5.skip hm, upd_same, nL5, (((da3.ext e4).ext e5).append (.cons dy .nil)).skip hm, by rw [ek]; exact q2⟩
                          have e15 := ((e2.trans e3).trans e4).trans e5
                          exact ⟨e15.pre, e15.new, fun b o hb nb => by rw [upd_ne (ne_of_none hb hL)]; exact e15.keep0 b o hb nb⟩
          · rw [if_neg hl] at q2; subst hfin; exact q2.elim
      · have en : i = n := by omega
        subst en
        rw [Nat.sub_self] at q2
        unfold lcGo at q2
        cases z1 : gg μ2 with
        | none => simp only [z1] at q2; subst hfin; exact q2.elim
        | some l =>
          simp only [z1] at q2
          by_cases hl : l.length = i
          · rw [if_pos hl] at q2
            refine .inl ⟨jo.stop (L :: fr) bar as2 H2 μ2 l (.of e2) r2 z1 hl, ?_⟩
            subst hfin
            refine q2 L H2 as2 (e1.trans e2) ⟨ws, hL2, nL2, hLfr, r2, da2⟩ (e1.fresh hL fun m => hLas (e1.mem m))
          · rw [if_neg hl] at q2; subst hfin; exact q2.elim
theorem Made.lst {fr as H L acc μ} (m : Made w fr as H L acc μ) : Rel (w.on fr) as H μ ∧ Den (w.on fr) as H (.ref L) (.lst acc) := by
  obtain ⟨vs, h1, h2, h3, h4, h5⟩ := m
  exact ⟨h4.less fun a m => List.mem_cons_of_mem _ m, .lst h3 h2 h1 (h5.less fun a m => List.mem_cons_of_mem _ m)⟩
/-! ### the list as a cell -/
theorem app_out {a L : Addr} {as fr : List Addr} (n : a ∉ as) (f : a ∉ L :: fr) : a ∉ as ++ [L] := fun m => (List.mem_append.mp m).elim n fun z => f (by rw [List.mem_singleton.mp z]; exact List.mem_cons_self)
theorem tl_out {a L : Addr} {fr : List Addr} (f : a ∉ L :: fr) : a ∉ fr := fun m => f (List.mem_cons_of_mem _ m)
mutual
theorem Den.move {as : List Addr} {H : Hp} {fr : List Addr} {L : Addr} : ∀ {v : V} {d : D}, Den (w.on (L :: fr)) as H v d → Den (w.on fr) (as ++ [L]) H v d
  | _, _, .non => .non
  | _, _, .bl b => .bl b
  | _, _, .int i => .int i
  | _, _, .str t => .str t
  | _, _, .lst f n r q => .lst (tl_out f) (app_out n f) r (Dens.move q)
  | _, _, .ro f n r q => .ro (tl_out f) (app_out n f) r (Dens.move q)
  | _, _, .tup f n r q => .tup (tl_out f) (app_out n f) r (Dens.move q)
  | _, _, .roK r q => .roK r (Dens.move q)
  | _, _, .tupK r q => .tupK r (Dens.move q)
  | _, _, .dic f n r k q => .dic (tl_out f) (app_out n f) r k (Dens.move q)
  | _, _, .obj f n r k q => .obj (tl_out f) (app_out n f) r k (Dens.move q)
  | _, _, .exc0 f n r => .exc0 (tl_out f) (app_out n f) r
  | _, _, .excD f n r f2 n2 r2 k q => .excD (tl_out f) (app_out n f) r (tl_out f2) (app_out n2 f2) r2 k (Dens.move q)
  | _, _, .ty t => .ty t
  | _, _, .cls c => .cls c
  | _, _, .lam h => .lam h
  | _, _, .loc h => .loc (by rw [List.getElem?_append_left (List.getElem?_eq_some_iff.mp h).1]; exact h)
theorem Dens.move {as : List Addr} {H : Hp} {fr : List Addr} {L : Addr} : ∀ {vs : List V} {ds : List D}, Dens (w.on (L :: fr)) as H vs ds → Dens (w.on fr) (as ++ [L]) H vs ds
  | _, _, .nil => .nil
  | _, _, .cons h t => .cons (Den.move h) (Dens.move t)
end
theorem MDen.move {as : List Addr} {H : Hp} {fr : List Addr} {L a : Addr} : ∀ {m : M}, MDen (w.on (L :: fr)) as H a m → MDen (w.on fr) (as ++ [L]) H a m
  | .lst _, ⟨vs, h, d⟩ => ⟨vs, h, d.move⟩
  | .dic _, ⟨vs, h, k, d⟩ => ⟨vs, h, k, d.move⟩
  | .obj _ _, ⟨dx, vs, h, k, d⟩ => ⟨dx, vs, h, k, d.move⟩
  | .dead, ⟨o, h⟩ => ⟨o, h⟩
theorem TabOk.move {as : List Addr} {H : Hp} {fr : List Addr} {L : Addr} (t : TabOk (w.on (L :: fr)) as H) : TabOk (w.on fr) (as ++ [L]) H := ⟨fun p hp => by
  obtain ⟨h1, h2, ps, h3, h4, h5⟩ := t.tb p hp
  refine ⟨app_out h1 h2, tl_out h2, ps, h3, h4, fun pos cv e => ?_⟩
  obtain ⟨c, e1, e2, e3, e4⟩ := h5 pos cv e
  exact ⟨c, e1, app_out e2 e3, tl_out e3, e4⟩, fun p hp => by
  obtain ⟨h1, h2, h3⟩ := t.co p hp
  exact ⟨app_out h1 h2, tl_out h2, h3⟩⟩
theorem Made.loc {fr as H L acc μ} (m : Made w fr as H L acc μ) : Rel (w.on fr) (as ++ [L]) H (μ ++ [.lst acc]) ∧ Den (w.on fr) (as ++ [L]) H (.ref L) (.loc μ.length) := by
  obtain ⟨vs, h1, h2, h3, r, d⟩ := m
  have last : (as ++ [L])[μ.length]? = some L := by rw [← r.len, List.getElem?_append_right (Nat.le_refl _), Nat.sub_self]; rfl
  refine ⟨⟨?_, fun a z => ?_, by rw [List.length_append, List.length_append, r.len]; rfl, fun n a c e1 e2 => ?_, fun a z => r.frk a (List.mem_cons_of_mem _ z), fun p hp => ?_, r.tab.move⟩, .loc last⟩
  · refine List.nodup_append.mpr ⟨r.nd, by simp, fun a z b y e => ?_⟩
    rw [List.mem_singleton.mp y] at e
    exact h2 (e ▸ z)
  · rcases List.mem_append.mp z with z | z
    · exact tl_out (r.off a z)
    · rw [List.mem_singleton.mp z]; exact h3
  · by_cases hn : n < μ.length
    · rw [List.getElem?_append_left (by rw [r.len]; exact hn)] at e1
      rw [List.getElem?_append_left hn] at e2
      exact (r.cell n a c e1 e2).move
    · have hn' : n = μ.length := by
        have := (List.getElem?_eq_some_iff.mp e2).1
        rw [List.length_append] at this
        simp only [List.length_cons, List.length_nil] at this
        omega
      subst hn'
      rw [last] at e1
      cases e1
      rw [List.getElem?_append_right (Nat.le_refl _), Nat.sub_self] at e2
      cases e2
      exact ⟨vs, h1, d.move⟩
  · exact ⟨(r.gh p hp).len, fun i d h => let ⟨v, e1, e2⟩ := (r.gh p hp).get i d h; ⟨v, e1, e2.move⟩⟩
theorem Ext.app {as as' : List Addr} {H H' : Hp} {L : Addr} (e : Ext as H H' as') (h : H L = none) : Ext as H H' (as' ++ [L]) := by
  obtain ⟨t, rfl⟩ := e.pre
  refine ⟨⟨t ++ [L], by rw [List.append_assoc]⟩, fun a m n => ?_, e.keep0⟩
  rcases List.mem_append.mp m with m | m
  · exact e.new a m n
  · rw [List.mem_singleton.mp m]; exact h
/-- a comprehension's list: data, or a cell -/
def mLcB (cell : Bool) (mi : IM) (gm : GM) (tt : TM) (me : EM) (vs : List Nat) : EM := fun δ μ => (mLcA mi gm tt me vs δ μ).bindE fun l μ => if cell then .ok (.loc μ.length) (μ ++ [.lst l]) else .ok (.lst l) μ
section
variable {elt tg iter : Expr} {ifs : List Expr} {scope : Scope} {own : List (Str × Nat)} {mi : IM} {g : TG} {gm : GM} {ts : List Nat} {tt : TM} {me : EM} {cell : Bool}
theorem d_lc (hc : X.calm = true) (hN : X.N.Nodup) (hi : PI X tg iter (rdI w W mi)) (ok : BlkOk X.N X.env.scope scope own)
    (hg : ∀ (s : Shared) (H : Hp) (C : Addr) (cl : List (Str × Addr)) (fp : List Addr), PG (X.blk s H scope (compEnvC scope cl C X.env) fp) tg g) (hd : ∀ fr, GD (w.on fr) ts g gm) (hv : ∀ t ∈ ts, t ∈ own.map (·.2))
    (ht : ∀ (s : Shared) (H : Hp) (C : Addr) (cl : List (Str × Addr)) (fp : List Addr), PTs (X.blk s H scope (compEnvC scope cl C X.env) fp) ifs (rdT w W0 tt))
    (he : ∀ (s : Shared) (H : Hp) (C : Addr) (cl : List (Str × Addr)) (fp : List Addr), PE (X.blk s H scope (compEnvC scope cl C X.env) fp) elt (rdE w W0 me)) (hs : ∀ x, foldedSetIterable iter X.env x = pure x := by intro _; rfl) :
    PE X (.ListComp elt [⟨tg, iter, ifs, 0⟩] scope pos) (rdE w W (mLcB cell mi gm tt me (own.map (·.2)))) :=
  PE.to (pe_lc hc hN hi ok hg ht he hs) fun σ H Q ⟨fr, as, δ, μ, h, q⟩ => lc_ok hd hv h (by
    have q : EOk (w.on fr) W σ as H ((mLcA mi gm tt me (own.map (·.2)) δ μ).bindE fun l μ => if cell then .ok (.loc μ.length) (μ ++ [.lst l]) else .ok (.lst l) μ) Q := q
    revert q
    cases mLcA mi gm tt me (own.map (·.2)) δ μ with
    | bad => exact fun q => q
    | exc c fs μ1 => exact fun q => q
    | ok acc μ1 => cases cell with
      | false => exact fun q L H' as' e' m _ => q (.ref L) H' as' e' m.lst.1 m.lst.2
      | true => exact fun q L H' as' e' m n => q (.ref L) H' _ (e'.app n) m.loc.1 m.loc.2)
theorem s_setLc {i : Nat} {y : Str} {py spos : Pos} (hc : X.calm = true) (hN : X.N.Nodup) (hy : X.N[i]? = some y) (hyl : X.env.scope.names.lookup y = some .local)
    (hsw : swapsWith (.ListComp elt [⟨tg, iter, ifs, 0⟩] scope pos) (some (.Name y py)) spos.line X.env = pure true) (hi : PI X tg iter (rdI w W mi)) (ok : BlkOk X.N X.env.scope scope own)
    (hg : ∀ (s : Shared) (H : Hp) (C : Addr) (cl : List (Str × Addr)) (fp : List Addr), PG (X.blk s H scope (compEnvC scope cl C X.env) fp) tg g) (hd : ∀ fr, GD (w.on fr) ts g gm) (hv : ∀ t ∈ ts, t ∈ own.map (·.2))
    (ht : ∀ (s : Shared) (H : Hp) (C : Addr) (cl : List (Str × Addr)) (fp : List Addr), PTs (X.blk s H scope (compEnvC scope cl C X.env) fp) ifs (rdT w W0 tt))
    (he : ∀ (s : Shared) (H : Hp) (C : Addr) (cl : List (Str × Addr)) (fp : List Addr), PE (X.blk s H scope (compEnvC scope cl C X.env) fp) elt (rdE w W0 me)) (hs : ∀ x, foldedSetIterable iter X.env x = pure x := by intro _; rfl) :
    PS X (.Assign [.Name y py] (.ListComp elt [⟨tg, iter, ifs, 0⟩] scope pos) spos) (rdS w W (mAsg (mLcB cell mi gm tt me (own.map (·.2))) (mgName i))) :=
  PS.to (ps_setLc hc hN hy hyl hsw hi ok hg ht he hs) fun E σ H ⟨fr, as, δ, μ, h, q⟩ => lc_ok hd hv h (by
    have q : SOk (w.on fr) W as H (((mLcA mi gm tt me (own.map (·.2)) δ μ).bindE fun l μ => if cell then .ok (.loc μ.length) (μ ++ [.lst l]) else .ok (.lst l) μ).bindS δ fun d μ => .nx (δ.set i (some d)) μ) E := q
    revert q
    cases mLcA mi gm tt me (own.map (·.2)) δ μ with
    | bad => exact fun q => q
    | exc c fs μ1 => exact fun q dd H' as' e' r' x => q dd σ H' as' e' (h.ext e' r') x
    | ok acc μ1 => cases cell with
      | false => exact fun q L H' as' e' m _ => q _ H' as' e' ⟨m.lst.1, (h.sl.ext e').set m.lst.2 i⟩
      | true => exact fun q L H' as' e' m n => q _ H' _ (e'.app n) ⟨m.loc.1, (h.sl.ext (e'.app n)).set m.loc.2 i⟩)
end
end
end DL

namespace DL
open PySem PySem.Spec PyProof.Rows L2
variable {w : Wd}

/-! ### cells let go -/
mutual
def dLess (k : Nat) : D → Bool
  | .lst l => dsLess k l
  | .ro l => dsLess k l
  | .tup l => dsLess k l
  | .dic l => ksLess k l
  | .obj _ l => fsLess k l
  | .exc _ l => fsLess k l
  | .loc n => decide (n < k)
  | .non => true
  | .bl _ => true
  | .int _ => true
  | .str _ => true
  | .ty _ => true
  | .cls _ => true
  | .lam => false
def dsLess (k : Nat) : List D → Bool
  | [] => true
  | d :: l => dLess k d && dsLess k l
def ksLess (k : Nat) : List (Key × D) → Bool
  | [] => true
  | (_, d) :: l => dLess k d && ksLess k l
def fsLess (k : Nat) : List (Str × D) → Bool
  | [] => true
  | (_, d) :: l => dLess k d && fsLess k l
end
theorem ksLess_map (k : Nat) : ∀ l : List (Key × D), ksLess k l = dsLess k (l.map (·.2))
  | [] => by simp [ksLess, dsLess]
  | (_, d) :: l => by simp [ksLess, dsLess, ksLess_map k l]
theorem fsLess_map (k : Nat) : ∀ l : List (Str × D), fsLess k l = dsLess k (l.map (·.2))
  | [] => by simp [fsLess, dsLess]
  | (_, d) :: l => by simp [fsLess, dsLess, fsLess_map k l]
theorem not_take {a : Addr} {as : List Addr} {k : Nat} (h : a ∉ as) : a ∉ as.take k := fun m => h (List.mem_of_mem_take m)
mutual
theorem Den.cutS {as as' : List Addr} {H : Hp} {k : Nat} (hs : ∀ x ∈ as', x ∈ as) (hi : ∀ n, n < k → as'[n]? = as[n]?) : ∀ {v : V} {d : D}, Den w as H v d → dLess k d = true → Den w as' H v d
  | _, _, .non, _ => .non
  | _, _, .bl b, _ => .bl b
  | _, _, .int i, _ => .int i
  | _, _, .str s, _ => .str s
  | _, _, .lst f n r q, e => .lst f (fun m => n (hs _ m)) r (Dens.cutS hs hi q (by simpa [dLess] using e))
  | _, _, .ro f n r q, e => .ro f (fun m => n (hs _ m)) r (Dens.cutS hs hi q (by simpa [dLess] using e))
  | _, _, .tup f n r q, e => .tup f (fun m => n (hs _ m)) r (Dens.cutS hs hi q (by simpa [dLess] using e))
  | _, _, .roK r q, e => .roK r (Dens.cutS hs hi q (by simpa [dLess] using e))
  | _, _, .tupK r q, e => .tupK r (Dens.cutS hs hi q (by simpa [dLess] using e))
  | _, _, .dic f n r k2 q, e => .dic f (fun m => n (hs _ m)) r k2 (Dens.cutS hs hi q (by simpa [dLess, ksLess_map] using e))
  | _, _, .obj f n r k2 q, e => .obj f (fun m => n (hs _ m)) r k2 (Dens.cutS hs hi q (by simpa [dLess, fsLess_map] using e))
  | _, _, .exc0 f n r, _ => .exc0 f (fun m => n (hs _ m)) r
  | _, _, .excD f n r f2 n2 r2 k2 q, e => .excD f (fun m => n (hs _ m)) r f2 ((fun m => n2 (hs _ m))) r2 k2 (Dens.cutS hs hi q (by simpa [dLess, fsLess_map] using e))
  | _, _, .ty n, _ => .ty n
  | _, _, .cls c, _ => .cls c
  | _, _, .lam h, _ => .lam h
  | _, _, .loc h, e => .loc (by
      simp only [dLess, decide_eq_true_eq] at e
      rw [hi _ e]; exact h)
theorem Dens.cutS {as as' : List Addr} {H : Hp} {k : Nat} (hs : ∀ x ∈ as', x ∈ as) (hi : ∀ n, n < k → as'[n]? = as[n]?) : ∀ {vs : List V} {ds : List D}, Dens w as H vs ds → dsLess k ds = true → Dens w as' H vs ds
  | _, _, .nil, _ => .nil
  | _, _, .cons h t, e => by
    obtain ⟨e1, e2⟩ := Bool.and_eq_true_iff.mp (by simpa only [dsLess] using e)
    exact .cons (Den.cutS hs hi h e1) (Dens.cutS hs hi t e2)
end
theorem Den.cut {as : List Addr} {H : Hp} {k : Nat} {v : V} {d : D} (h : Den w as H v d) (e : dLess k d = true) : Den w (as.take k) H v d := Den.cutS (fun _ m => List.mem_of_mem_take m) (fun _ l => List.getElem?_take_of_lt l) h e
theorem Dens.cut {as : List Addr} {H : Hp} {k : Nat} {vs : List V} {ds : List D} (h : Dens w as H vs ds) (e : dsLess k ds = true) : Dens w (as.take k) H vs ds := Dens.cutS (fun _ m => List.mem_of_mem_take m) (fun _ l => List.getElem?_take_of_lt l) h e
def mLess (k : Nat) : M → Bool
  | .lst l => dsLess k l
  | .dic l => ksLess k l
  | .obj _ l => fsLess k l
  | .dead => true
def μLess (k : Nat) (μ : List M) : Bool := (μ.take k).all (mLess k)
theorem MDen.cutS {as as' : List Addr} {H : Hp} {k : Nat} {a : Addr} (hs : ∀ x ∈ as', x ∈ as) (hi : ∀ n, n < k → as'[n]? = as[n]?) : ∀ {m : M}, MDen w as H a m → mLess k m = true → MDen w as' H a m
  | .lst _, ⟨vs, h, d⟩, e => ⟨vs, h, d.cutS hs hi (by simpa [mLess] using e)⟩
  | .dic _, ⟨vs, h, q, d⟩, e => ⟨vs, h, q, d.cutS hs hi (by simpa [mLess, ksLess_map] using e)⟩
  | .obj _ _, ⟨dx, vs, h, q, d⟩, e => ⟨dx, vs, h, q, d.cutS hs hi (by simpa [mLess, fsLess_map] using e)⟩
  | .dead, ⟨o, h⟩, _ => ⟨o, h⟩
theorem MDen.cut {as : List Addr} {H : Hp} {k : Nat} {a : Addr} {m : M} (h : MDen w as H a m) (e : mLess k m = true) : MDen w (as.take k) H a m := MDen.cutS (fun _ m => List.mem_of_mem_take m) (fun _ l => List.getElem?_take_of_lt l) h e
/-- what the ghosts and the tables know stays where the cells are let go that are younger than as0 -/
theorem Rel.cut {as0 as : List Addr} {H0 H : Hp} {μ0 μ : List M} (r0 : Rel w as0 H0 μ0) (r : Rel w as H μ) (e : Ext as0 H0 H as) (hl : μLess μ0.length μ = true) : Ext as0 H0 H as0 ∧ Rel w as0 H (μ.take μ0.length) ∧ as.take μ0.length = as0 := by
  obtain ⟨t, rfl⟩ := e.pre
  have et : (as0 ++ t).take μ0.length = as0 := by rw [← r0.len]; simp
  have e' : Ext as0 H0 H as0 := ⟨⟨[], by simp⟩, fun a h n => absurd h n, e.keep0⟩
  refine ⟨e', ⟨(List.nodup_append.mp r.nd).1, fun a m => r.off a (List.mem_append_left _ m), ?_, fun n a m h1 h2 => ?_, r.frk, fun p m => (r0.gh p m).ext e', ?_⟩, et⟩
  · have := r.len
    have := r0.len
    rw [List.length_append] at *
    rw [List.length_take]; omega
  · have hn : n < μ0.length := by
      have := (List.getElem?_eq_some_iff.mp h1).1
      rw [← r0.len]; exact this
    rw [List.getElem?_take_of_lt hn] at h2
    have h1' : (as0 ++ t)[n]? = some a := by rw [List.getElem?_append_left (by rw [r0.len]; exact hn)]; exact h1
    have c := (r.cell n a m h1' h2).cut (k := μ0.length) (List.all_eq_true.mp hl m (List.mem_of_getElem? (by rw [List.getElem?_take_of_lt hn]; exact h2)))
    rw [et] at c; exact c
  · exact r.tab.to (fun b o _ n m => n (List.mem_append_left _ m)) fun _ _ h _ _ => h
/-- what is given back of d: a cell of the def's own as it stands -/
def frzD (k : Nat) (μ : List M) (d : D) : Option D := match d with
  | .loc n => if n < k then some (.loc n) else match μ[n]? with
    | some (.lst l) => if dsLess k l then some (.lst l) else none
    | some (.dic l) => if ksLess k l then some (.dic l) else none
    | some (.obj c l) => if fsLess k l then some (.obj c l) else none
    | _ => none
  | d => if dLess k d then some d else none
theorem frz_den {as0 t : List Addr} {H : Hp} {μ : List M} {v : V} {d d' : D} (r : Rel w (as0 ++ t) H μ) (h : Den w (as0 ++ t) H v d) (e : frzD as0.length μ d = some d') : Den w as0 H v d' := by
  have et : (as0 ++ t).take as0.length = as0 := by simp
  have plain : dLess as0.length d = true → d = d' → Den w as0 H v d' := fun h1 h2 => by
    have c := h.cut h1
    rw [et] at c; exact h2 ▸ c
  cases h with
  | @loc a n hn =>
    unfold frzD at e
    dsimp only at e
    by_cases hk : n < as0.length
    · rw [if_pos hk] at e
      cases e
      exact .loc (by rw [List.getElem?_append_left hk] at hn; exact hn)
    · rw [if_neg hk] at e
      have na : a ∉ as0 := fun m => by
        obtain ⟨i, hi, ei⟩ := List.mem_iff_getElem.mp m
        have h1 : (as0 ++ t)[i]? = some a := by rw [List.getElem?_append_left hi]; simp [hi, ei]
        obtain ⟨h2, e2⟩ := List.getElem?_eq_some_iff.mp h1
        obtain ⟨h3, e3⟩ := List.getElem?_eq_some_iff.mp hn
        have := (List.getElem_inj r.nd).mp (e2.trans e3.symm)
        omega
      have nf : a ∉ w.fr := r.off a (List.mem_of_getElem? hn)
      cases z : μ[n]? with
      | none => rw [z] at e; cases e
      | some m =>
        rw [z] at e
        have c := r.cell n a m hn z
        cases m with
        | lst l =>
          dsimp only at e
          split at e
          · rename_i hl
            cases e
            obtain ⟨vs, h1, h2⟩ := c
            have h3 := h2.cut hl
            rw [et] at h3
            exact .lst nf na h1 h3
          · cases e
        | dic l =>
          dsimp only at e
          split at e
          · rename_i hl
            cases e
            obtain ⟨vs, h1, hk, h2⟩ := c
            have h3 := h2.cut (k := as0.length) (by rw [← ksLess_map]; exact hl)
            rw [et] at h3
            exact .dic nf na h1 hk h3
          · cases e
        | obj c' l =>
          dsimp only at e
          split at e
          · rename_i hl
            cases e
            obtain ⟨dx, vs, h1, hk, h2⟩ := c
            have h3 := h2.cut (k := as0.length) (by rw [← fsLess_map]; exact hl)
            rw [et] at h3
            exact .obj nf na h1 hk h3
          · cases e
        | dead => cases e
  | _ =>
    first
    | (unfold frzD at e; dsimp only at e; split at e
       · rename_i hl; exact plain hl (Option.some.inj e)
       · cases e)
theorem ExD.cut {as0 t : List Addr} {H : Hp} {dd : Option Addr} {fs : List (Str × D)} (h : ExD w (as0 ++ t) H dd fs) (e : fsLess as0.length fs = true) : ExD w as0 H dd fs := by
  rcases h with h | ⟨dx, vs, h1, h2, h3, h4, h5, h6⟩
  · exact .inl h
  · have h7 := h6.cut (k := as0.length) (by rw [← fsLess_map]; exact e)
    have et : (as0 ++ t).take as0.length = as0 := by simp
    rw [et] at h7
    exact .inr ⟨dx, vs, h1, h2, fun m => h3 (List.mem_append_left _ m), h4, h5, h7⟩
/-- a def's own cells are let go -/
def cutL (k : Nat) (r : ER) : ER := match r with
  | .ok d μ => match frzD k μ d with
    | some d' => if μLess k μ then .ok d' (μ.take k) else .bad
    | none => .bad
  | .exc c fs μ => if fsLess k fs && μLess k μ then .exc c fs (μ.take k) else .bad
  | .bad => .bad
theorem EOk.cutO {W : WX} {σ : L2.St} {as : List Addr} {H : Hp} {μ : List M} {r : ER} {Q : VK} (r0 : Rel w as H μ) (q : EOk w W σ as H (cutL μ.length r) Q) : EOk w W σ as H r Q := by
  cases r with
  | bad => exact q
  | ok d μ' =>
    intro v H' as' e r' dn
    unfold cutL at q
    dsimp only at q
    cases z : frzD μ.length μ' d with
    | none => rw [z] at q; exact q.elim
    | some d' =>
      simp only [z] at q
      cases z2 : μLess μ.length μ' with
      | false => rw [z2] at q; exact q.elim
      | true =>
        simp only [z2, if_true] at q
        obtain ⟨e1, r1, et⟩ := r0.cut r' e z2
        obtain ⟨t, rfl⟩ := e.pre
        rw [← r0.len] at z
        exact q v H' as e1 r1 (frz_den r' dn z)
  | exc c fs μ' =>
    intro dd H' as' e r' x
    unfold cutL at q
    dsimp only at q
    cases z2 : (fsLess μ.length fs && μLess μ.length μ') with
    | false => rw [z2] at q; exact q.elim
    | true =>
      simp only [z2, if_true] at q
      obtain ⟨z3, z4⟩ := Bool.and_eq_true_iff.mp z2
      obtain ⟨e1, r1, et⟩ := r0.cut r' e z4
      obtain ⟨t, rfl⟩ := e.pre
      rw [← r0.len] at z3
      exact q dd H' as e1 r1 (x.cut z3)

/-- a dict of the def's own that is given back stays a cell -/
def keepC (k : Nat) (μ : List M) (n : Nat) : Option M := if n < k then none else match μ[n]? with
  | some (.dic l) => if ksLess k l && μLess k μ then some (.dic l) else none
  | _ => none
def cutD (k : Nat) (r : ER) : ER := match r with
  | .ok (.loc n) μ => match keepC k μ n with
    | some m => .ok (.loc k) (μ.take k ++ [m])
    | none => cutL k (.ok (.loc n) μ)
  | r => cutL k r
/-- all of the def's own cells but one are let go -/
theorem Rel.cut1 {as0 as : List Addr} {H0 H : Hp} {μ0 μ : List M} {n : Nat} {a : Addr} {m : M} (r0 : Rel w as0 H0 μ0) (r : Rel w as H μ) (e : Ext as0 H0 H as) (hl : μLess μ0.length μ = true) (ha : as[n]? = some a) (hm : μ[n]? = some m) (hn : ¬ n < μ0.length) (hml : mLess μ0.length m = true) :
    Ext as0 H0 H (as0 ++ [a]) ∧ Rel w (as0 ++ [a]) H (μ.take μ0.length ++ [m]) ∧ (as0 ++ [a])[μ0.length]? = some a := by
  obtain ⟨_, r1, _⟩ := r0.cut r e hl
  obtain ⟨t, rfl⟩ := e.pre
  have la : as0.length = μ0.length := r0.len
  have last : (as0 ++ [a])[μ0.length]? = some a := by rw [← la, List.getElem?_append_right (Nat.le_refl _), Nat.sub_self]; rfl
  have hs : ∀ x ∈ as0 ++ [a], x ∈ as0 ++ t := fun x z => by
    rcases List.mem_append.mp z with z | z
    · exact List.mem_append_left _ z
    · rw [List.mem_singleton.mp z]; exact List.mem_of_getElem? ha
  have hi : ∀ j, j < μ0.length → (as0 ++ [a])[j]? = (as0 ++ t)[j]? := fun j hj => by
    rw [List.getElem?_append_left (by omega), List.getElem?_append_left (by omega)]
  have na : a ∉ as0 := fun z => by
    obtain ⟨i, hi, ei⟩ := List.mem_iff_getElem.mp z
    have h1 : (as0 ++ t)[i]? = some a := by rw [List.getElem?_append_left hi]; simp [hi, ei]
    obtain ⟨h2, e2⟩ := List.getElem?_eq_some_iff.mp h1
    obtain ⟨h3, e3⟩ := List.getElem?_eq_some_iff.mp ha
    have := (List.getElem_inj r.nd).mp (e2.trans e3.symm)
    omega
  have hlen := (List.getElem?_eq_some_iff.mp hm).1
  have e' : Ext as0 H0 H (as0 ++ [a]) := ⟨⟨[a], rfl⟩, fun x z => e.new x (hs x z), e.keep0⟩
  refine ⟨e', ⟨?_, fun x z => r.off x (hs x z), ?_, fun j b c h1 h2 => ?_, r.frk, fun p z => ?_, ?_⟩, last⟩
  · refine List.nodup_append.mpr ⟨(List.nodup_append.mp r.nd).1, by simp, fun x z b y q => ?_⟩
    rw [List.mem_singleton.mp y] at q
    exact na (q ▸ z)
  · rw [List.length_append, List.length_append, List.length_take, la]
    simp only [List.length_cons, List.length_nil]
    omega
  · by_cases hj : j < μ0.length
    · rw [List.getElem?_append_left (by rw [List.length_take]; omega), List.getElem?_take_of_lt hj] at h2
      rw [hi j hj] at h1
      exact (r.cell j b c h1 h2).cutS hs hi (List.all_eq_true.mp hl c (List.mem_of_getElem? (by rw [List.getElem?_take_of_lt hj]; exact h2)))
    · have hj' : j = μ0.length := by
        have := (List.getElem?_eq_some_iff.mp h1).1
        rw [List.length_append, la] at this
        simp only [List.length_cons, List.length_nil] at this
        omega
      subst hj'
      rw [last] at h1
      cases h1
      rw [List.getElem?_append_right (by rw [List.length_take]; omega)] at h2
      have hz : μ0.length - (μ.take μ0.length).length = 0 := by rw [List.length_take]; omega
      rw [hz] at h2
      cases h2
      exact (r.cell n a _ ha hm).cutS hs hi hml
  · exact (r0.gh p z).ext e'
  · exact r.tab.to (fun b o _ n z => n (hs b z)) fun _ _ h _ _ => h
theorem EOk.cutD {W : WX} {σ : L2.St} {as : List Addr} {H : Hp} {μ : List M} {r : ER} {Q : VK} (r0 : Rel w as H μ) (q : EOk w W σ as H (DL.cutD μ.length r) Q) : EOk w W σ as H r Q := by
  have old : EOk w W σ as H (cutL μ.length r) Q → EOk w W σ as H r Q := EOk.cutO r0
  cases r with
  | bad => exact old q
  | exc c fs μ' => exact old q
  | ok d μ' =>
    cases d with
    | loc n =>
      unfold DL.cutD at q
      dsimp only at q
      cases z : keepC μ.length μ' n with
      | none => rw [z] at q; exact old q
      | some m =>
        simp only [z] at q
        unfold keepC at z
        by_cases hn : n < μ.length
        · rw [if_pos hn] at z; cases z
        · rw [if_neg hn] at z
          cases z2 : μ'[n]? with
          | none => rw [z2] at z; cases z
          | some m' =>
            rw [z2] at z
            cases m' with
            | dic l =>
              dsimp only at z
              split at z
              · rename_i hl
                cases z
                obtain ⟨hl1, hl2⟩ := Bool.and_eq_true_iff.mp hl
                intro v H' as' e r' dn
                cases dn with
                | loc ha =>
                  obtain ⟨e1, r1, la⟩ := Rel.cut1 r0 r' e hl2 ha z2 hn hl1
                  exact q _ H' _ e1 r1 (.loc la)
              · cases z
            | lst l => cases z
            | obj c l => cases z
            | dead => cases z
    | _ => exact old q
/-- any cell of the def's own that is given back stays one -/
def keepA (k : Nat) (μ : List M) (n : Nat) : Option M := if n < k then none else match μ[n]? with
  | some m => if mLess k m && μLess k μ then some m else none
  | _ => none
def cutA (k : Nat) (r : ER) : ER := match r with
  | .ok (.loc n) μ => match keepA k μ n with
    | some m => .ok (.loc k) (μ.take k ++ [m])
    | none => cutL k (.ok (.loc n) μ)
  | r => cutL k r
theorem EOk.cutA {W : WX} {σ : L2.St} {as : List Addr} {H : Hp} {μ : List M} {r : ER} {Q : VK} (r0 : Rel w as H μ) (q : EOk w W σ as H (DL.cutA μ.length r) Q) : EOk w W σ as H r Q := by
  have old : EOk w W σ as H (cutL μ.length r) Q → EOk w W σ as H r Q := EOk.cutO r0
  cases r with
  | bad => exact old q
  | exc c fs μ' => exact old q
  | ok d μ' =>
    cases d with
    | loc n =>
      unfold DL.cutA at q
      dsimp only at q
      cases z : keepA μ.length μ' n with
      | none => rw [z] at q; exact old q
      | some m =>
        simp only [z] at q
        unfold keepA at z
        by_cases hn : n < μ.length
        · rw [if_pos hn] at z; cases z
        · rw [if_neg hn] at z
          cases z2 : μ'[n]? with
          | none => rw [z2] at z; cases z
          | some m' =>
            rw [z2] at z
            dsimp only at z
            split at z
            · rename_i hl
              cases z
              obtain ⟨hl1, hl2⟩ := Bool.and_eq_true_iff.mp hl
              intro v H' as' e r' dn
              cases dn with
              | loc ha =>
                obtain ⟨e1, r1, la⟩ := Rel.cut1 r0 r' e hl2 ha z2 hn hl1
                exact q _ H' _ e1 r1 (.loc la)
            · cases z
    | _ => exact old q
/-- .. where there are some -/
def cutE (kp : Bool) (k : Nat) (r : ER) : ER := match r with
  | .ok d μ => if μ.length = k then .ok d μ else if kp then cutA k (.ok d μ) else cutD k (.ok d μ)
  | .exc c fs μ => if μ.length = k then .exc c fs μ else cutL k (.exc c fs μ)
  | .bad => .bad
theorem EOk.cut {kp : Bool} {W : WX} {σ : L2.St} {as : List Addr} {H : Hp} {μ : List M} {r : ER} {Q : VK} (r0 : Rel w as H μ) (q : EOk w W σ as H (cutE kp μ.length r) Q) : EOk w W σ as H r Q := by
  cases r with
  | bad => exact q
  | ok d μ' =>
    unfold cutE at q
    dsimp only at q
    split at q
    · exact q
    · split at q
      · exact EOk.cutA r0 q
      · exact EOk.cutD r0 q
  | exc c fs μ' =>
    unfold cutE at q
    dsimp only at q
    split at q
    · exact q
    · exact EOk.cutO r0 q

/-! ### a def's promise, on data -/
abbrev FD := List D → List M → ER
abbrev WV (E : XK) : WX := fun cls d _ H => E cls d H
def Wd.at (w : Wd) (fr : List Addr) (x : Wx) : Wd := { w with fr := fr, x := x }
def SpD (w : Wd) (qx : Wx → Prop) (n : Nat) (m : FD) : Sp := fun vs H Q E => ∃ fr x as ds μ, qx x ∧ vs.length = n ∧ Rel (w.at fr x) as H μ ∧ Dens (w.at fr x) as H vs ds ∧ EOk (w.at fr x) (WV E) [] as H (m ds μ) Q
theorem EOk.slot {E : XK} {σ σ' : L2.St} {as : List Addr} {H : Hp} {r : ER} {Q : VK} (q : EOk w (WV E) σ as H r Q) : EOk w (WV E) σ' as H r Q := match r, q with
  | .ok _ _, q => q
  | .exc _ _ _, q => q
  | .bad, q => q
def retE : SR → ER
  | .nx _ μ => .ok .non μ
  | .rt d _ μ => .ok d μ
  | .exc c fs _ μ => .exc c fs μ
  | _ => .bad
/-- a def: its body run at its arguments -/
def mDef (kp : Bool) (N n : Nat) (mb : SM) : FD := fun ds μ => if ds.length = n then cutE kp μ.length (retE (mb (ds.map some ++ List.replicate (N - n) none) μ)) else .bad
theorem SOk.ret {E : XK} {as : List Addr} {H : Hp} {r : SR} {Q : VK} (q : EOk w (WV E) [] as H (retE r) Q) : SOk w (WV E) as H r { nx := fun _ H' => Q .non H', rt := Q } := match r, q with
  | .nx _ _, q => fun _ H' as' e h => q .non H' as' e h.rel .non
  | .rt _ _ _, q => q
  | .bk _ _, q => q.elim
  | .ct _ _, q => q.elim
  | .exc _ _ _ _, q => fun dd σ' H' as' e h x => q dd H' as' e h.rel x
  | .bad, q => q
/-- room, and nothing is being shown -/
structure RoomG (k : Nat) (A : Around) : Prop extends Room k A where
  gd : A.guards = some []
theorem RoomG.mono {j k : Nat} {A : Around} (r : RoomG k A) (h : j ≤ k) : RoomG j A := ⟨r.toRoom.mono h, r.gd⟩
theorem RoomG.deeper {k : Nat} {A : Around} (r : RoomG (k + 1) A) (env : Env) : RoomG k (A.deeper env) := ⟨r.toRoom.deeper env, r.gd⟩
theorem RoomG.in1 {k : Nat} {A : Around} (r : RoomG (k + 1) A) : RoomG k A.in1 := ⟨r.toRoom.in1, r.gd⟩
theorem RoomG.make {k : Nat} {A : Around} (r : RoomG (k + 1) A) (C : Addr) (us : List Value) (kw : List (Str × Value)) : RoomG k (A.under (.builtin "type.__call__" ⟨.ref C :: us, kw⟩)) :=
  ⟨r.toRoom.make C us kw, by
    have g := r.gd
    first
    | exact g
    | simpa [Around.under, Code.isGuard, guardIds, pushGuards] using g
    | simpa [Around.under, Code.isGuard, guardIds] using g⟩
/-- a def's promise where nothing is being shown -/
structure FnG (P : Program) (wo : World) (K : PySem.W.Frag) (mg : Str → Option Value) (base : Heap) (k : Nat) (f : Addr) (fd : FuncData) (ps : List Str) (sp : Sp) : Prop where
  len : ∀ vs H Q E, sp vs H Q E → vs.length = ps.length
  run : ∀ (A : Around) (outer : List Env) (s : Shared) (H : Hp) (args : Args) (us : List Value) (vs : List V) (Q : VK) (E : XK), RoomG k A → Env0 P wo K mg base A outer s H → BindsTo s fd args (ps.zip us) → Vals vs us → sp vs H Q E →
    codeAny (model P wo) A (.call (.ref f) args) (CR (L2.CX P wo) outer P wo H s Q E) s
/-- THE RULE: a def of the text keeps its promise on data -/
theorem fn_D {kp : Bool} {P : Program} {wo : World} {K : PySem.W.Frag} {mg : Str → Option Value} {base : Heap} {x qual : Str} {params : Arguments} {body : List Stmt} {scope : Scope} {dvs : List V} {kws : List (Str × V)} {f : Addr} {fd : FuncData} {N ps : List Str} {k : Nat} {mb : SM} {qx : Wx → Prop} (F : FunD K x qual params body scope dvs kws f fd) (S : FnScope N ps scope)
    (hbody : ∀ (w' : Wd) (cdv : Value) (A : Around) (outer : List Env) (s : Shared) (H : Hp) (E : XK), w'.K = w.K → w'.ct = w.ct → qx w'.x → fd.code = cdv → RoomG k (A.deeper (envOfC qual scope s.heap.objs.size f cdv)) →
      PSs (cxOf (L2.CX P wo) P wo K mg base N qual scope f cdv A outer s H E) body (rdS w' (WV E) mb)) : FnG P wo K mg base (k + 1) f fd ps (SpD w qx ps.length (mDef kp N.length ps.length mb)) := by
  refine ⟨fun vs H Q E ⟨_, _, _, _, _, _, h, _⟩ => h, fun A outer s H args us vs Q E hr0 e0 hbt hv ⟨fr, x, as, ds, μ, hx, hl, r, dn, q⟩ => ?_⟩
  obtain ⟨oc, od, dV, kV, doc, pm, an, cdv, ct, osl, rfl, lk, hcd, _, _⟩ := F.ex
  refine LamX.run_ofS (k := k) lk hcd S hr0.toRoom e0 hbt hv hl fun hr => ?_
  refine ⟨_, hbody (w.at fr x) cdv A outer s H E rfl rfl hx rfl ⟨hr, hr0.gd⟩, fr, as, _, μ, ⟨r, sl_start N dn⟩, ?_⟩
  unfold mDef at q
  have hd : ds.length = ps.length := by rw [← dn.length]; exact hl
  rw [if_pos hd] at q
  rw [hd]
  exact SOk.ret (EOk.cut r q)

/-! ### calls -/
section
variable {X : Cx} {E : XK} {e a b c o : Expr} {es : List Expr} {pos p apos : Pos} {x : Str} {k n : Nat} {f : Addr} {fd : FuncData} {ps : List Str} {m : FD} {dvs : List V} {dds : List D} {dv : List Value}
def mCall (m : FD) (dds : List D) (mr : AM) : EM := fun δ μ => (mr δ μ).bindE fun ds μ => m (ds ++ dds) μ
theorem sp_ok {W0 : Wd} {qx : Wx → Prop} {fr as H σ δ μ} {ds : List D} {vs : List V} {Q : VK} (hq : qx w.x) (h : Here (w.on fr) as H σ δ μ) (d : Dens (w.on fr) as H vs ds) (hn : ds.length = n) (q : EOk (w.on fr) (WV E) σ as H (m ds μ) Q) (hK : w.K = W0.K) (hc : w.ct = W0.ct) : SpD W0 qx n m vs H Q E := by
  obtain ⟨K0, c0, f0, x0⟩ := W0
  cases hK; cases hc
  exact ⟨fr, w.x, as, ds, μ, hq, by rw [d.length]; exact hn, h.rel, d, EOk.slot q⟩
/-- the arity is looked at in the mirror -/
def fAr (n : Nat) (m : FD) : FD := fun ds μ => if ds.length = n then m ds μ else .bad
theorem sp_okA {W0 : Wd} {qx : Wx → Prop} {fr as H σ δ μ} {ds : List D} {vs : List V} {Q : VK} (hq : qx w.x) (h : Here (w.on fr) as H σ δ μ) (d : Dens (w.on fr) as H vs ds) (q : EOk (w.on fr) (WV E) σ as H (fAr n m ds μ) Q) (hK : w.K = W0.K) (hc : w.ct = W0.ct) : SpD W0 qx n m vs H Q E := by
  unfold fAr at q
  by_cases hn : ds.length = n
  · rw [if_pos hn] at q
    exact sp_ok hq h d hn q hK hc
  · rw [if_neg hn] at q; exact q.elim
end
end DL

namespace DL
open PySem PySem.Spec PyProof.Rows L2
variable {w : Wd}

/-! ### objects of own classes -/
def objOf (μ : List M) : D → Option (Nat × List (Str × D))
  | .obj c fs => some (c, fs)
  | .loc n => match μ[n]? with
    | some (.obj c fs) => some (c, fs)
    | _ => none
  | _ => none
theorem obj_of {as H μ v d c fs} (r : Rel w as H μ) (h : Den w as H v d) (e : objOf μ d = some (c, fs)) : ∃ a dx, ∃ vs : List (Str × V), v = .ref a ∧ H a = some (.ins (w.ct c) dx vs) ∧ vs.map (·.1) = fs.map (·.1) ∧ Dens w as H (vs.map (·.2)) (fs.map (·.2)) := by
  cases h with
  | obj f n q k q2 => cases e; exact ⟨_, _, _, rfl, q, k, q2⟩
  | @loc a n q =>
    have e : (match μ[n]? with | some (.obj c fs) => some (c, fs) | _ => none) = some (c, fs) := e
    cases z : μ[n]? with
    | none => rw [z] at e; cases e
    | some m =>
      rw [z] at e
      have cc := r.cell n a m q z
      cases m with
      | obj c' fs' => cases e; obtain ⟨dx, vs, h1, h2, h3⟩ := cc; exact ⟨a, dx, vs, rfl, h1, h2, h3⟩
      | _ => cases e
  | _ => cases e
theorem look_dens {as H} (f : Str) : ∀ {vs : List (Str × V)} {fs : List (Str × D)}, vs.map (·.1) = fs.map (·.1) → Dens w as H (vs.map (·.2)) (fs.map (·.2)) →
    (∀ d, fs.lookup f = some d → ∃ v, vs.lookup f = some v ∧ Den w as H v d) ∧ (fs.lookup f = none → vs.lookup f = none)
  | [], [], _, _ => ⟨(fun d e => by cases e), fun _ => rfl⟩
  | [], _ :: _, e, _ => by cases e
  | _ :: _, [], e, _ => by cases e
  | (x, v) :: vs, (y, d) :: fs, e, h => by
    have e1 : x = y := (List.cons.inj e).1
    have e2 : vs.map (·.1) = fs.map (·.1) := (List.cons.inj e).2
    subst e1
    cases h with
    | cons h1 h2 =>
      obtain ⟨i1, i2⟩ := look_dens f e2 h2
      cases z : (f == x) with
      | true => exact ⟨fun d' q => by simp only [List.lookup, z] at q ⊢; cases q; exact ⟨v, rfl, h1⟩, fun q => by simp only [List.lookup, z] at q; cases q⟩
      | false => exact ⟨fun d' q => by simp only [List.lookup, z] at q ⊢; exact i1 d' q, fun q => by simp only [List.lookup, z] at q ⊢; exact i2 q⟩
def putD (f : Str) (d : D) : List (Str × D) → List (Str × D)
  | [] => [(f, d)]
  | (g, x) :: r => if g = f then (g, d) :: r else (g, x) :: putD f d r
theorem put_dens {as H} {f : Str} {v : V} {d : D} (hv : Den w as H v d) : ∀ {vs : List (Str × V)} {fs : List (Str × D)}, vs.map (·.1) = fs.map (·.1) → Dens w as H (vs.map (·.2)) (fs.map (·.2)) →
    (putF f v vs).map (·.1) = (putD f d fs).map (·.1) ∧ Dens w as H ((putF f v vs).map (·.2)) ((putD f d fs).map (·.2))
  | [], [], _, _ => ⟨rfl, .cons hv .nil⟩
  | [], _ :: _, e, _ => by cases e
  | _ :: _, [], e, _ => by cases e
  | (x, u) :: vs, (y, z) :: fs, e, h => by
    have e1 : x = y := (List.cons.inj e).1
    have e2 : vs.map (·.1) = fs.map (·.1) := (List.cons.inj e).2
    subst e1
    cases h with
    | cons h1 h2 =>
      unfold putF putD
      by_cases q : x = f
      · rw [if_pos q, if_pos q]
        exact ⟨by simp [e2], .cons hv h2⟩
      · rw [if_neg q, if_neg q]
        obtain ⟨i1, i2⟩ := put_dens hv e2 h2
        exact ⟨by simp [i1], .cons h1 i2⟩

section
variable {X : Cx} {W : WX} {e a b c o : Expr} {pos pos' p apos : Pos}
/-! o.f -/
def mFld (cs : List Nat) (f : Str) (m : EM) : EM := fun δ μ => (m δ μ).bind fun d μ => match objOf μ d with
  | some (c, fs) => if cs.contains c then match fs.lookup f with
    | some x => .ok x μ
    | none => .bad
    else .bad
  | none => .bad
theorem d_fld {f : Str} {m : EM} {cs : List Nat} (he : PE X e (rdE w W m)) (hc : ∀ c ∈ cs, Cls X.K (w.ct c) ∧ NoAttr X.K (w.ct c) f) (hb : attributeBase e f X.env (eval e X.env) = eval e X.env := by rfl) : PE X (.Attribute e f pos) (rdE w W (mFld cs f m)) :=
  PE.to (pe_fld he hb) fun σ H Q ⟨fr, as, δ, μ, h, q⟩ => bE h q fun v H1 as1 d μ1 h1 d1 q1 => by
    cases z : objOf μ1 d with
    | none => simp only [z] at q1; exact q1.elim
    | some p =>
      obtain ⟨c, fs⟩ := p
      simp only [z] at q1
      cases z2 : cs.contains c with
      | false => simp only [z2] at q1; exact q1.elim
      | true =>
        simp only [z2, if_true] at q1
        cases z3 : fs.lookup f with
        | none => simp only [z3] at q1; exact q1.elim
        | some x =>
          simp only [z3] at q1
          obtain ⟨a, dx, vs, rfl, h2, h3, h4⟩ := obj_of h1.rel d1 z
          obtain ⟨y, h5, h6⟩ := (look_dens f h3 h4).1 x z3
          obtain ⟨k1, k2⟩ := hc c (by simpa using z2)
          exact ⟨a, _, dx, vs, y, rfl, h2, k1, k2, h5, q1 y H1 as1 Ext.refl h1.rel h6⟩
/-! o.f = e, o a cell -/
def mSetF (cs : List Nat) (f : Str) (mo me : EM) : SM := fun δ μ => (me δ μ).bindS δ fun d μ => (mo δ μ).bindS δ fun o μ => match o with
  | .loc n => match μ[n]? with
    | some (.obj c fs) => if cs.contains c && decide (fs.length < 1000) then .nx δ (μ.set n (.obj c (putD f d fs))) else .bad
    | _ => .bad
  | _ => .bad
theorem s_fld {f : Str} {mo me : EM} {cs : List Nat} (ho : PE X o (rdE w W mo)) (he : PE X e (rdE w W me)) (hc : ∀ c ∈ cs, Cls X.K (w.ct c) ∧ NoAttr X.K (w.ct c) f) (hs : swapsWith e (some (.Attribute o f pos')) pos.line X.env = pure false := by rfl) :
    PS X (.Assign [.Attribute o f pos'] e pos) (rdS w W (mSetF cs f mo me)) :=
  PS.to (ps_fld ho he hs) fun E σ H ⟨fr, as, δ, μ, h, q⟩ => bES h q fun v H1 as1 d μ1 h1 d1 q1 => by
    have q1 : SOk (w.on fr) W as1 H1 ((mo δ μ1).bindS δ fun o μ => match o with
      | .loc n => match μ[n]? with
        | some (.obj c fs) => if cs.contains c && decide (fs.length < 1000) then .nx δ (μ.set n (.obj c (putD f d fs))) else .bad
        | _ => .bad
      | _ => .bad) E := q1
    refine ⟨fr, as1, δ, μ1, h1, ?_⟩
    revert q1
    cases mo δ μ1 with
    | bad => exact fun q => q
    | exc c fs μ2 => exact fun q dd H2 as2 e2 r2 x => q dd σ H2 as2 e2 (h1.ext e2 r2) x
    | ok o μ2 =>
      intro q2 ov H2 as2 e2 r2 o2
      cases o2 with
      | @loc a n hn =>
        have q2 : SOk (w.on fr) W as1 H1 (match μ2[n]? with
          | some (.obj c fs) => if cs.contains c && decide (fs.length < 1000) then .nx δ (μ2.set n (.obj c (putD f d fs))) else .bad
          | _ => .bad) E := q2
        cases z : μ2[n]? with
        | none => rw [z] at q2; exact q2.elim
        | some m =>
          cases m with
          | obj c fs =>
            simp only [z] at q2
            cases z2 : (cs.contains c && decide (fs.length < 1000)) with
            | false => simp only [z2] at q2; exact q2.elim
            | true =>
              simp only [z2, if_true] at q2
              obtain ⟨z3, z4⟩ := Bool.and_eq_true_iff.mp z2
              obtain ⟨k1, k2⟩ := hc c (by simpa using z3)
              obtain ⟨dx, vs, g1, g2, g3⟩ := r2.cell n a _ hn z
              have hl : vs.length = fs.length := by have := congrArg List.length g2; simpa using this
              refine ⟨a, _, dx, vs, rfl, g1, k1, k2, by rw [hl]; exact of_decide_eq_true z4, ?_⟩
              have d2 := d1.ext e2
              have ha : a ∈ as2 := List.mem_of_getElem? hn
              obtain ⟨p1, p2⟩ := put_dens (f := f) d2 g2 g3
              have ew : Ext as2 H2 (upd H2 a (.ins ((w.on fr).ct c) dx (putF f v vs))) as2 := Ext.write ha
              exact q2 σ _ as2 (e2.trans ew) ⟨r2.write hn ⟨dx, _, upd_same, p1, p2.ext ew⟩, (h1.sl.ext e2).ext ew⟩
          | _ => rw [z] at q2; exact q2.elim
      | _ => exact q2.elim
end

/-! ### methods -/
section
variable {X : Cx} {E : XK} {e a b c o : Expr} {es : List Expr} {kws : List Keyword} {pos p apos : Pos} {x mn : Str} {k n cn : Nat} {f : Addr} {fd : FuncData} {ps ks : List Str} {m : FD} {dvs : List V} {dds : List D} {dv : List Value} {W0 : Wd}
theorem bAEx {fr as H σ δ μ} {W : WX} {ma : AM} {kk0 : List D → List M → ER} {Q : VK} {Q' : List V → Hp → Prop} (h : Here (w.on fr) as H σ δ μ) (q : EOk (w.on fr) W σ as H ((ma δ μ).bindE kk0) Q)
    (kk : ∀ v H1 as1 d μ1, Ext as H H1 as1 → Here (w.on fr) as1 H1 σ δ μ1 → Dens (w.on fr) as1 H1 v d → EOk (w.on fr) W σ as1 H1 (kk0 d μ1) Q → Q' v H1) : rdA w W ma σ H Q' := by
  refine ⟨fr, as, δ, μ, h, ?_⟩
  revert q
  cases ma δ μ with
  | ok d μ1 => exact fun q v H1 as1 e r dn => kk v H1 as1 d μ1 e (h.ext e r) dn (EOk.ext e q)
  | exc c fs μ1 => exact fun q => q
  | bad => exact fun q => q
/-! keywords -/
/-- the keywords' values -/
def PKd (X : Cx) (w : Wd) (W : WX) (kws : List Keyword) (m : AM) : Prop := PK X kws (rdA w W m)
theorem PK.to {t t' : TA} (h : PK X kws t) (i : ∀ σ H Q, t' σ H Q → t σ H Q) : PK X kws t' := ⟨fun pos pins s σ H Q I q => h.run pos pins s σ H Q I (i σ H Q q)⟩
theorem k_nil {W : WX} : PKd X w W [] mNil := PK.to pk_nil fun σ H Q ⟨fr, as, δ, μ, h, q⟩ => q [] H as Ext.refl h.rel .nil
theorem k_cons {W : WX} {nm : Option Str} {kpos : Pos} {ma : EM} {mr : AM} (ha : PE X e (rdE w W ma)) (hr : PKd X w W kws mr) : PKd X w W (⟨nm, e, kpos⟩ :: kws) (mCons ma mr) :=
  PK.to (pk_cons ha hr) fun σ H Q ⟨fr, as, δ, μ, h, q⟩ => bEA h q fun v H1 as1 d μ1 h1 d1 _ q1 =>
    bA h1 q1 fun vs H2 as2 ds μ2 h2 d2 e2 q2 => q2 _ H2 as2 Ext.refl h2.rel (.cons (d1.ext e2) d2)
/-- how values and keywords are put in order, on data as on values -/
def OrdD (gV : List V → List V → List V) (gD : List D → List D → List D) : Prop := ∀ (w : Wd) (as : List Addr) (H : Hp) (vs zs : List V) (ds es : List D), Dens w as H vs ds → Dens w as H zs es → Dens w as H (gV vs zs) (gD ds es)
def mCallK (n : Nat) (nk : Nat) (m : FD) (gD : List D → List D → List D) (mr mk : AM) : EM := fun δ μ => (mr δ μ).bindE fun ds μ => (mk δ μ).bindE fun es μ => if ds.length = n ∧ es.length = nk then m (gD ds es) μ else .bad
/-- o.m(e, .., k = v, ..) -/
def mMethK (cn : Nat) (mn : Str) (n nk : Nat) (m : FD) (gD : List D → List D → List D) (mo : EM) (mr mk : AM) : EM := fun δ μ => (mo δ μ).bind fun d μ => match objOf μ d with
  | some (c, fs) => if c = cn then match fs.lookup mn with
    | none => (mr δ μ).bindE fun ds μ => (mk δ μ).bindE fun es μ => if ds.length + 1 = n ∧ es.length = nk then m (gD (d :: ds) es) μ else .bad
    | some _ => .bad
    else .bad
  | none => .bad
/-! ### C(..) -/
/-- __init__ run at a new cell; the object stands still behind it -/
def finO (k : Nat) (c : Nat) (r : ER) : ER := match r with
  | .ok .non μ => match frzD k μ (.loc k) with
    | some (.obj c' fs) => if c' = c && μLess k μ then .ok (.obj c fs) (μ.take k) else .bad
    | _ => .bad
  | .exc c fs μ => if fsLess k fs && μLess k μ then .exc c fs (μ.take k) else .bad
  | _ => .bad
theorem made_new {fr as H σ δ μ} {x dx : Addr} (h : Here (w.on fr) as H σ δ μ) (hx : H x = none) (hd : H dx = none) (ne : dx ≠ x) :
    Ext as H (upd (upd H dx (.own x)) x (.ins (w.ct cn) dx [])) (as ++ [x]) ∧ Rel (w.on fr) (as ++ [x]) (upd (upd H dx (.own x)) x (.ins (w.ct cn) dx [])) (μ ++ [.obj cn []]) ∧ Den (w.on fr) (as ++ [x]) (upd (upd H dx (.own x)) x (.ins (w.ct cn) dx [])) (.ref x) (.loc μ.length) := by
  have hx1 : upd H dx (.own x) x = none := by rw [upd_ne (Ne.symm ne)]; exact hx
  have r1 := h.rel.push (o := .own x) hd
  refine ⟨(Ext.push hd).trans (Ext.cell hx1), r1.cellNew hx1 ⟨dx, [], upd_same, rfl, .nil⟩, .loc ?_⟩
  rw [← h.rel.len, List.getElem?_append_right (Nat.le_refl _)]
  simp
theorem finO_ok {fr as H σ δ μ} {x dx : Addr} {r : ER} {Q : VK} (h : Here (w.on fr) as H σ δ μ) (hx : H x = none) (hd : H dx = none) (ne : dx ≠ x) (q : EOk (w.on fr) (WV E) σ as H (finO μ.length cn r) Q) :
    EOk (w.on fr) (WV E) σ (as ++ [x]) (upd (upd H dx (.own x)) x (.ins (w.ct cn) dx [])) r (fun v H2 => v = .non ∧ Q (.ref x) H2) := by
  obtain ⟨e1, r1, d1⟩ := made_new (cn := cn) h hx hd ne
  cases r with
  | bad => exact q
  | exc c fs μ' =>
    intro dd H' as' e r' xd
    have q : EOk (w.on fr) (WV E) σ as H (if fsLess μ.length fs && μLess μ.length μ' then .exc c fs (μ'.take μ.length) else .bad) Q := q
    cases z2 : (fsLess μ.length fs && μLess μ.length μ') with
    | false => rw [z2] at q; exact q.elim
    | true =>
      simp only [z2, if_true] at q
      obtain ⟨z3, z4⟩ := Bool.and_eq_true_iff.mp z2
      obtain ⟨e2, r2, et⟩ := h.rel.cut r' (e1.trans e) z4
      obtain ⟨t, rfl⟩ := (e1.trans e).pre
      rw [← h.rel.len] at z3
      exact q dd H' as e2 r2 (xd.cut z3)
  | ok d μ' =>
    intro v H' as' e r' dn
    cases d with
    | non =>
      cases dn
      have q : EOk (w.on fr) (WV E) σ as H (match frzD μ.length μ' (.loc μ.length) with
        | some (.obj c' fs) => if c' = cn && μLess μ.length μ' then .ok (.obj cn fs) (μ'.take μ.length) else .bad
        | _ => .bad) Q := q
      cases z : frzD μ.length μ' (.loc μ.length) with
      | none => rw [z] at q; exact q.elim
      | some d' =>
        cases d' with
        | obj c' fs =>
          simp only [z] at q
          cases z2 : (decide (c' = cn) && μLess μ.length μ') with
          | false => simp only [z2] at q; exact q.elim
          | true =>
            simp only [z2, if_true] at q
            obtain ⟨z3, z4⟩ := Bool.and_eq_true_iff.mp z2
            have ec : c' = cn := of_decide_eq_true z3
            subst ec
            obtain ⟨e2, r2, et⟩ := h.rel.cut r' (e1.trans e) z4
            have dx' := d1.ext e
            obtain ⟨t, rfl⟩ := (e1.trans e).pre
            rw [← h.rel.len] at z dx'
            exact ⟨rfl, q (.ref x) H' as e2 r2 (frz_den r' dx' z)⟩
        | _ => rw [z] at q; exact q.elim
    | _ => exact q.elim
end
end DL

namespace DL
open PySem PySem.Spec PyProof.Rows L2
variable {w : Wd}

/-! ### slices -/
def cutG {α : Type} (xs : List α) (lo hi : Option Int) : List α := (xs.drop (HT.sIx xs.length 0 lo)).take (HT.sIx xs.length xs.length hi - HT.sIx xs.length 0 lo)
theorem Dens.cutG {as H} {vs : List V} {ds : List D} (h : Dens w as H vs ds) (lo hi : Option Int) : Dens w as H (cutV vs lo hi) (DL.cutG ds lo hi) := by
  unfold cutV DL.cutG
  rw [h.length]
  exact (h.drop _).take _
section
variable {X : Cx} {W : WX} {e a b c o : Expr} {pos pos' p p2 apos : Pos}
def mNoPart : EM := fun _ μ => .ok .non μ
def mPart (m : EM) : EM := fun δ μ => (m δ μ).bind fun d μ => match d with
  | .int i => .ok (.int i) μ
  | _ => .bad
def rdO (w : Wd) (W : WX) (m : EM) : TO := fun σ H Q => rdE w W m σ H fun v H' => (v = .non ∧ Q none H') ∨ ∃ i, v = .int i ∧ Q (some i) H'
theorem PO.to {e : Option Expr} {t t' : TO} (h : PO X e t) (i : ∀ σ H Q, t' σ H Q → t σ H Q) : PO X e t' := ⟨fun pins s σ H Q I q => h.run pins s σ H Q I (i σ H Q q)⟩
theorem o_none : PO X none (rdO w W mNoPart) := PO.to po_none fun σ H Q ⟨fr, as, δ, μ, h, q⟩ => by
  have q1 : EOk (w.on fr) W σ as H (.ok .non μ) (fun v H' => (v = .non ∧ Q none H') ∨ ∃ i, v = .int i ∧ Q (some i) H') := q
  rcases q1 .non H as Ext.refl h.rel .non with ⟨_, z⟩ | ⟨i, z, _⟩
  · exact z
  · cases z
theorem o_some {m : EM} (he : PE X e (rdE w W m)) : PO X (some e) (rdO w W (mPart m)) := PO.to (po_some he) fun σ H Q ⟨fr, as, δ, μ, h, q⟩ => bE h q fun v H1 as1 d μ1 h1 d1 q1 => by
  cases d1 with
  | int i =>
    rcases q1 (.int i) H1 as1 Ext.refl h1.rel (.int i) with ⟨z, _⟩ | ⟨j, z, q⟩
    · cases z
    · cases z; exact ⟨i, rfl, q⟩
  | _ => exact q1.elim
def ixOf : D → Option (Option Int)
  | .non => some none
  | .int i => some (some i)
  | _ => none
def fCut (lo hi : Option Int) (d : D) (μ : List M) : ER := match d with
  | .str s => if lineOk s.length then .ok (.str (cutG s lo hi)) μ else .bad
  | .tup xs => .ok (.tup (cutG xs lo hi)) μ
  | d => match lsOf μ d with
    | some xs => .ok (.lst (cutG xs lo hi)) μ
    | none => .bad
def mSl (me ml mh : EM) : EM := fun δ μ => (me δ μ).bind fun d μ => (ml δ μ).bind fun l μ => match ixOf l with
  | some lo => (mh δ μ).bind fun u μ => match ixOf u with
    | some hi => fCut lo hi d μ
    | none => .bad
  | none => .bad
abbrev rSlAll (K : PySem.W.Frag) : V → Option Int → Option Int → Hp → VK → Prop := fun x lo hi H Q => rSlS x lo hi H Q ∨ (rSlA K x lo hi H Q ∨ rSlL K x lo hi H Q)
theorem slAll : SlR X (rSlAll X.K) := sl_str.or (sl_tupA.or sl_list)
theorem cut_whole {xs : List D} {lo hi : Option Int} (h : HT.sIx xs.length 0 lo = 0 ∧ HT.sIx xs.length xs.length hi = xs.length) : cutG xs lo hi = xs := by
  unfold cutG
  rw [h.1, h.2]
  simp
theorem fCut_ok {fr as H σ δ μ} {d : D} {lo hi : Option Int} {v : V} {Q : VK} (h : Here (w.on fr) as H σ δ μ) (dn : Den (w.on fr) as H v d) (q : EOk (w.on fr) W σ as H (fCut lo hi d μ) Q) : rSlAll w.K v lo hi H Q := by
  have lists : EOk (w.on fr) W σ as H (match lsOf μ d with | some xs => ER.ok (.lst (cutG xs lo hi)) μ | none => .bad) Q → rSlAll w.K v lo hi H Q := fun q => by
    cases z : lsOf μ d with
    | none => rw [z] at q; exact q.elim
    | some xs =>
      rw [z] at q
      obtain ⟨p1, vs, rfl, h1, k1⟩ := sqL_of h.rel dn z
      exact .inr (.inr ⟨p1, vs, rfl, h1, fun p hp => q (.ref p) _ as (Ext.push hp) (h.rel.push hp) (.lst (h.rel.newF hp) (h.rel.new hp) upd_same ((k1.cutG lo hi).ext (Ext.push hp)))⟩)
  cases d with
  | str s =>
    cases dn
    have q : EOk (w.on fr) W σ as H (if lineOk s.length then .ok (.str (cutG s lo hi)) μ else .bad) Q := q
    cases z : lineOk s.length with
    | false => rw [z] at q; exact q.elim
    | true =>
      rw [z, if_pos rfl] at q
      refine .inl ⟨_, rfl, by rw [str_len]; exact lineOk_line z, ?_⟩
      have e : cutS ⟨s.toArray⟩ lo hi = ⟨(cutG s lo hi).toArray⟩ := by
        unfold cutS cutG
        rw [str_len]
      rw [e]
      exact q _ H as Ext.refl h.rel (.str _)
  | tup xs =>
    have q : EOk (w.on fr) W σ as H (.ok (.tup (cutG xs lo hi)) μ) Q := q
    obtain ⟨p1, vs, rfl, h1, k1⟩ := sqT_of dn
    refine .inr (.inl ⟨p1, vs, rfl, h1, fun hw => ?_, fun hw p hp => ?_⟩)
    · rw [k1.length] at hw
      rw [cut_whole hw] at q
      exact q _ H as Ext.refl h.rel dn
    · exact q (.ref p) _ as (Ext.push hp) (h.rel.push hp) (.tup (h.rel.newF hp) (h.rel.new hp) upd_same ((k1.cutG lo hi).ext (Ext.push hp)))
  | _ => exact lists q
theorem den_ix {as H v d} (h : Den w as H v d) : (v = .non → ixOf d = some none) ∧ ∀ i, v = .int i → ixOf d = some (some i) := by
  cases h <;> refine ⟨fun z => ?_, fun i z => ?_⟩ <;> cases z <;> rfl
theorem bEx {fr as H σ δ μ} {ma : EM} {k : D → List M → ER} {Q Q' : VK} (h : Here (w.on fr) as H σ δ μ) (q : EOk (w.on fr) W σ as H ((ma δ μ).bind k) Q)
    (kk : ∀ v H1 as1 d μ1, Ext as H H1 as1 → Here (w.on fr) as1 H1 σ δ μ1 → Den (w.on fr) as1 H1 v d → EOk (w.on fr) W σ as1 H1 (k d μ1) Q → Q' v H1) : rdE w W ma σ H Q' := by
  refine ⟨fr, as, δ, μ, h, ?_⟩
  revert q
  cases ma δ μ with
  | ok d μ1 => exact fun q v H1 as1 e r dn => kk v H1 as1 d μ1 e (h.ext e r) dn (EOk.ext e q)
  | exc c fs μ1 => exact fun q => q
  | bad => exact fun q => q
theorem d_slice {lo hi : Option Expr} {me ml mh : EM} (he : PE X e (rdE w W me)) (hl : PO X lo (rdO w W ml)) (hh : PO X hi (rdO w W mh)) (hK : w.K = X.K := by rfl) : PE X (.Subscript e (.Slice lo hi none p2) pos) (rdE w W (mSl me ml mh)) :=
  PE.to (pe_slice slAll he hl hh) fun σ H Q ⟨fr, as, δ, μ, h, q⟩ => bEx h q fun v H1 as1 d μ1 _ h1 d1 q1 => bEx h1 q1 fun vl H2 as2 l μ2 e2 h2 l2 q2 => by
    cases hl : ixOf l with
    | none => simp only [hl] at q2; exact q2.elim
    | some lo =>
      simp only [hl] at q2
      have rest : rdO w W mh σ H2 fun u H3 => rSlAll X.K v lo u H3 Q := bEx h2 q2 fun vu H3 as3 u μ3 e3 h3 u3 q3 => by
        rw [← hK]
        cases hu : ixOf u with
        | none => simp only [hu] at q3; exact q3.elim
        | some hi =>
          simp only [hu] at q3
          have ok := fCut_ok h3 ((d1.ext e2).ext e3) q3
          cases u with
          | non => cases u3; cases hu; exact .inl ⟨rfl, ok⟩
          | int i => cases u3; cases hu; exact .inr ⟨i, rfl, ok⟩
          | _ => cases hu
      cases l with
      | non => cases l2; cases hl; exact .inl ⟨rfl, rest⟩
      | int i => cases l2; cases hl; exact .inr ⟨i, rfl, rest⟩
      | _ => cases hl
end

/-! ### a text times an int -/
theorem repl_arr (x : Array Nat) : ∀ n : Nat, ∀ acc : Array Nat, (List.replicate n x).foldl (· ++ ·) acc = acc ++ ((List.replicate n x.toList).flatten).toArray
  | 0, acc => by simp
  | n + 1, acc => by
    rw [List.replicate_succ, List.foldl_cons, repl_arr x n]
    apply Array.ext'
    simp [List.replicate_succ]
def rMulS : R2 := fun x y H Q => ∃ (s : List Nat) (k : Int), x = .str ⟨s.toArray⟩ ∧ y = .int k ∧ -(2 ^ 63) ≤ k ∧ k < 2 ^ 63 ∧ s.length * k.toNat ≤ 16777216 ∧ Q (.str ⟨((List.replicate k.toNat s).flatten).toArray⟩) H
section
variable {X : Cx} {W : WX} {e a b c o : Expr} {pos pos' p p2 apos : Pos}
theorem op_mulS : OpR X (binaryOp .Mult) rMulS := by
  intro pins s σ H x y v u Q I rx ry h
  obtain ⟨l, k, rfl, rfl, h1, h2, h3, q⟩ := h
  obtain ⟨t, rfl⟩ := rx
  obtain ⟨t', rfl⟩ := ry
  have hlen : (⟨l.toArray⟩ : Str).length = l.length := str_len l
  refine P.mul_str (by rw [decide_eq_false (by omega), decide_eq_false (by omega)]; rfl) (fun k1 k2 => ?_) (fun k1 k2 => ?_) ?_
  · rw [hlen]
    have hk : (1 : Int) ≤ k := by omega
    have e1 : ((l.length : Nat) : Int) * k ≤ 16777216 := by
      have z : ((l.length * k.toNat : Nat) : Int) ≤ ((16777216 : Nat) : Int) := Int.ofNat_le.mpr h3
      rw [Int.natCast_mul, Int.toNat_of_nonneg (by omega)] at z
      exact z
    have e2 : ((l.length : Nat) : Int) ≤ (2 ^ 63 - 1) / k := (Int.le_ediv_iff_mul_le (by omega)).mpr (by omega)
    omega
  · rw [hlen]; exact short24 h3
  · by_cases k1 : k < 1
    · rw [if_pos k1]
      have e0 : k.toNat = 0 := by omega
      rw [e0] at q
      exact ⟨by decide, .str Str.empty, H, I.tok _, ⟨_, rfl⟩, q⟩
    · rw [if_neg k1]
      by_cases k2 : (k == 1 || (⟨l.toArray⟩ : Str).length == 0) = true
      · rw [if_pos k2]
        have e0 : (List.replicate k.toNat l).flatten = l := by
          rw [hlen] at k2
          rcases Bool.or_eq_true_iff.mp k2 with z | z
          · have : k = 1 := by simpa using z
            subst this
            simp
          · have : l = [] := by simpa using z
            subst this
            simp
        rw [e0] at q
        exact ⟨.str ⟨l.toArray⟩, H, I, ⟨t, rfl⟩, q⟩
      · rw [if_neg k2, repl_arr]
        refine ⟨fit_le (short24 ?_), .str ⟨((List.replicate k.toNat l).flatten).toArray⟩, H, I.tok _, ⟨s.toks, by simp⟩, q⟩
        show (#[] ++ ((List.replicate k.toNat l).flatten).toArray).size ≤ _
        simp
        rw [Nat.mul_comm]; exact h3
def fMul2 (x y : D) (μ : List M) : ER := match x with
  | .str s => match y with
    | .int k => if repOk s.length k then .ok (.str (List.replicate k.toNat s).flatten) μ else .bad
    | _ => .bad
  | x => fMul x y μ
theorem od_mul2 : OpD w (fun x y H Q => (rI CMul (fun i j => .int (i * j)) x y H Q ∨ rRep x y H Q) ∨ rMulS x y H Q) fMul2 := by
  intro W σ as H δ μ x y vx vy Q h dx dy q
  cases x with
  | str s =>
    cases dx
    cases y with
    | int k =>
      cases dy
      have q : EOk w W σ as H (if repOk s.length k then .ok (.str (List.replicate k.toNat s).flatten) μ else .bad) Q := q
      cases e : repOk s.length k with
      | false => rw [e] at q; exact q.elim
      | true =>
        rw [e] at q
        have e' : -(2 ^ 63) ≤ k ∧ k < 2 ^ 63 ∧ s.length * k.toNat ≤ 16777216 := of_decide_eq_true e
        exact .inr ⟨s, k, rfl, rfl, e'.1, e'.2.1, e'.2.2, q _ H as Ext.refl h.rel (.str _)⟩
    | _ => exact q.elim
  | _ => exact .inl (od_mul W σ as H δ μ _ y vx vy Q h dx dy q)
theorem d_mul2 {ma mb : EM} (ha : PE X a (rdE w W ma)) (hb : PE X b (rdE w W mb)) : PE X (.BinOp a .Mult b pos) (rdE w W (mOp fMul2 ma mb)) := d_op ((op_mul.or op_rep).or op_mulS) (fun _ => od_mul2) ha hb

/-! ### names of types and classes -/
theorem d_ty {x : Str} {n : String} (hg : Gl X x) (hm : X.mg x = none) (hv : bootBuiltins x = some (.type n)) (hn : x ≠ "__name__" := by decide) (hd : (x == ("__debug__" : Str)) = false := by decide) : PE X (.Name x pos) (rdE w W (mC (.ty n))) :=
  d_c (pe_bltn hg hm hv (v := .ty n) rfl hn hd) fun _ _ _ => .ty n
theorem d_cls {x : Str} {c : Nat} (hg : Gl X x) (hm : X.mg x = some (.ref (w.ct c))) (hd : (x == ("__debug__" : Str)) = false := by decide) : PE X (.Name x pos) (rdE w W (mC (.cls c))) :=
  d_c (pe_glob hg hm (v := .ref (w.ct c)) rfl hd) fun _ _ _ => .cls c
theorem d_glS {x : Str} {l : List Nat} {y : Str} {t : Tok} (hg : Gl X x) (hm : X.mg x = some (.str y t)) (e : y.cps.toList = l) (hd : (x == ("__debug__" : Str)) = false := by decide) : PE X (.Name x pos) (rdE w W (mC (.str l))) :=
  d_c (pe_glob hg hm (v := .str y) ⟨t, rfl⟩ hd) fun _ _ _ => e ▸ .strV y
theorem d_glI {x : Str} {i : Int} {t : Tok} (hg : Gl X x) (hm : X.mg x = some (.int i t)) (hd : (x == ("__debug__" : Str)) = false := by decide) : PE X (.Name x pos) (rdE w W (mC (.int i))) :=
  d_c (pe_glob hg hm (v := .int i) ⟨t, rfl⟩ hd) fun _ _ _ => .int i
end
end DL

namespace DLK
open PySem PySem.W PySem.Calls PyProof.Rows PySem.Builtin
section
variable {prog : Program} {w : World} {A : Around} {E : Value → Shared → Prop} {s : Shared} {K : Frag} {x C L f : Addr} {h₀ : Heap} {m : Str → Option Value} {ox : Obj} {od : Option Obj} {b tb : Value}
/-- a special of object, found on an own class, called -/
theorem bound_obj {M : Model} {name : Str} {id : String} {args : List Value} {Q : Option Value → Shared → Prop} (X : K.In s.heap) (I : InstAt s.heap x ox C od) (hs : findIn K (.ref C) name = some (some (.builtin id))) (hb : bindSpecial (.builtin id) (.ref x) = pure (.builtin id, [.ref x]))
    (h : wpAny M A (call (.builtin id) (.ref x :: args)) (fun v => Q (some v)) E s) : wpAny M A (callSpecialIfBound? (.ref x) name args) Q E s := by
  have last : wpAny M A (call (.builtin id) ([.ref x] ++ args) >>= fun v => pure (some v)) Q E s := wpAny_bind (wpAny_mono h (fun v s' z => wpAny_pure z) fun _ _ z => z)
  simp only [callSpecialIfBound?, bindSpecialIfBound?]
  refine wpAny_holding (wpAny_bind (wpAny_bind (wpAny_bind (I.type.here ((looks_findIn X hs).here ?_)))))
  refine wpAny_bind (wpAny_askSetting (wpAny_ite ?_))
  simp only [hb]
  split
  · exact wpAny_bind (wpAny_pure (by exact wpAny_pure last))
  · exact wpAny_tryCatch (wpAny_bind (wpAny_pure (by exact wpAny_pure last)))
/-- x != b by the class's own __eq__ -/
theorem ne_K {Q : Value → Shared → Prop} (hu : A.units + 1 < cLine) (Fo : Fr h₀ L s.heap m) (X₀ : K.In h₀) (I : InstAt s.heap x ox C od) (hb : Looks (model prog w) s.heap (typeOf b) tb) (hn : notFirst K C tb = true)
    (hs : findIn K (.ref C) "__eq__" = some (some (.ref f))) (hne : findIn K (.ref C) "__ne__" = some (some (.builtin "object.__ne__"))) (hob : mroIn K C (.type "object") = some true) (hf : isFn K (.ref f) = true)
    (h : wpAny (model prog w) A.in1 (call (.ref f) [.ref x, b]) (fun v s' => ∃ c, v = .bool c ∧ Q (.bool (!c)) s') E s) : wpAny (model prog w) A (richCompare .NotEq (.ref x) b) Q E s := by
  have X := X₀.keeps Fo.keep
  have sub : Looks (model prog w) s.heap (isInstance (.ref x) (.type "object")) true := I.type.andThen (looks_mroIn X hob)
  have one : wpAny (model prog w) A (tryCompare (.ref x) "__ne__" b) (fun r s' => ∃ c, r = some (.bool c) ∧ Q (.bool c) s') E s := by
    unfold tryCompare
    refine wpAny_bind (bound_obj X I hne (PySem.F.cmp_object.ne.bind _) (wpAny_call (codeAny_call_builtin PySem.F.cmp_object.ne.plain PySem.F.cmpEntry_ne (check_slot PySem.F.cmpKind_ne PySem.F.cmpSplit_ne sub (PySem.F.cmpArgs_ne _ _) ?_))))
    unfold Builtin.«object.__ne__»
    refine wpAny_bind (wpAny_of_eq (a := (.ref x, [b])) (by first | rfl | (simp only [slotArgs]; rfl)) ?_)
    refine wpAny_bind (wpAny_cRoomFor hu (wpAny_bind (m := callSpecialIfBound? (.ref x) (Str.ofString "__eq__") [b]) (ifBound_K X I hs hf (wpAny_mono h (fun v s' hv => ?_) fun _ _ z => z))))
    obtain ⟨c, rfl, q⟩ := hv
    refine wpAny_bind (wpAny_truthy_bool ?_)
    first
      | exact wpAny_pure (wpAny_pure ⟨_, rfl, q⟩)
      | exact wpAny_pure ⟨_, rfl, q⟩
  unfold richCompare
  simp only [oneThing_ref]
  refine wpAny_holding (wpAny_bind (wpAny_cRoomFor (Nat.lt_of_succ_lt hu) ?_))
  rw [cmpInfo_NotEq]
  dsimp only
  refine wpAny_bind (I.type.here (wpAny_bind (hb.here ?_)))
  have fin : wpAny (model prog w) A (tryCompare (.ref x) "__ne__" b) (fun r s' => ∃ c, r = some (.bool c) ∧ Q (.bool c) s') E s := one
  split
  · rename_i q
    have e : subIn K tb (.ref C) = some false := by
      rcases Bool.or_eq_true_iff.mp hn with e | e
      · rw [beq_iff_eq.mp e] at q; simp at q
      · exact beq_iff_eq.mp e
    refine wpAny_bind ((looks_subIn X e).here ?_)
    rw [if_neg Bool.false_ne_true]
    refine wpAny_bind (wpAny_mono one (fun r s' z => ?_) fun _ _ z => z)
    obtain ⟨c, rfl, q⟩ := z
    exact wpAny_pure q
  · refine wpAny_bind (wpAny_pure ?_)
    rw [if_neg Bool.false_ne_true]
    refine wpAny_bind (wpAny_mono one (fun r s' z => ?_) fun _ _ z => z)
    obtain ⟨c, rfl, q⟩ := z
    exact wpAny_pure q
end
end DLK
namespace DL
open PySem PySem.Spec PyProof.Rows L2
variable {w : Wd}

/-! ### what a value's type is -/
def tyG (μ : List M) (d : D) : Option (String ⊕ Nat) := match objOf μ d with
  | some (c, _) => some (.inr c)
  | none => (tyD μ d).map .inl
def tv (w : Wd) : String ⊕ Nat → Value
  | .inl t => .type t
  | .inr c => .ref (w.ct c)
/-- what isinstance and comparisons ask of an own class -/
structure ClsI (K : PySem.W.Frag) (C : Addr) : Prop where
  cl : Cls K C
  ha : PySem.W.findIn K (.ref C) "__class__" = some (some (.builtin "object.__class__"))
  hn : PySem.W.specialIn K (.builtin "object.__class__") "__get__" = some (some (.builtin "getset_descriptor.__get__"))
  ht : PySem.W.takesIn K (.builtin "object.__class__") = some true
  hm : PySem.W.mroIn K C (.type "object") = some true
theorem tyG_x {as H μ v d k} (r : Rel w as H μ) (h : Den w as H v d) (e : tyG μ d = some k) (hc : ∀ c, k = .inr c → ClsI w.K (w.ct c)) : TyX w.K H v (tv w k) := by
  unfold tyG at e
  cases z : objOf μ d with
  | some p =>
    obtain ⟨c, fs⟩ := p
    rw [z] at e
    cases e
    obtain ⟨a, dx, vs, rfl, h1, _⟩ := obj_of r h z
    have C := hc c rfl
    exact .base (.ins h1 C.cl C.ha C.hn C.ht C.hm)
  | none =>
    rw [z] at e
    cases z2 : tyD μ d with
    | none => rw [z2] at e; cases e
    | some t =>
      rw [z2] at e
      cases e
      exact tyD_x r h z2
def clsD : D → Option (String ⊕ Nat)
  | .ty n => some (.inl n)
  | .cls c => some (.inr c)
  | _ => none
theorem clsD_v {as H v d k} (h : Den w as H v d) (e : clsD d = some k) : ClsV v (tv w k) := by
  cases h with
  | ty n => cases e; exact .ty n
  | cls c => cases e; exact .own _
  | _ => cases e
/-- isinstance, by a table of the answers -/
def fIsG (kk : String ⊕ Nat → String ⊕ Nat → Option Bool) (ds : List D) (μ : List M) : ER := match ds with
  | [x, .tup l] => fIsI [x, .tup l] μ
  | [x, c] => match tyG μ x, clsD c with
    | some t, some u => match kk t u with
      | some b => .ok (.bl b) μ
      | none => .bad
    | _, _ => .bad
  | _ => .bad
abbrev rIsAll (K : PySem.W.Frag) : List V → Hp → VK → Prop := fun xs H Q => rIsi K xs H Q ∨ (rIsiT K xs H Q ∨ rIsiK K xs H Q)
/-- the table tells what the written part says -/
def KkOk (w : Wd) (kk : String ⊕ Nat → String ⊕ Nat → Option Bool) : Prop := ∀ t u b, kk t u = some b → PySem.W.kitOne w.K (tv w t) (tv w u) = some b ∧ ∀ c, t = .inr c → ClsI w.K (w.ct c)
theorem cd_isG {kk : String ⊕ Nat → String ⊕ Nat → Option Bool} {K : PySem.W.Frag} (hK : w.K = K) (hk : KkOk w kk) : CallD w (rIsAll K) (fIsG kk) := by
  intro W σ as H δ μ ds vs Q h d q
  subst hK
  unfold fIsG at q
  split at q
  · rename_i x l
    unfold fIsI at q
    dsimp only at q
    cases d with
    | cons d1 t1 =>
      cases t1 with
      | cons d2 t2 =>
        cases t2
        cases z : tyD μ x with
        | none => simp only [z] at q; exact q.elim
        | some t =>
          cases z2 : tysOf l with
          | none => simp only [z, z2] at q; exact q.elim
          | some cs =>
            simp only [z, z2] at q
            cases z3 : kitAnyB t cs with
            | none => rw [z3] at q; exact q.elim
            | some b =>
              rw [z3] at q
              cases d2 with
              | tup f n hh k => exact .inr (.inl ⟨_, _, _, _, _, b, rfl, hh, tys_dens k z2, tyD_x h.rel d1 z, kitAny_of z3, q _ H as Ext.refl h.rel (.bl _)⟩)
              | tupK hh k =>
                rcases hh (fun _ => none) with z4 | ⟨o, its, n, h1, h2, h3, _, h4⟩
                · rcases z4 with z4 | ⟨o, z4⟩ <;> cases z4
                · have e3 := ClsV.all (tys_dens k z2) h4
                  obtain ⟨oc, od, dt, sl⟩ := o
                  simp only at h2 h3
                  have h5 : its = (cs.map Value.type).toArray := by rw [← e3]
                  subst h2 h3 h5
                  exact .inr (.inr ⟨_, _, _, _, _, _, _, b, rfl, h1, tyD_x h.rel d1 z, kitAny_of z3, q _ H as Ext.refl h.rel (.bl _)⟩)
  · rename_i x c _
    cases d with
    | cons d1 t1 =>
      cases t1 with
      | cons d2 t2 =>
        cases t2
        cases z : tyG μ x with
        | none => simp only [z] at q; exact q.elim
        | some t =>
          cases z2 : clsD c with
          | none => simp only [z, z2] at q; exact q.elim
          | some u =>
            simp only [z, z2] at q
            cases z3 : kk t u with
            | none => rw [z3] at q; exact q.elim
            | some b =>
              rw [z3] at q
              obtain ⟨k1, k2⟩ := hk t u b z3
              exact .inl ⟨_, _, _, _, b, rfl, clsD_v d2 z2, tyG_x h.rel d1 z k2, k1, q _ H as Ext.refl h.rel (.bl _)⟩
  · exact q.elim

/-! ### ==, != and len by the class's own words -/
section
variable {X : Cx} {E : XK} {e a b c o : Expr} {pos p apos : Pos} {k n cn : Nat} {f : Addr} {fd : FuncData} {ps : List Str} {m : FD} {W0 : Wd} {qx : Wx → Prop}
/-- the right side's type does not come first -/
def NF (w : Wd) (cn : Nat) (nf : String ⊕ Nat → Bool) : Prop := ∀ t, nf t = true → PySem.W.notFirst w.K (w.ct cn) (tv w t) = true ∧ ∀ c, t = .inr c → ClsI w.K (w.ct c)
def rOwn2 (K : PySem.W.Frag) (C : Addr) (sp : Sp) (E : XK) (neg : Bool) : R2 := fun x y H Q => ∃ a dx fs t, x = .ref a ∧ H a = some (.ins C dx fs) ∧ TyX K H y t ∧ PySem.W.notFirst K C t = true ∧ sp [x, y] H (fun v H' => ∃ b, v = .bl b ∧ Q (.bl (if neg then !b else b)) H') E
theorem kit_ty' {P : Heap → Prop} {K : PySem.W.Frag} {u t : Value} {M : Model} {h : Heap} (Z : PySem.W.KitX K u t P) (x : K.In h) (p : P h) : PySem.W.Looks M h (typeOf u) t := Z.ty M h x p
theorem own_call {sp : Sp} {A : Around} {pins : List (Addr × Obj)} {s : Shared} {σ : L2.St} {H : Hp} {x y : V} {u v : Value} {Q : VK} {C : Addr} (F : FnG X.prog X.w X.K X.mg X.base k f fd ps sp) (hr : RoomG k A) (hA : A.frames = X.A.frames) (hb : Binds X.K fd ps []) (hx : Passes (L2.CX X.prog X.w) X E)
    (I : Inv X pins σ H s) (rx : RelV x u) (ry : RelV y v) (h : sp [x, y] H Q E) : wpAny (model X.prog X.w) A (call (.ref f) [u, v]) (EP X pins σ Q) X.xe s := by
  have e := I.env0
  have hl := F.len _ _ _ _ h
  have rr : Vals [x, y] [u, v] := .cons rx (.cons ry .nil)
  have bb := hb s [u, v] I.kIn (by simpa using hl)
  refine wpAny_call (codeAny_mono (F.run A X.stack s H ⟨[u, v], []⟩ [u, v] [x, y] Q E hr ⟨by rw [hA]; exact e.frames, e.mod, e.bs, e.bsz, e.funs, e.frf, e.hok, e.bare⟩ (by simpa using bb) rr h) fun r s' hq => ?_)
  cases r with
  | error er => exact hx pins σ H s er s' I hq
  | ok fl =>
    cases fl with
    | ret _ => exact I.after hq
    | next => exact hq.elim
    | brk => exact hq.elim
    | cont => exact hq.elim
theorem op_own {sp : Sp} {C : Addr} (F : FnG X.prog X.w X.K X.mg X.base k f fd ps sp) (hr : RoomG k X.A) (hb : Binds X.K fd ps []) (hx : Passes (L2.CX X.prog X.w) X E) (hs : PySem.W.findIn X.K (.ref C) "__eq__" = some (some (.ref f))) (hf : PySem.W.isFn X.K (.ref f) = true) :
    OpR X (compareOp .Eq) (rOwn2 X.K C sp E false) := by
  intro pins s σ H x y u v Q I rx ry ⟨a, dx, fs, t, ex, ha, ty, nf, hsp⟩
  subst ex
  obtain rfl : u = Value.ref a := rx
  obtain ⟨mA, J, _⟩ := ins_get I.hok ha
  obtain ⟨od, J, _⟩ := J.look
  obtain ⟨P, Z, pz, _⟩ := kit_of I ry ty
  obtain ⟨mm, hF⟩ := I.fr
  show wpAny (model X.prog X.w) X.A (richCompare .Eq (.ref a) v) _ _ _
  refine PySem.W.cmp_K (op := .Eq) (tb := t) hr.units0 hF I.ok.mod.kin J (kit_ty' Z I.kIn pz) nf hs hf ?_
  refine wpAny_mono (own_call (C := C) (x := .ref a) (u := .ref a) F hr rfl hb hx I rfl ry hsp) (fun r s' q => ?_) fun _ _ z => z
  obtain ⟨vv, H', I', rv, b, eb, q⟩ := q
  subst eb
  cases rv
  exact ⟨.bl b, H', I', rfl, q⟩
theorem op_ownN {sp : Sp} {C : Addr} (F : FnG X.prog X.w X.K X.mg X.base k f fd ps sp) (hr : RoomG (k + 1) X.A) (hb : Binds X.K fd ps []) (hx : Passes (L2.CX X.prog X.w) X E) (hs : PySem.W.findIn X.K (.ref C) "__eq__" = some (some (.ref f))) (hf : PySem.W.isFn X.K (.ref f) = true)
    (hne : PySem.W.findIn X.K (.ref C) "__ne__" = some (some (.builtin "object.__ne__"))) (hob : PySem.W.mroIn X.K C (.type "object") = some true) : OpR X (compareOp .NotEq) (rOwn2 X.K C sp E true) := by
  intro pins s σ H x y u v Q I rx ry ⟨a, dx, fs, t, ex, ha, ty, nf, hsp⟩
  subst ex
  obtain rfl : u = Value.ref a := rx
  obtain ⟨mA, J, _⟩ := ins_get I.hok ha
  obtain ⟨od, J, _⟩ := J.look
  obtain ⟨P, Z, pz, _⟩ := kit_of I ry ty
  obtain ⟨mm, hF⟩ := I.fr
  show wpAny (model X.prog X.w) X.A (richCompare .NotEq (.ref a) v) _ _ _
  refine DLK.ne_K (by have := hr.un; omega) hF I.ok.mod.kin J (kit_ty' Z I.kIn pz) nf hs hne hob hf ?_
  refine wpAny_mono (own_call (C := C) (x := .ref a) (u := .ref a) F hr.in1 rfl hb hx I rfl ry hsp) (fun r s' q => ?_) fun _ _ z => z
  obtain ⟨vv, H', I', rv, b, eb, q⟩ := q
  subst eb
  cases rv
  exact ⟨b, rfl, .bl (!b), H', I', rfl, q⟩
def fOwn (cn : Nat) (nf : String ⊕ Nat → Bool) (m : FD) (neg : Bool) (x y : D) (μ : List M) : ER := match objOf μ x with
  | some (c, _) => if c = cn then match tyG μ y with
    | some t => if nf t then (m [x, y] μ).bind fun r μ => match r with
      | .bl b => .ok (.bl (if neg then !b else b)) μ
      | _ => .bad
      else .bad
    | none => .bad
    else .bad
  | none => .bad
theorem od_own {neg : Bool} {nf : String ⊕ Nat → Bool} {K : PySem.W.Frag} {fr : List Addr} (hq : qx w.x) (hK : w.K = W0.K) (hc : w.ct = W0.ct) (hKK : w.K = K) (hn : NF w cn nf) {σ as H δ μ x y vx vy Q} (h : Here (w.on fr) as H σ δ μ) (dx : Den (w.on fr) as H vx x) (dy : Den (w.on fr) as H vy y) (q : EOk (w.on fr) (WV E) σ as H (fOwn cn nf (fAr n m) neg x y μ) Q) :
    rOwn2 K (w.ct cn) (SpD W0 qx n m) E neg vx vy H Q := by
  subst hKK
  unfold fOwn at q
  cases z : objOf μ x with
  | none => simp only [z] at q; exact q.elim
  | some pp =>
    obtain ⟨c, fs⟩ := pp
    simp only [z] at q
    by_cases ec : c = cn
    · rw [if_pos ec] at q
      subst ec
      cases z2 : tyG μ y with
      | none => simp only [z2] at q; exact q.elim
      | some t =>
        simp only [z2] at q
        cases z3 : nf t with
        | false => simp only [z3] at q; exact q.elim
        | true =>
          simp only [z3, if_true] at q
          obtain ⟨a, dxx, vs, rfl, h1, _⟩ := obj_of h.rel dx z
          obtain ⟨n1, n2⟩ := hn t z3
          refine ⟨a, dxx, vs, _, rfl, h1, (tyG_x (w := w.on fr) h.rel dy z2 n2), n1, sp_okA hq (σ := σ) (δ := δ) h (.cons dx (.cons dy .nil)) ?_ hK hc⟩
          revert q
          cases fAr n m [x, y] μ with
          | bad => exact fun q => q
          | exc c fs μ1 => exact fun q => q
          | ok r μ1 =>
            intro q v H' as' e' r' d'
            cases d' with
            | bl bb => exact ⟨bb, rfl, q _ H' as' e' r' (.bl _)⟩
            | _ => exact q.elim
    · rw [if_neg ec] at q; exact q.elim
theorem d_eqO {nf : String ⊕ Nat → Bool} {ma mb : EM} (hq : qx w.x) (F : FnG X.prog X.w X.K X.mg X.base k f fd ps (SpD W0 qx n m)) (hr : RoomG k X.A) (hb : Binds X.K fd ps []) (tk : Takes X (WV E)) (hs : PySem.W.findIn X.K (.ref (w.ct cn)) "__eq__" = some (some (.ref f))) (hf : PySem.W.isFn X.K (.ref f) = true) (hn : NF w cn nf)
    (ha : PE X a (rdE w (WV E) ma)) (hbb : PE X b (rdE w (WV E) mb)) (hK : w.K = W0.K) (hc : w.ct = W0.ct) (hKK : w.K = X.K := by rfl) : PE X (.Compare a [.Eq] [b] pos) (rdE w (WV E) (mOp (fOwn cn nf (fAr n m) false) ma mb)) :=
  PE.to (pe_cmpR (op_own (C := w.ct cn) F hr hb (passes_call (W := WV E) tk fun _ _ _ _ h => h) hs hf) ha hbb (nomark _)) fun σ H Q ⟨fr, as, δ, μ, h, q⟩ => bE2 h q fun as H μ x y vx vy h dx dy q => od_own hq hK hc hKK hn h dx dy q
theorem d_neO {nf : String ⊕ Nat → Bool} {ma mb : EM} (hq : qx w.x) (F : FnG X.prog X.w X.K X.mg X.base k f fd ps (SpD W0 qx n m)) (hr : RoomG (k + 1) X.A) (hb : Binds X.K fd ps []) (tk : Takes X (WV E)) (hs : PySem.W.findIn X.K (.ref (w.ct cn)) "__eq__" = some (some (.ref f))) (hf : PySem.W.isFn X.K (.ref f) = true)
    (hne : PySem.W.findIn X.K (.ref (w.ct cn)) "__ne__" = some (some (.builtin "object.__ne__"))) (hob : PySem.W.mroIn X.K (w.ct cn) (.type "object") = some true) (hn : NF w cn nf)
    (ha : PE X a (rdE w (WV E) ma)) (hbb : PE X b (rdE w (WV E) mb)) (hK : w.K = W0.K) (hc : w.ct = W0.ct) (hKK : w.K = X.K := by rfl) : PE X (.Compare a [.NotEq] [b] pos) (rdE w (WV E) (mOp (fOwn cn nf (fAr n m) true) ma mb)) :=
  PE.to (pe_cmpR (op_ownN (C := w.ct cn) F hr hb (passes_call (W := WV E) tk fun _ _ _ _ h => h) hs hf hne hob) ha hbb (nomark _)) fun σ H Q ⟨fr, as, δ, μ, h, q⟩ => bE2 h q fun as H μ x y vx vy h dx dy q => od_own hq hK hc hKK hn h dx dy q

/-! len(o) by __len__ -/
def rLenO (C : Addr) (sp : Sp) (E : XK) : List V → Hp → VK → Prop := fun xs H Q => ∃ a dx fs, xs = [.ref a] ∧ H a = some (.ins C dx fs) ∧ sp [.ref a] H (fun v H' => ∃ i : Int, v = .int i ∧ 0 ≤ i ∧ i < 2 ^ 63 ∧ Q (.int i) H') E
theorem call_lenO {sp : Sp} {C : Addr} (F : FnG X.prog X.w X.K X.mg X.base k f fd ps sp) (hr : RoomG (k + 1) X.A) (hb : Binds X.K fd ps []) (hx : Passes (L2.CX X.prog X.w) X E) (hs : PySem.W.findIn X.K (.ref C) "__len__" = some (some (.ref f))) (hf : PySem.W.isFn X.K (.ref f) = true) : CallR X (.builtin "len") (rLenO C sp E) := by
  intro pins s σ H xs us Q I r ⟨a, dx, fs, ex, ha, hsp⟩
  subst ex
  cases r with
  | cons rx rr =>
    cases rr
    cases rx
    obtain ⟨mA, J, _⟩ := ins_get I.hok ha
    obtain ⟨od, J, _⟩ := J.look
    obtain ⟨mm, hF⟩ := I.fr
    refine PySem.W.len_K hF I.ok.mod.kin J hs hf ?_
    have e := I.env0
    have hl := F.len _ _ _ _ hsp
    have bb := hb s [.ref a] I.kIn (by simpa using hl)
    refine wpAny_call (codeAny_mono (F.run X.A.in1 X.stack s H ⟨[.ref a], []⟩ [.ref a] [.ref a] _ E hr.in1 ⟨e.frames, e.mod, e.bs, e.bsz, e.funs, e.frf, e.hok, e.bare⟩ (by simpa using bb) (.cons rfl .nil) hsp) fun r s' hq => ?_)
    cases r with
    | error er => exact hx pins σ H s er s' I hq
    | ok fl =>
      cases fl with
      | ret _ =>
        obtain ⟨vv, H', I', rv, i, ei, h0, h1, q⟩ := I.after hq
        subst ei
        obtain ⟨t, rfl⟩ := rv
        exact ⟨⟨h0, h1⟩, .int i, H', I'.tok _, ⟨_, rfl⟩, q⟩
      | next => exact hq.elim
      | brk => exact hq.elim
      | cont => exact hq.elim
def fLenO (cn : Nat) (m : FD) (x : D) (μ : List M) : ER := match objOf μ x with
  | some (c, _) => if c = cn then (m [x] μ).bind fun r μ => match r with
    | .int i => if decide (0 ≤ i ∧ i < 2 ^ 63) then .ok (.int i) μ else .bad
    | _ => .bad
    else .bad
  | none => .bad
def fLenO1 (cn : Nat) (m : FD) (ds : List D) (μ : List M) : ER := match ds with
  | [x] => fLenO cn m x μ
  | _ => .bad
def mLenO (cn : Nat) (m : FD) (mo : EM) : EM := fun δ μ => (mo δ μ).bind fun x μ => fLenO cn m x μ
theorem lenO_ok {fr as H σ δ μ} {x : D} {v : V} {Q : VK} (hq : qx w.x) (h : Here (w.on fr) as H σ δ μ) (dx : Den (w.on fr) as H v x) (q : EOk (w.on fr) (WV E) σ as H (fLenO cn (fAr n m) x μ) Q) (hK : w.K = W0.K) (hc : w.ct = W0.ct) : rLenO (w.ct cn) (SpD W0 qx n m) E [v] H Q := by
  unfold fLenO at q
  cases z : objOf μ x with
  | none => simp only [z] at q; exact q.elim
  | some pp =>
    obtain ⟨c, fs⟩ := pp
    simp only [z] at q
    by_cases ec : c = cn
    · rw [if_pos ec] at q
      subst ec
      obtain ⟨a, dxx, vs, rfl, h2, _⟩ := obj_of h.rel dx z
      refine ⟨a, dxx, vs, rfl, h2, sp_okA hq (σ := σ) (δ := δ) h (.cons dx .nil) ?_ hK hc⟩
      revert q
      cases fAr n m [x] μ with
      | bad => exact fun q => q
      | exc c fs μ1 => exact fun q => q
      | ok r μ2 =>
        intro q v H' as' e' r' d'
        cases d' with
        | int i =>
          have q : EOk (w.on fr) (WV E) σ as H (if decide (0 ≤ i ∧ i < 2 ^ 63) then .ok (.int i) μ2 else .bad) Q := q
          cases z2 : decide (0 ≤ i ∧ i < 2 ^ 63) with
          | false => rw [z2] at q; exact q.elim
          | true =>
            rw [z2] at q
            have z3 : 0 ≤ i ∧ i < 2 ^ 63 := of_decide_eq_true z2
            exact ⟨i, rfl, z3.1, z3.2, q _ H' as' e' r' (.int i)⟩
        | _ => exact q.elim
    · rw [if_neg ec] at q; exact q.elim
theorem d_lenO {mo : EM} (hq : qx w.x) (F : FnG X.prog X.w X.K X.mg X.base k f fd ps (SpD W0 qx n m)) (hr : RoomG (k + 1) X.A) (hb : Binds X.K fd ps []) (tk : Takes X (WV E)) (hs : PySem.W.findIn X.K (.ref (w.ct cn)) "__len__" = some (some (.ref f))) (hf : PySem.W.isFn X.K (.ref f) = true)
    (hg : Gl X "len") (hm : X.mg "len" = none) (ha : PE X e (rdE w (WV E) mo)) (hK : w.K = W0.K) (hc : w.ct = W0.ct) (hst : starEach [e] X.env = (false, eval e X.env) :: starEach [] X.env := by rfl) (hpl : (backTo pos (starEach [] X.env)).any (·.1) = false := by rfl) :
    PE X (.Call (.Name "len" p) [e] [] pos) (rdE w (WV E) (mLenO cn (fAr n m) mo)) :=
  PE.to (pe_callB (call_lenO (C := w.ct cn) F hr hb (passes_call (W := WV E) tk fun _ _ _ _ h => h) hs hf) hg hm PySem.boot_len (a_cons (w := w) (W := WV E) ha a_nil hst) (by decide) (by decide) hst hpl) fun σ H Q ⟨fr, as, δ, μ, h, q⟩ => by
    have q0 : EOk (w.on fr) (WV E) σ as H ((mCons mo mNil δ μ).bindE fun ds μ => fLenO1 cn (fAr n m) ds μ) Q := by
      have q1 : EOk (w.on fr) (WV E) σ as H ((mo δ μ).bind fun x μ => fLenO cn (fAr n m) x μ) Q := q
      unfold mCons
      revert q1
      cases mo δ μ with
      | bad => exact fun q => q
      | exc c fs μ1 => exact fun q => q
      | ok d μ1 => exact fun q => q
    refine bAE h q0 fun vs H1 as1 ds μ1 h1 d1 q1 => ?_
    match ds, d1, q1 with
    | [], _, q1 => exact q1.elim
    | _ :: _ :: _, _, q1 => exact q1.elim
    | [x], .cons dx .nil, q1 => exact lenO_ok hq h1 dx q1 hK hc
end
end DL

/-! An own exception class over others of its kind and ValueError, its __init__: super().__init__(v); self.f = v. -/
namespace DSX
open PySem PySem.W PySem.Calls PyProof.Rows PySem.HandSPX
/-! ### the text of such an __init__ -/
def sA (f : Str) (p1 p2 : Pos) : Arguments := { posonlyargs := [], args := [{ arg := "self", annotation := none, pos := p1 }, { arg := f, annotation := none, pos := p2 }], vararg := none, kwonlyargs := [], kw_defaults := [], kwarg := none, defaults := [] }
def sE (f : Str) (p0 p1 p2 q1 p3 p4 : Pos) : Stmt := .Expr (.Call (.Attribute (.Call (.Name "super" p0) [] [] p1) "__init__" p2) [.Name f q1] [] p3) p4
def sF (f : Str) (r1 r2 r3 r4 : Pos) : Stmt := .Assign [.Attribute (.Name "self" r1) f r2] (.Name f r3) r4
/-- what the written part says of the class at C -/
structure SupC (K : Frag) (C fI : Addr) (f : Str) (file : Str) : Prop where
  cls : ∃ nm q N bs bm sn sub ab col dd k0 k1 k2 k3 k5, K.lookup C = some (excClassObj nm q C N bs bm true sn sub ab col dd k0 k1 k2 k3 k5 "ValueError.__new__") ∧ refsVE bm = true
  sa : findIn K (.ref C) "__setattr__" = some (some (.builtin "object.__setattr__"))
  noN : findIn K (.ref C) f = some none
  iC : findIn K (.ref C) "__init__" = some (some (.ref fI))
  tC : typeIn K (.ref fI) = some (.type "function")
  kC : keepIn K (.ref C) = true
  exC : subIn K (.ref C) (.type "BaseException") = some true
  exV : subIn K (.ref C) (.type "ValueError") = some true
  tyC : typeIn K (.ref C) = some (.type "type")
  mC : mroIn K C (.ref C) = some true
  sup : nsIn K mainGlobals "super" = some none
  op : nsIn K cStatics "thirdparty.any" = some none
  si : ks_superIn K C C "__init__" = some (some (.builtin "ValueError.__init__"))
  fn : ∃ (oc : Value) (od : Option Addr) (qual : Str) (sc : Scope) (doc pm : Value) (an : Option Addr) (cda cc : Addr) (ct : Value) (osl : Array (Option Value)) (p1 p2 a0 a1 a2 a3 a4 a5 r1 r2 r3 r4 : Pos),
    K.lookup fI = some ⟨oc, od, .func (ksFn "__init__" qual (sA f p1 p2) [sE f a0 a1 a2 a3 a4 a5, sF f r1 r2 r3 r4] sc .none .none doc pm an (.ref cda) ct cc), osl⟩ ∧ codeIn K (.ref cda) qual = true ∧
      sc = { kind := .function, names := sc.names, isGenerator := false, isCoroutine := false, more := sc.more } ∧ sc.names.lookup ("self" : Str) = some .local ∧ sc.names.lookup f = some .local ∧ sc.names.lookup ("super" : Str) = some .globalImplicit ∧ sc.names.lookup ("__class__" : Str) = some .free ∧ (∀ y ∈ sc.names, y.2 ≠ .cell) ∧ (a2.endLine == a4.line) = true ∧
      (∀ a b : Value, bindArgs (ksFn "__init__" qual (sA f p1 p2) [sE f a0 a1 a2 a3 a4 a5, sF f r1 r2 r3 r4] sc .none .none doc pm an (.ref cda) ct cc) ⟨[a, b], []⟩ = pure ([(("self" : Str), a), (f, b)] : List (Str × Value))) ∧
      (∃ ccl cdd vs ccs tf, K.lookup cda = some ⟨ccl, cdd, .fields vs, ccs⟩ ∧ vs[2]? = some (.str file tf)) ∧ ∃ cl cld csl, K.lookup cc = some ⟨cl, cld, .cell (some (.ref C)), csl⟩
theorem one_len (v : Value) : [v].length ≤ sizeLine := by
  rw [sizeLine_eq]
  show 1 ≤ 16777216
  decide
section
variable {prog : Program} {w : World} {A : Around} {E : Value → Shared → Prop} {h : Heap} {g : Array GenState} {d : Drawn} {t : Nat} {os : OsState} {K : Frag} {C fI : Addr} {f file : Str}
/-- ValueError.__init__ bound to the new exception is called -/
theorem call_wr {nm q : Str} {N u e t0 : Addr} {bs bm : List Value} {hdct : Bool} {sn : List Str} {sub : List Value} {ab : Bool} {col : Option Bool} {dd : Option Addr} {k0 k1 k2 k3 k5 : Option Value} {rest : List Value} {Q : Value → Shared → Prop}
    (hC : h.get? C = some (excClassObj nm q C N bs bm hdct sn sub ab col dd k0 k1 k2 k3 k5 "ValueError.__new__")) (he : h.get? e = some (excO C t0)) (hu : h.get? u = some (kxs_mw "ValueError.__init__" e)) (hr : rest.length ≤ sizeLine)
    (hq : ∀ h' t1, (∀ b o, b ≠ e → h.get? b = some o → h'.get? b = some o) → h'.get? e = some (excO C t1) → Q .none ⟨h', g, d, t, os⟩) : wpAny (model prog w) A (call (.ref u) rest) Q E ⟨h, g, d, t, os⟩ := by
  refine wpAny_call (codeAny_of_tree ?_)
  show wpAny _ A.in1 (callAny (.ref u) ⟨rest, []⟩) _ _ _
  simp only [callAny]
  refine wpAny_bind (wpAny_load hu ?_)
  have e1 : (Value.type "method-wrapper" == Value.type "method" || Value.type "method-wrapper" == Value.type "builtin_function_or_method" || Value.type "method-wrapper" == Value.type "method-wrapper") = true := by decide
  simp only [kxs_mw, e1, if_true]
  refine KFB.if_so (by decide) (wpAny_bind (check_bound_init F.excBase_ValueError.toExcCallFacts hC he rfl (wpAny_bind (wpAny_pure (wpAny_pure ?_)))))
  refine ⟨plainId_quiet F.excBase_ValueError.init.plain _, codeAny_builtin F.excBase_ValueError.initEntry ?_⟩
  exact exc_init_tree (cls := .ref C) (t0 := t0) (dv := none) (c2 := .none) (c3 := .none) (b4 := .bool false) he hr fun h' k e' _ => hq h' _ k e'
/-- o.name(x) with the name on the call's line -/
theorem meth_form {env : Env} {o : Expr} {name f : Str} {apos pos q1 : Pos} (hl : (apos.endLine == pos.line) = true) : eval (.Call (.Attribute o name apos) [.Name f q1] [] pos) env = (do
      let ov ← attributeBase o name env (eval o env)
      standAt apos.atName
      let (f', first) ← holding [ov] (getMethod ov name (do return (← importBound o env).getD true))
      callWith pos f' first (backTo pos (starEach [.Name f q1] env)) []) := by
  have e1 : methodCallForm 1 (backTo pos (starEach [.Name f q1] env)) [] = true := rfl
  show (do
    let ov ← attributeBase o name env (eval o env)
    standAt apos.atName
    methodCall o name apos pos env ov 1 (backTo pos (starEach [.Name f q1] env)) []) = _
  unfold methodCall methodCallPos calleeOf
  simp only [e1, hl, Bool.not_true, Bool.false_or, if_true, pure_bind]
/-- what __init__ leaves of the new exception at x -/
structure After (h h' : Heap) (x C dx t1 : Addr) (f : Str) (v : Value) : Prop where
  keep : ∀ b o, b ≠ x → h.get? b = some o → h'.get? b = some o
  obj : h'.get? x = some { cls := .ref C, dict := some dx, data := .fields #[.ref t1, .none, .none, .none, .bool false, .none] }
  big : h.objs.size ≤ dx
  ne : dx ≠ x
  ns : h'.Ns1 dx (fun y => if y = f then some v else none)
theorem init_run {mg : Str → Option Value} {base : Heap} {R : Result → Shared → Prop} {x t0 : Addr} {v : Value} (T : SupC K C fI f file) (X : K.In h) (md : L2.Mod K mg base) (kb : ∀ b o, base.get? b = some o → h.get? b = some o) (hx : h.get? x = some (excO C t0)) (hnK : K.lookup x = none) (hroom : A.depth < recursionLimit)
    (hfile : ((prog.main.file : Str) == file) = true) (htop : (prog.main.scope.names.lookup ("super" : Str)).isSome = false) (hfs : f ≠ "self") (hfd : (f == ("__debug__" : Str)) = false)
    (hq : ∀ h' tk dx t1, After h h' x C dx t1 f v → R (.ok (.ret .none)) ⟨h', g, d, tk, os⟩) :
    codeAny (model prog w) A (.call (.ref fI) ⟨[.ref x, v], []⟩) R ⟨h, g, d, t, os⟩ := by
  obtain ⟨nm, q, N, bs, bm, sn, sub, ab, col, dd, k0, k1, k2, k3, k5, hC, hbm⟩ := T.cls
  have hcl : clsIn K C = some { name := nm, bases := bs, mro := .ref C :: bm, ns := N, qualname := q, hasDict := true, slotNames := sn, subclasses := sub, abstract := ab, collection := col, hasDel := false } := by unfold clsIn; rw [hC] <;> rfl
  obtain ⟨oc, od, qual, sc, doc, pm, an, cda, cc, ct, osl, p1, p2, a0, a1, a2, a3, a4, a5, r1, r2, r3, r4, hfn, hcd, hsc, n1, n2, n3, n4, ncell, hline, hbind, ⟨ccl, cdd, vs, ccs, tf, hcda, hvs⟩, cl, cld, csl, hcc⟩ := T.fn
  obtain ⟨kd, names, ig, ic, more⟩ := sc
  simp only [Scope.mk.injEq, true_and, and_true] at hsc
  obtain ⟨rfl, rfl, rfl⟩ := hsc
  have hnx : x ≠ C := fun z => by
    rw [z, X _ _ hC] at hx
    cases hx
  refine ks_codeAny_call_defAt (binds := [("self", .ref x), (f, v)]) hroom (X _ _ hfn) rfl ((md.nolimit).keeps kb) (codeRec_of X hcd) rfl (BindsTo.of_eq (hbind _ _)) ncell ?_ (fun h₁ hns k => ?_) rfl rfl rfl
  · intro y hy
    rcases List.mem_cons.mp hy with e | hy
    · rw [e]; exact n1
    · rcases List.mem_cons.mp hy with e | hy
      · rw [e]; exact n2
      · cases hy
  have X₁ : K.In h₁ := X.keeps k
  have mself : ∀ (h' : Heap), (∀ b o, h₁.get? b = some o → h'.get? b = some o) → h'.Ns h.objs.size (fun y => ([("self", Value.ref x), (f, v)] : List (Str × Value)).reverse.lookup y) := fun h' k' => hns.keeps k'
  have lself : ([("self", Value.ref x), (f, v)] : List (Str × Value)).reverse.lookup ("self" : Str) = some (.ref x) := by
    have e : (("self" : Str) == f) = false := by simpa using Ne.symm hfs
    simp [List.lookup, e]
  have lf : ([("self", Value.ref x), (f, v)] : List (Str × Value)).reverse.lookup f = some v := by simp [List.lookup]
  refine ks_wpAt_execs_cons (ks_wpAt_Expr_any (ks_wpAt_MethodCall ?_ (meth_form hline)))
  obtain ⟨mb, hb1, hb2⟩ := md.blt
  -- super()
  have kb1 : ∀ b o, base.get? b = some o → h₁.get? b = some o := fun b o e => k b o (kb b o e)
  have hx₁ := k _ _ hx
  refine ks_wpAt_super_base n3 n4 (by decide) rfl (X₁ _ _ hfn) rfl rfl rfl (X₁ _ _ hcda) rfl hvs hfile htop ?_
  refine ks_loadName_global rfl n3 (loadGlobal_builtin (md.glob.keeps kb1) ?_ (hb1.keeps kb1) ((hb2 _ (by decide)).trans rfl) ⟨rfl, ?_⟩)
  · exact mg_none_of (X.keeps fun _ _ e => e) (md.glob.keeps kb) T.sup
  refine wpAny_loadName_free rfl n4 rfl ⟨_, X₁ _ _ hcc, rfl⟩ ?_
  refine wpAny_loadName_local rfl n1 hns lself ?_
  refine ks_wpAny_isType_cls (X₁ _ _ hC) rfl ⟨rfl, ?_⟩
  refine ks_wpAny_call_super (X₁ _ _ hC) rfl hx₁ rfl (fun c e => by cases e) (looks_mroIn X₁ T.mC) (fun h2 e2 k2 => ?_)
  -- its __init__
  have X₂ : K.In h2 := X₁.keeps k2
  have J₂ : InstAt h2 x (excO C t0) C none := ⟨k2 _ _ hx₁, rfl, rfl, trivial⟩
  have hsi : alongIn K "__init__" ((((Value.ref C) :: bm).dropWhile (· != .ref C)).drop 1) = some (some (.builtin "ValueError.__init__")) := by
    have z := T.si
    unfold ks_superIn at z
    rw [hcl] at z
    exact z
  refine kxs_getMethod kxs_ValueError (l₀ := .ref C :: bm) e2 (looks_opaque X₂ T.op) ?_ rfl X₂ hsi (J₂.type.andThen (looks_subIn X₂ T.exV)) hnx (by decide) ?_
  · exact fun A Q E s k q => wpAny_bind ((looks_clsIn X₂ hcl) A _ E s k (wpAny_pure q))
  -- the call
  have k3 : ∀ b o, h2.get? b = some o → (h2.push (kxs_mw "ValueError.__init__" x)).get? b = some o := fun b o e => Heap.get?_push_of_some _ e
  have k13 : ∀ b o, h₁.get? b = some o → (h2.push (kxs_mw "ValueError.__init__" x)).get? b = some o := fun b o e => k3 b o (k2 b o e)
  have hw : (h2.push (kxs_mw "ValueError.__init__" x)).get? h2.objs.size = some (kxs_mw "ValueError.__init__" x) := Heap.get?_push_size _ rfl
  refine kxs_callWith (x := x) (i := "ValueError.__init__") rfl (evalArgs_plain ?_)
  refine spliced_cons (wpAny_Name (wpAny_loadName_local rfl n2 (hns.keeps k13) lf ?_) hfd)
  refine spliced_nil ⟨hw, ?_⟩
  refine call_wr (X₂.keeps k3 _ _ hC) (k3 _ _ J₂.at_) hw (one_len v) fun h4 t1 k4 e4 => ?_
  -- self.f = f
  refine ks_wpAt_execs_cons (ks_wpAt_Assign_Attr ?_)
  have xL : h.objs.size ≠ x := Nat.ne_of_gt (Heap.lt_size hx)
  have hn4 : h4.Ns h.objs.size (fun y => ([("self", Value.ref x), (f, v)] : List (Str × Value)).reverse.lookup y) := by
    obtain ⟨o, es, ep, ho, r⟩ := hns.keeps k13
    exact ⟨o, es, ep, k4 _ _ xL ho, r⟩
  refine wpAt_of_wpAny (wpAny_Name (wpAny_loadName_local rfl n2 hn4 lf ?_) hfd)
  refine wpAny_Name (wpAny_loadName_local rfl n1 hn4 lself ?_) (by decide)
  have X4 : K.In h4 := fun b o e => k4 b o (fun z => by
    rw [z, hnK] at e
    cases e) (k13 _ _ (X₁ b o e))
  refine set_plain X4 (ox := excO C t1) (od := none) ⟨e4, rfl, rfl, trivial⟩ T.sa ?_
  refine exc_osa X4 e4 hcl (show refsVE (.ref C :: bm) = true from hbm) rfl T.noN (fun h5 tk5 dx k5 dn dne hx5 hn5 => ?_)
  refine wpAt_of_wpAny (wpAny_execs_nil ?_)
  exact hq h5 tk5 dx t1 ⟨fun b o hb e => k5 b o hb (k4 b o hb (k13 b o (k b o e))), hx5, Nat.le_of_lt (Nat.lt_of_lt_of_le hn4.lt dn), dne, hn5⟩
/-- a made one -/
structure Made (h h' : Heap) (e C d : Addr) (f : Str) (v : Value) : Prop where
  keep : ∀ b o, h.get? b = some o → h'.get? b = some o
  new : h.objs.size ≤ e
  obj : ∃ oe vs, h'.get? e = some oe ∧ oe.cls = .ref C ∧ oe.dict = some d ∧ oe.data = .fields vs ∧ vs[1]? = some .none
  big : h.objs.size ≤ d
  ne : d ≠ e
  ns : h'.Ns1 d (fun y => if y = f then some v else none)
theorem made_run {mg : Str → Option Value} {base : Heap} {R : Result → Shared → Prop} {v : Value} (T : SupC K C fI f file) (X : K.In h) (md : L2.Mod K mg base) (kb : ∀ b o, base.get? b = some o → h.get? b = some o) (hroom : A.depth + 1 < recursionLimit)
    (hfile : ((prog.main.file : Str) == file) = true) (htop : (prog.main.scope.names.lookup ("super" : Str)).isSome = false) (hfs : f ≠ "self") (hfd : (f == ("__debug__" : Str)) = false)
    (hq : ∀ h' tk e dx, Made h h' e C dx f v → R (.ok (.ret (.ref e))) ⟨h', g, d, tk, os⟩) :
    codeAny (model prog w) A (.call (.ref C) ⟨[v], []⟩) R ⟨h, g, d, t, os⟩ := by
  obtain ⟨nm, q, N, bs, bm, sn, sub, ab, col, dd, k0, k1, k2, k3, k5, hC, hbm⟩ := T.cls
  have k : ∀ b o, h.get? b = some o → ((h.push (kdv_tup [v])).push (excO C h.objs.size)).get? b = some o := fun b o e => Heap.get?_push_of_some _ (Heap.get?_push_of_some _ e)
  have hget : ((h.push (kdv_tup [v])).push (excO C h.objs.size)).get? (h.objs.size + 1) = some (excO C h.objs.size) := by heap_get
  have hnK : K.lookup (h.objs.size + 1) = none := by
    cases e : K.lookup (h.objs.size + 1) with
    | none => rfl
    | some o => exact absurd (Nat.lt_of_succ_lt (Heap.lt_size (X _ _ e))) (Nat.lt_irrefl _)
  refine call_own F.excBase_ValueError (fun Y => refsVE_contains Y bm hbm) (X _ _ hC) (looks_findIn X T.iC) (fun self => bind_fn X self T.tC) (one_len v) ?_
  refine init_run T (X.keeps k) md (fun b o e => k b o (kb b o e)) hget hnK (by show A.depth + 1 < recursionLimit; exact hroom) hfile htop hfs hfd fun h' tk' dx t1 B => ?_
  have old : ∀ b o, h.get? b = some o → h'.get? b = some o := fun b o e => B.keep b o (Nat.ne_of_lt (Nat.lt_succ_of_lt (Heap.lt_size e))) (k b o e)
  have z : h.objs.size ≤ dx := by
    have q := B.big
    rw [Heap.size_push, Heap.size_push] at q
    omega
  exact ⟨rfl, hq h' tk' (h.objs.size + 1) dx ⟨old, Nat.le_succ _, ⟨_, _, B.obj, rfl, rfl, rfl, rfl⟩, z, B.ne, B.ns⟩⟩
end
end DSX
namespace DL
open PySem PySem.Spec PyProof.Rows L2
variable {w : Wd}
theorem relO_one {f y : Str} {v : V} {u : Value} (r : RelV v u) : RelO (List.lookup y [(f, v)]) (if y = f then some u else none) := by
  by_cases e : y = f
  · rw [if_pos e, e]
    have q : List.lookup f [(f, v)] = some v := by simp [List.lookup]
    rw [q]
    exact r
  · rw [if_neg e]
    have z : (y == f) = false := by simpa using e
    have q : List.lookup y [(f, v)] = none := by simp [List.lookup, z]
    rw [q]
    trivial
section
variable {X : Cx} {C fI : Addr} {f file x : Str} {a : Expr} {ta : TA} {p pos : Pos} {k : Nat}
/-- the program's text around an own exception class -/
structure PrOk (P : Program) (file : Str) : Prop where
  fl : ((P.main.file : Str) == file) = true
  top : (P.main.scope.names.lookup ("super" : Str)).isSome = false
def tMkS (C : Addr) (f : Str) (ta : TA) : L2.St → Hp → XK → Prop := fun σ H Q => ta σ H fun vs H1 => ∃ v, vs = [v] ∧ ∀ d, H1 d = none → Q (.ref C) (some d) (upd H1 d (.xd [(f, v)]))
theorem pmk_sup (T : DSX.SupC X.K C fI f file) (gC : X.mg x = some (.ref C)) (pr : PrOk X.prog file) (hfs : f ≠ "self") (hfd : (f == ("__debug__" : Str)) = false) (hr : Room k X.A) (ha : PA X [a] ta) (hg : Gl X x) (hxd : (x == ("__debug__" : Str)) = false := by decide)
    (he : starEach (a :: []) X.env = (false, eval a X.env) :: starEach [] X.env := by rfl) (hpl : (backTo pos (starEach [] X.env)).any (·.1) = false := by rfl) : PMk X (.Call (.Name x p) [a] [] pos) (tMkS C f ta) := by
  intro pins s σ H Q I h
  refine wpAny_Call_Name_kw (ld_glob I hg gC ?_ hxd)
  refine PySem.W.callWith_K (h₀ := X.base) I.ok.mod.kin T.kC (thn (ha.run pos pins s σ H _ I h) fun us s1 ⟨vs, H1, I1, r1, v, ev, q1⟩ => ?_) he hpl
  subst ev
  refine ⟨I1.kIn, ?_⟩
  cases r1 with
  | @cons _ u _ us' rv rn =>
    cases rn
    show wpAny _ _ (call (.ref C) [u]) _ _ _
    have kb := I1.bk
    obtain ⟨hp, g, dr, tk, os⟩ := s1
    refine wpAny_call (DSX.made_run T I1.kIn I1.mod kb (by have := hr.dp; omega) pr.fl pr.top hfs hfd fun h' tk' e d M => ?_)
    show MkP X pins σ Q (.ref e) ⟨h', g, dr, tk', os⟩
    obtain ⟨oe, fv, hoe, hc, hd, hdat, h1⟩ := M.obj
    -- the heap without the exception
    obtain ⟨G, g1, g2⟩ := restrict h' fun b => decide (b ≠ e)
    have gk : ∀ b, b ≠ e → G.get? b = h'.get? b := fun b hb => g1 b (decide_eq_true hb)
    have ge : G.get? e = none := g2 e (by simp)
    have old : ∀ b o, hp.get? b = some o → G.get? b = some o := fun b o q => (gk b (Nat.ne_of_lt (Nat.lt_of_lt_of_le (Heap.lt_size q) M.new))).trans (M.keep b o q)
    have J : Inv X pins σ (upd H1 d (.xd [(f, v)])) ⟨G, g, dr, tk', os⟩ := I1.laid (t' := tk') old M.big ⟨_, M.ns.at (fun o q => (gk d M.ne).trans q), fun y => relO_one rv⟩
    refine ⟨e, oe, fv, ⟨G, g, dr, tk', os⟩, _, .ref C, some d, rfl, J, fun b o q => ?_, ge, hoe, ⟨hc, hd⟩, hdat, h1, ?_, rfl, I1.bare, raises_own T.exC T.tyC, q1 d (I1.hok.fresh M.big)⟩
    · by_cases hb : b = e
      · have q' : G.get? b = some o := q
        rw [hb, ge] at q'; cases q'
      · exact (gk b hb).symm.trans q
    · rw [upd_ne (Ne.symm M.ne)]
      exact I1.hok.fresh M.new
end
section
variable {X : Cx} {E : XK} {fI : Addr} {f file x : Str} {a : Expr} {p pos pos2 : Pos} {k cn : Nat}
/-- raise C(e) -/
def mRaise (cn : Nat) (f : Str) (m : EM) : SM := fun δ μ => (m δ μ).bindS δ fun d μ => .exc cn [(f, d)] δ μ
theorem s_raise {m : EM} (hc : X.calm = true) (T : DSX.SupC X.K (w.ct cn) fI f file) (gC : X.mg x = some (.ref (w.ct cn))) (pr : PrOk X.prog file) (hfs : f ≠ "self") (hfd : (f == ("__debug__" : Str)) = false) (hr : Room k X.A) (tk : Takes X (WV E)) (ha : PE X a (rdE w (WV E) m)) (hg : Gl X x) (hxd : (x == ("__debug__" : Str)) = false := by decide)
    (he : starEach (a :: []) X.env = (false, eval a X.env) :: starEach [] X.env := by rfl) (hpl : (backTo pos (starEach [] X.env)).any (·.1) = false := by rfl) :
    PS X (.Raise (some (.Call (.Name x p) [a] [] pos)) none pos2) (rdS w (WV E) (mRaise cn f m)) :=
  PS.to (ps_raise hc tk (pmk_sup (a := a) (p := p) (pos := pos) T gC pr hfs hfd hr (a_cons (w := w) (W := WV E) ha a_nil he) hg hxd he hpl)) fun D σ H ⟨fr, as, δ, μ, h, q⟩ => by
    have q0 : SOk (w.on fr) (WV E) as H ((mCons m mNil δ μ).bindS δ fun ds μ => match ds with | [d] => .exc cn [(f, d)] δ μ | _ => .bad) D := by
      have q1 : SOk (w.on fr) (WV E) as H ((m δ μ).bindS δ fun d μ => .exc cn [(f, d)] δ μ) D := q
      unfold mCons
      revert q1
      cases m δ μ with
      | bad => exact fun q => q
      | exc c fs μ1 => exact fun q => q
      | ok d μ1 => exact fun q => q
    refine bAS h q0 fun vs H1 as1 ds μ1 h1 d1 q1 => ?_
    match ds, d1, q1 with
    | [], _, q1 => exact q1.elim
    | _ :: _ :: _, _, q1 => exact q1.elim
    | [d], .cons (v := v) dx .nil, q1 =>
      refine ⟨v, rfl, fun dd hd => ?_⟩
      exact q1 (some dd) σ _ as1 (Ext.push hd) ⟨h1.rel.push hd, h1.sl.ext (Ext.push hd)⟩ (.inr ⟨dd, [(f, v)], rfl, upd_same, h1.rel.new hd, h1.rel.newF hd, rfl, .cons (dx.ext (Ext.push hd)) .nil⟩)
/-- a raise that is never come to -/
def mBad : SM := fun _ _ => .bad
theorem s_bad {st : Stmt} : PS X st (rdS w (WV E) mBad) := PS.to ps_never fun D σ H ⟨fr, as, δ, μ, h, q⟩ => q
end
end DL

namespace DL
open PySem PySem.Spec PyProof.Rows L2
variable {w : Wd}
theorem exv_ok {P : Program} {wo : World} {H : Hp} {h : Heap} {a : Addr} {cls : Value} {d : Option Addr} {oe : Obj} {vs : Array Value} (e : h.get? a = some oe) (z : Zc cls d oe) (f : oe.data = .fields vs) : ObjOk P wo H h a (ExV a cls d) :=
  ⟨⟨oe, vs, e, z, f⟩, ⟨oe, e⟩, fun _ _ ⟨o, v, q, r⟩ k => ⟨o, v, k o q, r⟩⟩
section
variable {X : Cx} {pins : List (Addr × Obj)} {σ : L2.St} {H : Hp} {sI s' : Shared} {B : Heap}
/-- landed, the exception tracked -/
theorem land_track {a : Addr} {cls : Value} {d : Option Addr} {oe : Obj} {vs : Array Value} (I : Inv X pins σ H sI) (nb : ∀ b o, sI.heap.get? b = some o → b ∉ frs X.stack → B.get? b = some o) (st : B.StaysIn s'.heap) (bn : B.get? a = none) (up : sI.heap.UpToSlots s'.heap) (os : s'.os = sI.os) (ag : AllBare s'.gens)
    (na : H a = none) (nf : a ∉ frs X.stack) (e : s'.heap.get? a = some oe) (z : Zc cls d oe) (f : oe.data = .fields vs) : Inv X pins σ (upd H a (ExV a cls d)) s' := by
  obtain ⟨G, g1, g2⟩ := restrict s'.heap fun b => decide (b ≠ a)
  have sn : sI.heap.get? a = none := by
    cases q : sI.heap.get? a with
    | none => rfl
    | some o => rw [nb a o q nf] at bn; cases bn
  have gk : ∀ b, b ≠ a → G.get? b = s'.heap.get? b := fun b n => g1 b (decide_eq_true n)
  have gn : G.get? a = none := g2 a (by simp)
  have J : Inv X pins σ H { s' with heap := G } := I.landed (s' := { s' with heap := G }) nb (fun b o q => (gk b (fun y => by rw [y, bn] at q; cases q)).trans (st b o q)) (fun b o q nn => by
    obtain ⟨sl, r⟩ := up b o q nn
    exact ⟨sl, (gk b (fun y => by rw [y, sn] at q; cases q)).trans r⟩) os ag
  exact J.laidN (h' := s'.heap) (t' := s'.toks) (fun b u q => by
    by_cases y : b = a
    · rw [y] at q
      have q' : G.get? a = some u := q
      rw [gn] at q'; cases q'
    · exact (gk b y).symm.trans q) gn na (exv_ok e z f)
theorem Inv.toSuite (I : Inv X pins σ H sI) (a : Addr) : Inv (X.suite a (X.pn ++ pins)) [] σ H sI :=
  ⟨I.ok.suite a _, I.os, I.bare, I.base, I.loc, I.cell, I.free, I.freeC, fun p hp => I.pin p (by rw [List.append_nil] at hp; exact hp), I.hok, I.len⟩
theorem Inv.ofSuite {a : Addr} (I : Inv (X.suite a (X.pn ++ pins)) [] σ H sI) (ok : X.Ok) : Inv X pins σ H sI :=
  ⟨ok, I.os, I.bare, I.base, I.loc, I.cell, I.free, I.freeC, fun p hp => I.pin p (List.mem_append_left _ hp), I.hok, I.len⟩
end
/-- what the clause wishes of an exception of the body: the suite begins with it in slot i, tracked -/
def wKp (K : PySem.W.Frag) (c : Value) (i : Nat) (ts : TS) (Wout : WX) (D : Ends) : WX := fun cls d σ H =>
  ∃ b, PySem.W.exmOne K cls c = some b ∧ (b = true → ∀ a, H a = none → ts { nx := fun σ' H' => D.nx (σ'.set i none) H', rt := D.rt, bk := fun σ' H' => D.bk (σ'.set i none) H', ct := fun σ' H' => D.ct (σ'.set i none) H' } (σ.set i (some (.ref a))) (upd H a (ExV a cls d))) ∧
    (b = false → Wout cls d σ H)
section
variable {X : Cx} {x n : Str} {c : Value} {i : Nat} {body suite : List Stmt} {b₀ : Stmt} {np pos pos' : Pos} {tb : WX → TS} {ts : TS} {Wout : WX}
/-- try: body / except x as n: suite, the exception kept -/
theorem ps_keep (hs : X.stack = X.env :: X.outer) (hf : X.env.frame = some X.env.locals) (hN : X.N.Nodup) (hi : X.N[i]? = some n) (hln : X.env.kindOf n = some .local) (hc : Names X x c) (tk : Takes X Wout)
    (hb : ∀ (W : WX) (pn : List (Addr × Obj)) (xe : Value → Shared → Prop), Takes (X.tr pn xe) W → PassesOwn (model X.prog X.w) X.A X.env xe → PSs (X.tr pn xe) body (tb W))
    (hsu : ∀ (a : Addr) (pn : List (Addr × Obj)), PSs (X.suite a pn) (b₀ :: suite) ts) :
    PS X (.Try body [.ExceptHandler (some (.Name x np)) (some n) (b₀ :: suite) pos'] [] [] pos) (fun D σ H => tb (wKp X.K c i ts Wout D) D σ H) := by
  refine ⟨fun pins s σ H D I h => wpAny_Try_except (wpAny_mono ((hb (wKp X.K c i ts Wout D) (X.pn ++ pins) (fun e s₁ => wpAny (model X.prog X.w) X.A (noteFrame e X.env) (fun _ s₂ =>
    wpAny (model X.prog X.w) X.A (setFlight e none) (fun _ s₃ => wpAny (model X.prog X.w) X.A (handleBy e X.env [.ExceptHandler (some (.Name x np)) (some n) (b₀ :: suite) pos']) (SP X pins D) X.xe s₃) X.xe s₂) X.xe s₁) (fun u s2 air => ?_)
      PassesOwn.looking).run [] s σ H D (I.toTry _) h) (fun fl s1 sp => ?_) (fun e s1 he => he))⟩
  · obtain ⟨a, B, sI, pinsI, σI, HI, cls, d, eu, JI, nb, up, sky, na, os, ag, k, hk, yes, no⟩ := air
    subst eu
    have ok := I.ok
    have fro : X.A.frames = some (X.env :: X.outer) := by rw [ok.frames, hs]
    have J : Inv X pins σI HI sI := JI.ofTry ok
    have sky2 : Sky B (X.env :: X.outer) a (Zc cls d) X.env.locals s2.heap := by rw [← hs]; exact sky
    show wpAny (model X.prog X.w) X.A (noteFrame (.ref a) X.env) _ _ _
    refine Sky.land Zc.steady fro hf sky2 fun g fl ug => ?_
    have apart : ∀ {h : Heap} {o : Obj} {vs : Array Value}, h.FunFrames B (X.env :: X.outer) → h.get? a = some o → o.data = .fields vs → a ∉ frs X.stack := fun {h o vs} ff e dd hm => by
      rw [hs] at hm
      obtain ⟨_, o2, e2, nn⟩ := ff.mem hm
      rw [e] at e2; cases e2
      exact nn _ dd
    obtain ⟨o3, v3, e3, z3, d3⟩ := fl.there
    have J3 : Inv X pins σI (upd HI a (ExV a cls d)) { s2 with heap := g } := land_track J nb fl.1 fl.2.1 (up.trans ug) os ag na (apart fl.2.2.1 e3 d3) e3 z3 d3
    have S3 := Inv.toSuite J3 a
    refine wpAny_handleBy_cons (codeAny_handlers_test ?_) (fun q => by cases q)
    have LT : PySem.W.Looks (model X.prog X.w) g (typeOf (.ref a)) cls := fun A Q E s k q => wpAny_typeOf_ref (k _ _ e3) (by rw [z3.1]; exact q)
    have LM := PySem.W.exm_one (M := model X.prog X.w) J3.kIn LT hk
    have name : ∀ {Q : Value → Shared → Prop} {E : Value → Shared → Prop}, Q c { s2 with heap := g } → wpAny (model X.prog X.w) (X.A.mark (some (.ref a))) (eval (.Name x np) X.env) Q E { s2 with heap := g } := fun {Q E} q => by
      obtain ⟨hg, hdb, hm⟩ := hc
      rcases hm with hm | ⟨hm, hv, hnn⟩
      · exact ld_glob S3 hg hm q hdb
      · exact ld_blt S3 hg hm hv q hnn hdb
    refine name (LM.here ?_)
    cases k with
    | true =>
      refine codeAny_handlers_suite_as (HandSPX.lands_againZ fl fun g4 fl4 ug4 => ?_)
      obtain ⟨o4, v4, e4, z4, d4⟩ := fl4.there
      have J4 : Inv X pins σI (upd HI a (ExV a cls d)) { s2 with heap := g4 } := land_track J nb fl4.1 fl4.2.1 ((up.trans ug).trans ug4) os ag na (apart fl4.2.2.1 e4 d4) e4 z4 d4
      refine store_ok (X := X.suite a (X.pn ++ pins)) (v := .ref a) (Inv.toSuite J4 a) hN hi (.inl hln) rfl (fun s5 S5 => ?_) (.inr hln)
      have leave : ∀ {σ6 : L2.St} {H6 : Hp} {s6 : Shared} {Q : Shared → Prop}, Inv (X.suite a (X.pn ++ pins)) [] σ6 H6 s6 → (∀ s7, Inv X pins (σ6.set i none) H6 s7 → Q s7) →
          wpAny (model X.prog X.w) X.A (do bindName X.env n .none; unbindBehindTheSuite X.env n pos') (fun _ s7 => Q s7) X.xe s6 := fun {σ6 H6 s6 Q} S6 hq => gone_ok (Inv.ofSuite S6 ok) hN hi hln hq
      refine wpAny_mono ((hsu a (X.pn ++ pins)).run [] s5 _ _ _ S5 (yes rfl a na)) (fun f s6 sp => ?_) (fun _ _ z => z.elim)
      cases f with
      | next => obtain ⟨_, _, S6, q⟩ := sp; exact leave S6 fun s7 J7 => ⟨_, _, J7, q⟩
      | brk => obtain ⟨_, _, S6, q⟩ := sp; exact leave S6 fun s7 J7 => ⟨_, _, J7, q⟩
      | cont => obtain ⟨_, _, S6, q⟩ := sp; exact leave S6 fun s7 J7 => ⟨_, _, J7, q⟩
      | ret u => obtain ⟨_, _, _, S6, r, q⟩ := sp; exact leave S6 fun s7 J7 => ⟨_, _, _, J7, r, q⟩
    | false =>
      show wpAny _ X.A (handleBy (.ref a) X.env []) _ _ _
      refine wpAny_handleBy_nil ?_
      obtain ⟨_, _, _, oe, vs, T, oT, tsv, he, hz, hd, h1, hr⟩ := id fl
      unfold PySem.passOn
      refine wpAny_bind (wpAny_field he hd h1 ?_)
      rw [if_neg (show ¬ ((Value.ref T == Value.none) = true) from by simp)]
      have out : wpAny (model X.prog X.w) X.A (setFlight (.ref a) X.env.frame) (fun _ s4 => wpAny (model X.prog X.w) X.A (throw (.ref a) : Sem Flow) (SP X pins D) X.xe s4) X.xe { s2 with heap := g } := by
        rw [hf]
        exact HandSPX.setFlight_upZ fl fun h4 hh4 up4 => wpAny_throw (tk _ _ ⟨a, B, sI, pins, σI, HI, cls, d, rfl, J, nb, (up.trans ug).trans up4, .inr (.inr (by rw [hs]; exact hh4)), na, os, ag, no rfl⟩)
      first
        | exact wpAny_bind (wpAny_pure (wpAny_bind out))
        | exact wpAny_bind out
  · have ok := I.ok
    cases fl with
    | next => obtain ⟨_, _, J, q⟩ := sp; exact wpAny_execs_nil ⟨_, _, J.ofTry ok, q⟩
    | brk => obtain ⟨_, _, J, q⟩ := sp; exact ⟨_, _, J.ofTry ok, q⟩
    | cont => obtain ⟨_, _, J, q⟩ := sp; exact ⟨_, _, J.ofTry ok, q⟩
    | ret u => obtain ⟨_, _, _, J, r, q⟩ := sp; exact ⟨_, _, _, J.ofTry ok, r, q⟩
end
end DL
namespace DLK
open PySem PySem.W PySem.Calls PyProof.Rows PySem.Spec
section
variable {prog : Program} {w : World} {A : Around} {E : Value → Shared → Prop} {s : Shared} {K : Frag} {x D : Addr} {ox : Obj} {od : Option Obj}
/-- what the class of an exception must be told of -/
structure EC (K : Frag) (D : Addr) : Prop where
  ga : findIn K (.ref D) "__getattribute__" = some (some (.builtin "BaseException.__getattribute__"))
  gt : findIn K (.ref D) "__getattr__" = some none
  be : subIn K (.ref D) (.type "BaseException") = some true
  hd : hasDictIn K D = true
  ca : findIn K (.ref D) "__class__" = some (some (.builtin "object.__class__"))
  sp : specialIn K (.builtin "object.__class__") "__get__" = some (some (.builtin "getset_descriptor.__get__"))
  tk : takesIn K (.builtin "object.__class__") = some true
  mo : mroIn K D (.type "object") = some true
theorem find_data (C : EC K D) : findObj K D od "__class__" = some (.bind (.builtin "getset_descriptor.__get__") (.builtin "object.__class__")) := by
  obtain ⟨cd, hc, _⟩ := any_some C.hd
  unfold findObj
  simp only [hc, Option.bind_some, C.ca, C.sp, C.tk]
/-- e.__class__, e an exception with or without a dict -/
theorem exc_class {Q : Option Value → Shared → Prop} (C : EC K D) (X : K.In s.heap) (I : InstAt s.heap x ox D od) (h : Q (some (.ref D)) { s with toks := s.toks + 1 }) : wpAny (model prog w) A (getAttr? (.ref x) "__class__") Q E s := by
  obtain ⟨hp, g, d, t, os⟩ := s
  have T0 := I.type (M := model prog w)
  have T1 := looks_findIn (M := model prog w) X C.ga
  have T2 := looks_findIn (M := model prog w) X C.gt
  have T3 := looks_find (M := model prog w) X I (find_data (od := od) C)
  have isE : Looks (model prog w) hp (isInstance (.ref x) (.type "BaseException")) true := T0.andThen (looks_subIn X C.be)
  have n0 : (false && onTheHeap (Value.builtin "BaseException.__getattribute__")) = false := rfl
  have n1 : (onTheHeap (Value.ref D) && Value.builtin "BaseException.__getattribute__" == Value.builtin "object.__getattribute__") = false := by
    have z : (Value.builtin "BaseException.__getattribute__" == Value.builtin "object.__getattribute__") = false := by decide +kernel
    rw [z]
    rfl
  unfold getAttr? getAttrBy? getAttrBy
  refine wpAny_bind (wpAny_mkText (wpAny_bind (wpAny_attempt (wpAny_holding (wpAny_bind (T0.at (wpAny_bind (T1.at ?_))))))))
  show wpAny _ _ (if (onTheHeap (Value.ref D) && Value.builtin "BaseException.__getattribute__" == Value.builtin "object.__getattribute__") = true then _
    else _) _ _ _
  rw [n1, if_neg Bool.false_ne_true]
  unfold getAttrByItsOwn hookBefore
  refine wpAny_bind ?_
  rw [if_pos (show onTheHeap (Value.ref D) = true from rfl)]
  refine T2.at (wpAny_bind (wpAny_attempt (wpAny_holding ?_)))
  unfold callGetattribute
  rw [n0, if_neg Bool.false_ne_true]
  unfold boundAndCalled
  rw [PySem.F.excAttr_ValueError.ga.bind (.ref x)]
  refine wpAny_bind (wpAny_pure ?_)
  show wpAny _ _ (call (.builtin "BaseException.__getattribute__") [.ref x, .str "__class__" t]) _ _ _
  refine wpAny_call (codeAny_call_builtin PySem.F.excAttr_ValueError.ga.plain PySem.F.entry_bexc_ga (@check_slot (model prog w) _ _ ⟨hp, g, d, t + 1, os⟩ "BaseException.__getattribute__" "BaseException" "__getattribute__" (.ref x)
    [.str "__class__" t] [] _ (by decide +kernel) (by decide +kernel) isE (PySem.F.args_bexc_ga (.ref x) (.str "__class__" t)) ?_))
  unfold Builtin.«object.__getattribute__»
  refine wpAny_bind (wpAny_of_eq (a := ((Value.ref x : Value), [Value.str "__class__" t])) (by
    first
    | rfl
    | (simp only [slotArgs]; rfl)) (wpAny_bind (wpAny_pure (wpAny_bind (T0.at (wpAny_bind (T3.at ?_)))))))
  show wpAny _ _ (holding [Value.builtin "object.__class__"] (call (.builtin "getset_descriptor.__get__") [.builtin "object.__class__", .ref x, .ref D]) >>= ret)
    _ _ _
  refine wpAny_bind (wpAny_holding (wpAny_call (class_get (s := ⟨hp, g, d, t + 1, os⟩) (ox := ox) (od := od) X I C.mo ?_)))
  refine wpAny_pure ?_
  show wpAny _ _ (handedOut (.ref D)) _ _ _
  rw [handedOut_of (v := .ref D) rfl]
  first
    | exact wpAny_pure (wpAny_pure h)
    | exact wpAny_pure h
    | exact wpAny_pure (wpAny_bind (wpAny_pure (wpAny_pure h)))
theorem kit_exc (C : EC K D) : KitX K (.ref x) (.ref D) (fun h => ∃ ox od, InstAt h x ox D od) where
  ty := fun _ _ _ ⟨_, _, I⟩ => I.type
  it := fun M h X _ => by
    obtain ⟨cd, hc, _⟩ := any_some C.hd
    unfold clsIn at hc
    split at hc
    · rename_i c' d' cd' sl' ho
      intro A' Q' E' s' k q
      unfold isType loadHead
      exact wpAny_bind (wpAny_loadPart (k _ _ (X _ _ ho)) (wpAny_pure q))
    · cases hc
  ne := fun h tp dd its n sl X htp => by
    refine Bool.eq_false_iff.mpr fun q => ?_
    obtain ⟨cd, hc, _⟩ := any_some C.hd
    have e : D = tp := Value.ref.inj (beq_iff_eq.mp q)
    unfold clsIn at hc
    split at hc
    · rename_i c' d' cd' sl' ho
      rw [e] at ho
      cases (X _ _ ho).symm.trans htp
    · cases hc
  ca := fun X ⟨_, _, I⟩ k => exc_class C X I k
end
end DLK
namespace DL
open PySem PySem.Spec PyProof.Rows L2
variable {w : Wd}
section
variable {X : Cx} {W : WX} {e a b c o : Expr} {pos p apos : Pos}
/-- a tracked exception as it stands -/
theorem exv_inst {pins : List (Addr × Obj)} {σ : L2.St} {H : Hp} {s : Shared} {a D : Addr} {d : Option Addr} {fs : List (Str × V)} (I : Inv X pins σ H s) (e : H a = some (ExV a (.ref D) d)) (hd : ∀ dx, d = some dx → H dx = some (.xd fs)) : ∃ ox od, PySem.W.InstAt s.heap a ox D od := by
  obtain ⟨⟨oe, vs, h1, h2, h3⟩, _, _⟩ := I.hok a _ e
  obtain ⟨oc, odi, oda, osl⟩ := oe
  obtain ⟨z1, z2⟩ := h2
  dsimp only at z1 z2 h3
  subst z1 z2 h3
  cases odi with
  | none => exact ⟨_, none, h1, rfl, rfl, trivial⟩
  | some dx =>
    obtain ⟨mA, hns, _⟩ := (show ObjOk X.prog X.w H s.heap dx (.xd fs) from I.hok dx _ (hd dx rfl))
    obtain ⟨od, ho, _⟩ := lookIn_ns hns
    exact ⟨_, some od, h1, rfl, rfl, ho⟩
def rIsX (K : PySem.W.Frag) : List V → Hp → VK → Prop := fun xs H Q => ∃ (a D : Addr) (d : Option Addr) (fs : List (Str × V)) (c : V) (u : Value) (b : Bool), xs = [.ref a, c] ∧ H a = some (ExV a (.ref D) d) ∧ (∀ dx, d = some dx → H dx = some (.xd fs)) ∧ DLK.EC K D ∧ ClsV c u ∧ PySem.W.kitOne K (.ref D) u = some b ∧ Q (.bl b) H
theorem call_isX : CallR X (.builtin "isinstance") (rIsX X.K) := by
  intro pins s σ H xs us Q I r ⟨a, D, d, fs, c, u, b, ex, ha, hd, C, cv, hk, q⟩
  subst ex
  cases r with
  | cons rx rr =>
    cases rr with
    | cons rt rr =>
      cases rr
      cases rx
      have ec := cv.eq rt
      subst ec
      exact PySem.W.kia_one (DLK.kit_exc C) I.kIn (exv_inst I ha hd) hk (fun z => nomatch z) fun tk => ⟨.bl b, H, I.tok tk, rfl, q⟩
/-- isinstance of a kept exception -/
def fIsX (kk : Nat → String ⊕ Nat → Option Bool) (ds : List D) (μ : List M) : ER := match ds with
  | [.exc c _, u] => match clsD u with
    | some t => match kk c t with
      | some b => .ok (.bl b) μ
      | none => .bad
    | none => .bad
  | _ => .bad
def KeOk (w : Wd) (kk : Nat → String ⊕ Nat → Option Bool) : Prop := ∀ c u b, kk c u = some b → PySem.W.kitOne w.K (.ref (w.ct c)) (tv w u) = some b ∧ DLK.EC w.K (w.ct c)
theorem cd_isX {kk : Nat → String ⊕ Nat → Option Bool} {K : PySem.W.Frag} (hK : w.K = K) (hk : KeOk w kk) : CallD w (rIsX K) (fIsX kk) := by
  intro W σ as H δ μ ds vs Q h d q
  subst hK
  unfold fIsX at q
  split at q
  · rename_i c fs u
    cases d with
    | cons d1 t1 =>
      cases t1 with
      | cons d2 t2 =>
        cases t2
        cases z2 : clsD u with
        | none => simp only [z2] at q; exact q.elim
        | some t =>
          simp only [z2] at q
          cases z3 : kk c t with
          | none => rw [z3] at q; exact q.elim
          | some b =>
            rw [z3] at q
            obtain ⟨k1, k2⟩ := hk c t b z3
            cases d1 with
            | exc0 f n r => exact ⟨_, _, none, [], _, _, b, rfl, r, (fun dx z => by cases z), k2, clsD_v d2 z2, k1, q _ H as Ext.refl h.rel (.bl _)⟩
            | excD f n r f2 n2 r2 k q2 => exact ⟨_, _, _, _, _, _, b, rfl, r, (fun dx z => by cases z; exact r2), k2, clsD_v d2 z2, k1, q _ H as Ext.refl h.rel (.bl _)⟩
  · exact q.elim
/-! caught.f -/
def tFldX (K : PySem.W.Frag) (f : Str) (te : TE) : TE := fun σ H Q => te σ H fun x H1 => ∃ (a D dx : Addr) (fs : List (Str × V)) (v : V), x = .ref a ∧ H1 a = some (ExV a (.ref D) (some dx)) ∧ H1 dx = some (.xd fs) ∧ XfC K D ∧ PySem.W.findIn K (.ref D) f = some none ∧ fs.lookup f = some v ∧ Q v H1
theorem pe_fldX {f : Str} {te : TE} (he : PE X e te) (hb : attributeBase e f X.env (eval e X.env) = eval e X.env := by rfl) : PE X (.Attribute e f pos) (tFldX X.K f te) := by
  refine ⟨fun pins s σ H Q I h => attr_of hb (thn (he.run pins s σ H _ I h) fun u s1 ⟨x, H1, I1, rx, a, D, dx, fs, v, ex, ea, ed, T, hno, l, q⟩ => ?_)⟩
  subst ex
  obtain rfl : u = Value.ref a := rx
  obtain ⟨⟨oe, vs, h1, h2, h3⟩, _, _⟩ := I1.hok a _ ea
  obtain ⟨mA, hns, hr⟩ := (show ObjOk X.prog X.w H1 s1.heap dx (.xd fs) from I1.hok dx _ ed)
  obtain ⟨od, ho, hl⟩ := lookIn_ns hns
  obtain ⟨y, hy, ry⟩ := RelO.some_of (v := v) (o := mA f) (by rw [← l]; exact hr f)
  have J : PySem.W.InstAt s1.heap a oe D (some od) := ⟨h1, h2.1, by unfold PySem.W.notCls; rw [h3] <;> rfl, by rw [h2.2]; exact ho⟩
  exact HandSPX.exc_get I1.kIn J T.ga T.gg T.exC (PySem.W.findObj_own T.hdC hno rfl (by rw [hl, hy])) (handed_of ry) ⟨v, H1, I1.tok _, ry, q⟩
def mFldX (cs : List Nat) (f : Str) (m : EM) : EM := fun δ μ => (m δ μ).bind fun d μ => match d with
  | .exc c fs => if cs.contains c then match fs.lookup f with
    | some x => .ok x μ
    | none => .bad
    else .bad
  | _ => .bad
theorem d_fldX {f : Str} {m : EM} {cs : List Nat} (he : PE X e (rdE w W m)) (hc : ∀ c ∈ cs, XfC X.K (w.ct c) ∧ PySem.W.findIn X.K (.ref (w.ct c)) f = some none) (hb : attributeBase e f X.env (eval e X.env) = eval e X.env := by rfl) : PE X (.Attribute e f pos) (rdE w W (mFldX cs f m)) :=
  PE.to (pe_fldX he hb) fun σ H Q ⟨fr, as, δ, μ, h, q⟩ => bE h q fun v H1 as1 d μ1 h1 d1 q1 => by
    cases d with
    | exc c fs =>
      dsimp only at q1
      cases z2 : cs.contains c with
      | false => simp only [z2] at q1; exact q1.elim
      | true =>
        simp only [z2, if_true] at q1
        cases z3 : fs.lookup f with
        | none => simp only [z3] at q1; exact q1.elim
        | some x =>
          simp only [z3] at q1
          obtain ⟨k1, k2⟩ := hc c (by simpa using z2)
          cases d1 with
          | exc0 f n r => cases z3
          | excD ff n r f2 n2 r2 k q2 =>
            obtain ⟨y, h5, h6⟩ := (look_dens f k q2).1 x z3
            exact ⟨_, _, _, _, y, rfl, r, r2, k1, k2, h5, q1 y H1 as1 Ext.refl h1.rel h6⟩
    | _ => exact q1.elim
end

/-! ### try -/
section
variable {X : Cx} {Wout : WX} {x n : Str} {cv : Value} {i : Nat} {body suite : List Stmt} {b₀ : Stmt} {np pos pos' : Pos}
def mTry (i : Nat) (cat : Nat → Option Bool) (mb ms : SM) : SM := fun δ μ => match mb δ μ with
  | .exc c fs δ1 μ1 => match cat c with
    | some true => match ms (δ1.set i (some (.exc c fs))) μ1 with
      | .nx δ2 μ2 => .nx (δ2.set i none) μ2
      | .bk δ2 μ2 => .bk (δ2.set i none) μ2
      | .ct δ2 μ2 => .ct (δ2.set i none) μ2
      | .rt d δ2 μ2 => .rt d (δ2.set i none) μ2
      | _ => .bad
    | some false => .exc c fs δ1 μ1
    | none => .bad
  | r => r
theorem den_exv {as H μ} {a : Addr} {c : Nat} {dd : Option Addr} {fs : List (Str × D)} (r : Rel w as H μ) (ha : H a = none) (x : ExD w as H dd fs) : Den w as (upd H a (ExV a (.ref (w.ct c)) dd)) (.ref a) (.exc c fs) := by
  rcases x with ⟨rfl, rfl⟩ | ⟨dx, vs, rfl, h2, h3, h4, h5, h6⟩
  · exact .exc0 (r.newF ha) (r.new ha) upd_same
  · exact .excD (r.newF ha) (r.new ha) upd_same h4 h3 (by rw [upd_ne (ne_of_none h2 ha)]; exact h2) h5 (h6.ext (Ext.push ha))
theorem s_try {cat : Nat → Option Bool} {mb ms : SM} (hs : X.stack = X.env :: X.outer) (hf : X.env.frame = some X.env.locals) (hN : X.N.Nodup) (hi : X.N[i]? = some n) (hln : X.env.kindOf n = some .local) (hc : Names X x cv) (tk : Takes X Wout)
    (hcat : ∀ c b, cat c = some b → PySem.W.exmOne X.K (.ref (w.ct c)) cv = some b)
    (hb : ∀ (W : WX) (pn : List (Addr × Obj)) (xe : Value → Shared → Prop), Takes (X.tr pn xe) W → PassesOwn (model X.prog X.w) X.A X.env xe → PSs (X.tr pn xe) body (rdS w W mb))
    (hsu : ∀ (a : Addr) (pn : List (Addr × Obj)), PSs (X.suite a pn) (b₀ :: suite) (rdS w W0 ms)) :
    PS X (.Try body [.ExceptHandler (some (.Name x np)) (some n) (b₀ :: suite) pos'] [] [] pos) (rdS w Wout (mTry i cat mb ms)) :=
  PS.to (ps_keep hs hf hN hi hln hc tk hb hsu) fun E σ H ⟨fr, as, δ, μ, h, q⟩ => by
    refine ⟨fr, as, δ, μ, h, ?_⟩
    unfold mTry at q
    revert q
    cases mb δ μ with
    | nx δ1 μ1 => exact fun q => q
    | rt d δ1 μ1 => exact fun q => q
    | bk δ1 μ1 => exact fun q => q
    | ct δ1 μ1 => exact fun q => q
    | bad => exact fun q => q
    | exc c fs δ1 μ1 =>
      intro q dd σ1 H1 as1 e1 h1 x1
      dsimp only at q
      cases z : cat c with
      | none => rw [z] at q; exact q.elim
      | some b =>
        refine ⟨b, hcat c b z, fun eb a ha => ?_, fun eb => ?_⟩
        · subst eb
          rw [z] at q
          dsimp only at q
          have ep : Ext as1 H1 (upd H1 a (ExV a (.ref (w.ct c)) dd)) as1 := Ext.push ha
          have dn := den_exv (w := w.on fr) (c := c) h1.rel ha x1
          refine ⟨fr, as1, δ1.set i (some (.exc c fs)), μ1, ⟨h1.rel.push ha, (h1.sl.ext ep).set dn i⟩, ?_⟩
          have q1 := SOk.ext (e1.trans ep) q
          revert q1
          cases ms (δ1.set i (some (.exc c fs))) μ1 with
          | nx δ2 μ2 => exact fun q1 σ2 H2 as2 e2 h2 => q1 _ H2 as2 e2 ⟨h2.rel, h2.sl.drop i⟩
          | bk δ2 μ2 => exact fun q1 σ2 H2 as2 e2 h2 => q1 _ H2 as2 e2 ⟨h2.rel, h2.sl.drop i⟩
          | ct δ2 μ2 => exact fun q1 σ2 H2 as2 e2 h2 => q1 _ H2 as2 e2 ⟨h2.rel, h2.sl.drop i⟩
          | rt d δ2 μ2 => exact fun q1 => q1
          | exc c2 fs2 δ2 μ2 => exact fun q1 => q1.elim
          | bad => exact fun q1 => q1
        · subst eb
          rw [z] at q
          exact q dd σ1 H1 as1 e1 h1 x1
end
end DL

/-! Lambdas whose parameters all have defaults. -/
namespace DLM
open PySem PySem.W PySem.Spec PySem.Calls PyProof.Rows
abbrev lfn (qual : Str) (params : Arguments) (body : Expr) (scope : Scope) (cl : List (Str × Addr)) (dV pm cdv ct : Value) : FuncData := { kla_fn "<lambda>" qual params body scope cl pm cdv ct with defaults := dV }
abbrev lobj (qual : Str) (params : Arguments) (body : Expr) (scope : Scope) (cl : List (Str × Addr)) (dV pm cdv ct : Value) : Obj := { cls := .type "function", data := .func (lfn qual params body scope cl dV pm cdv ct) }
section
variable {M : Model} {A : Around} {E : Value → Shared → Prop} {s : Shared} {qual : Str} {params : Arguments} {body : Expr} {scope : Scope} {env : Env} {c P : Addr} {ps : Array Value} {pos : Pos} {fl : Nat} {mg : Str → Option Value} {cl : List (Str × Addr)} {dV : Value} {Q : Value → Shared → Prop}
/-- the code object is new -/
theorem tail_new (hc : closureFor scope env = pure cl) (hgl : env.globals = mainGlobals) (hg : s.heap.Ns mainGlobals mg) (hcode : env.code = .ref c) (C : CodeHd s.heap c P) (hP : s.heap.get? P = some (tabObj ps)) (ht : TriplesOk ps.toList)
    (hn : codeAmong pos ps.toList = none) (hgP : mainGlobals ≠ P) (hb : s.heap.BuiltinsAt mg P)
    (h : ∀ c' ct h' tk, Heap.ExtBut P s.heap h' → s.heap.objs.size ≤ c' → c' < h'.objs.size → h'.CodeRec (.ref c') qual → h'.get? P = some (tabObj (ps ++ #[rawInt pos.line, rawInt pos.col, .ref c'])) →
      Q (.ref h'.objs.size) { s with heap := h'.push (lobj qual params body scope cl dV ((mg "__name__").getD .none) (.ref c') ct), toks := tk }) :
    wpAny M A (makeTail "<lambda>" qual params (.expr body) scope env dV .none none pos fl) Q E s := by
  obtain ⟨bm, ob, b1, b2, _, b3, b4, b5, b6, b7⟩ := hb
  unfold makeTail
  rw [hc, hgl]
  refine wpAny_bind (wpAny_pure ?_)
  by_cases ec : cl = []
  · subst ec
    simp only [List.isEmpty_nil, if_true]
    refine wpAny_bind (wpAny_pure (wpAny_bind (wpAny_functionCodeX hcode (C.code hP ht) (C.tab hP) hn fun c' h' tk hx l1 l2 _ rc tb _ => ?_)))
    have g' := hg.extBut hx hgP
    exact wpAny_bind (wpAny_builtinsFor g' b1 b2 (hx _ _ b3 b4) b5 b6 b7 (wpAny_bind (wpAny_nsGet g' (wpAny_bind (wpAny_pure (wpAny_newObj_type (h c' .none h' tk hx l1 l2 rc tb.2) (by size_fits)))))))
  · have e0 : cl.isEmpty = false := by cases cl with
      | nil => exact absurd rfl ec
      | cons _ _ => rfl
    simp only [e0, Bool.false_eq_true, if_false]
    have up : ∀ {oT : Obj} b o, s.heap.get? b = some o → (s.heap.push oT).get? b = some o := fun b o e => Heap.get?_push_of_some _ e
    refine wpAny_bind (wpAny_newTextTuple (wpAny_bind (wpAny_functionCodeX hcode ((C.keeps up).code (up _ _ hP) ht) ((C.keeps up).tab (up _ _ hP)) hn fun c' h' tk hx l1 l2 _ rc tb _ => ?_)))
    have g' := (hg.push _).extBut hx hgP
    have hx' : Heap.ExtBut P s.heap h' := fun b o n e => hx b o n (up b o e)
    exact wpAny_bind (wpAny_builtinsFor g' b1 b2 (hx' _ _ b3 b4) b5 b6 b7 (wpAny_bind (wpAny_nsGet g' (wpAny_bind (wpAny_pure (wpAny_newObj_type (h c' _ h' tk hx' (Nat.le_trans (by rw [Heap.size_push]; omega) l1) l2 rc tb.2) (by size_fits)))))))
/-- the code object is in the table -/
theorem tail_old {cv : Value} (hc : closureFor scope env = pure cl) (hgl : env.globals = mainGlobals) (hg : s.heap.Ns mainGlobals mg) (hcode : env.code = .ref c) (C : CodeHd s.heap c P) (hP : s.heap.get? P = some (tabObj ps)) (ht : TriplesOk ps.toList)
    (hf : codeAmong pos ps.toList = some cv) (hb : s.heap.BuiltinsAt mg P)
    (h : ∀ (ct : Value) (h' : Heap) (tk : Tok), (∀ b o, s.heap.get? b = some o → h'.get? b = some o) → s.heap.objs.size ≤ h'.objs.size → Q (.ref h'.objs.size) { s with heap := h'.push (lobj qual params body scope cl dV ((mg "__name__").getD .none) cv ct), toks := tk }) :
    wpAny M A (makeTail "<lambda>" qual params (.expr body) scope env dV .none none pos fl) Q E s := by
  obtain ⟨bm, ob, b1, b2, _, b3, b4, b5, b6, b7⟩ := hb
  unfold makeTail
  rw [hc, hgl]
  refine wpAny_bind (wpAny_pure ?_)
  by_cases ec : cl = []
  · subst ec
    simp only [List.isEmpty_nil, if_true]
    refine wpAny_bind (wpAny_pure (wpAny_bind (wpAny_functionCode_hit hcode (C.code hP ht) hf ?_)))
    exact wpAny_bind (wpAny_builtinsFor hg b1 b2 b4 b5 b6 b7 (wpAny_bind (wpAny_nsGet hg (wpAny_bind (wpAny_pure (wpAny_newObj_type (h .none s.heap s.toks (fun _ _ e => e) (Nat.le_refl _)) (by size_fits)))))))
  · have e0 : cl.isEmpty = false := by cases cl with
      | nil => exact absurd rfl ec
      | cons _ _ => rfl
    simp only [e0, Bool.false_eq_true, if_false]
    have up : ∀ {oT : Obj} b o, s.heap.get? b = some o → (s.heap.push oT).get? b = some o := fun b o e => Heap.get?_push_of_some _ e
    refine wpAny_bind (wpAny_newTextTuple (wpAny_bind (wpAny_functionCode_hit hcode ((C.keeps up).code (up _ _ hP) ht) hf ?_)))
    exact wpAny_bind (wpAny_builtinsFor (hg.push _) b1 b2 (up _ _ b4) b5 b6 b7 (wpAny_bind (wpAny_nsGet (hg.push _) (wpAny_bind (wpAny_pure (wpAny_newObj_type (h _ _ s.toks up (by rw [Heap.size_push]; omega)) (by size_fits)))))))
end
end DLM
namespace DLM
open PySem PySem.Spec PyProof.Rows L2 LamX
/-- the written defaults: ints -/
abbrev cst (env : Env) (c : Int × Nat × Pos) : Sem Value := eval (.Constant (.int c.1) c.2.1 c.2.2) env
/-- the tuple of the defaults -/
def DfV (fs : List Addr) (h : Heap) (H : Hp) (dV : Value) (us : List Value) : Prop := (dV = .none ∧ us = []) ∨ ∃ (T : Addr) (o : Obj), dV = .ref T ∧ h.get? T = some o ∧ o.data = .seq us.toArray 0 ∧ H T = none ∧ T ∉ fs
section
variable {X : Cx} {pins : List (Addr × Obj)} {σ : L2.St} {H : Hp} {s : Shared}
theorem ints_run {E : Value → Shared → Prop} : ∀ (cs : List (Int × Nat × Pos)) {s : Shared} {Q : List Value → Shared → Prop}, Inv X pins σ H s → (∀ us s', us.length = cs.length → Inv X pins σ H s' → Q us s') → wpAny (model X.prog X.w) X.A (evalAll (cs.map (cst X.env))) Q E s
  | [], s, Q, I, h => wpAny_pure (h [] s rfl I)
  | c :: cs, s, Q, I, h => by
    have go : wpAny (model X.prog X.w) X.A (cst X.env c) (fun v s1 => Inv X pins σ H s1) E s := by
      have z := ((pe_int (X := X.wish fun _ _ => False) (i := c.1) (j := c.2.1) (pos := c.2.2))).run pins s σ H (fun v H' => H' = H) (I.wish _) rfl
      refine wpAny_mono z (fun v s1 ⟨_, H', I1, _, e⟩ => ?_) fun _ _ z => z.elim
      subst e
      exact I1.unwish
    show wpAny _ _ (do let v ← cst X.env c; return v :: (← holding [v] (evalAll (cs.map (cst X.env))))) _ _ _
    refine wpAny_bind (wpAny_mono go (fun v s1 I1 => wpAny_bind (wpAny_holding (ints_run cs I1 fun us s2 hl I2 => wpAny_pure ?_))) fun _ _ z => z)
    exact h (v :: us) s2 (by simp [hl]) I2
theorem no_frame {f : Addr} (I : Inv X pins σ H s) (hf : s.heap.objs.size ≤ f) : f ∉ frs X.stack := fun z => by
  rcases List.mem_cons.mp (I.stkSub _ z) with e | e
  · have h1 := I.lt
    rw [← e] at h1
    exact Nat.lt_irrefl _ (Nat.lt_of_lt_of_le h1 hf)
  · exact I.nofs hf e
/-- such a lambda is made -/
theorem made {T : List (Addr × Str)} {c P : Addr} {params : Arguments} {body : Expr} {scope : Scope} {pos : Pos} {cs : List (Int × Nat × Pos)} {E : Value → Shared → Prop} {Q : Value → Shared → Prop} (I : Inv X pins σ H s) (TB : TabB X.base X.mg c P) (hcode : X.env.code = .ref c)
    (hm : (P, X.env.qual ++ "<lambda>") ∈ T) (hu : ∀ p ∈ T, p.1 = P → p.2 = X.env.qual ++ "<lambda>") (hT : Tabs T H) (hdef : defaultsOf params X.env = (cs.map (cst X.env), [])) (hkw : params.kwonlyargs = []) (hfree : ∀ y ∈ scope.names, y.2 = .free → ∃ c, X.env.cells.lookup y.1 = some c)
    (h : ∀ (f c' : Addr) (dV pm ctv : Value) (us : List Value) (H1 : Hp) (s' : Shared), us.length = cs.length → Inv X pins σ H1 s' → (H1 = H ∧ ∃ ps : Array Value, H P = some (.tbl ps) ∧ codeAmong pos ps.toList = some (.ref c')) ∨ (∃ ps : Array Value, H P = some (.tbl ps) ∧ H1 = upd (upd H P (.tbl (ps ++ #[rawInt pos.line, rawInt pos.col, .ref c']))) c' (CodeO c' (X.env.qual ++ "<lambda>")) ∧ H c' = none) → Tabs T H1 →
      s'.heap.get? f = some (lobj (X.env.qual ++ "<lambda>") params body scope (cloFrom X.env.cells scope.names []) dV pm (.ref c') ctv) → DfV (frs X.stack) s'.heap H1 dV us → H1 f = none → f ∉ frs X.stack → H1 c' = some (CodeO c' (X.env.qual ++ "<lambda>")) → Q (.ref f) s') :
    wpAny (model X.prog X.w) X.A (eval (.Lambda params body scope pos) X.env) Q E s := by
  obtain ⟨ps, hP, ht, ha⟩ := hT _ hm
  rw [arm_eval_Lambda, hdef]
  show wpAny _ _ (do let dv ← evalAll (cs.map (cst X.env)); let kdv ← holding dv (evalAllOpt []); makeFunction "<lambda>" (X.env.qual ++ "<lambda>") params (.expr body) scope X.env dv kdv [] pos pos.line) _ _ _
  refine wpAny_bind (ints_run cs I fun us s1 hl I1 => wpAny_bind (wpAny_holding (wpAny_pure ?_)))
  rw [makeFunction_eq, hkw]
  simp only [List.zip_nil_left, List.filterMap_nil, List.isEmpty_nil, if_true, pure_bind]
  -- the defaults
  have tail : ∀ (s2 : Shared) (dV : Value), Inv X pins σ H s2 → DfV (frs X.stack) s2.heap H dV us → wpAny (model X.prog X.w) X.A (makeTail "<lambda>" (X.env.qual ++ "<lambda>") params (.expr body) scope X.env dV .none none pos pos.line) Q E s2 := by
    intro s2 dV I2 hd
    have bP : s2.heap.BuiltinsAt X.mg P := TB.bm.keeps I2.bk
    have hP2 : s2.heap.get? P = some { cls := .none, data := .fields ps } := I2.hok P _ hP
    cases hc : codeAmong pos ps.toList with
    | none =>
      refine tail_new (mg := X.mg) (c := c) (P := P) (ps := ps) (closure_ok hfree) I2.ok.glob (I2.mod.glob.keeps I2.bk) hcode (TB.code.keeps I2.bk) hP2 ht hc TB.gP bP fun c' ctv h' tk hx l1 l2 rc tb => ?_
      obtain ⟨c2, oc, vs, t, e2, o1, o2, o3⟩ := rc
      cases e2
      have sz : s2.heap.objs.size ≤ h'.objs.size := Nat.le_trans l1 (Nat.le_of_lt l2)
      have nC : H c' = none := I2.hok.fresh l1
      have nPC : P ≠ c' := ne_of_none hP nC
      let h'' := h'.push (lobj (X.env.qual ++ "<lambda>") params body scope (cloFrom X.env.cells scope.names []) dV ((X.mg "__name__").getD .none) (.ref c') ctv)
      have up : ∀ b o, h'.get? b = some o → h''.get? b = some o := fun b o e => Heap.get?_push_of_some _ e
      have I3 := inv_table (t' := tk) (more := #[rawInt pos.line, rawInt pos.col, .ref c']) (h' := h'') (q := X.env.qual ++ "<lambda>") I2 hP (fun b o n e => up b o (hx b o n e)) (up _ _ tb) l1 ⟨oc, vs, t, up _ _ o1, o2, o3⟩
      have at_ : ∀ b, b ≠ P → b ≠ c' → upd (upd H P (.tbl (ps ++ #[rawInt pos.line, rawInt pos.col, .ref c']))) c' (CodeO c' (X.env.qual ++ "<lambda>")) b = H b := fun b n1 n2 => by rw [upd_ne n2, upd_ne n1]
      have eN : ∀ b o, H b = some o → (∀ q, o ≠ .tbl q) → upd (upd H P (.tbl (ps ++ #[rawInt pos.line, rawInt pos.col, .ref c']))) c' (CodeO c' (X.env.qual ++ "<lambda>")) b = some o := fun b o e n => by
        rw [at_ b (fun z => n ps (Option.some.inj (e.symm.trans (by rw [z]; exact hP)))) (ne_of_none e nC)]
        exact e
      have eL : (ps ++ #[rawInt pos.line, rawInt pos.col, .ref c']).toList = ps.toList ++ [rawInt pos.line, rawInt pos.col, .ref c'] := by simp
      have nf1 : h'.objs.size ≠ c' := Nat.ne_of_gt l2
      have nf2 : h'.objs.size ≠ P := Nat.ne_of_gt (Nat.lt_of_lt_of_le (Heap.lt_size hP2) sz)
      refine h h'.objs.size c' dV _ ctv us _ _ hl I3 (.inr ⟨ps, hP, rfl, nC⟩) (fun p hp => ?_) (Heap.get?_push_size _ rfl) ?_ ?_ (no_frame I2 sz) upd_same
      · by_cases hb : p.1 = P
        · rw [hu p hp hb, hb]
          refine ⟨_, by rw [upd_ne nPC, upd_same], by rw [eL]; exact PySem.TriplesOk_snoc _ _ _ _ ht, fun p' cv e => ?_⟩
          rw [eL] at e
          rcases among_app _ ht e with z | z
          · obtain ⟨c0, w1, w2⟩ := ha p' cv z
            exact ⟨c0, w1, eN _ _ w2 codeO_ne⟩
          · exact ⟨c', z, upd_same⟩
        · obtain ⟨ps', a1, a2, a3⟩ := hT p hp
          refine ⟨ps', by rw [at_ _ hb (ne_of_none a1 nC)]; exact a1, a2, fun p' cv e => ?_⟩
          obtain ⟨c0, w1, w2⟩ := a3 p' cv e
          exact ⟨c0, w1, eN _ _ w2 codeO_ne⟩
      · rcases hd with hd | ⟨TT, o, d1, d2, d3, d4, d5⟩
        · exact .inl hd
        · have nTP : TT ≠ P := fun z => by rw [z, hP] at d4; cases d4
          have nTC : TT ≠ c' := Nat.ne_of_lt (Nat.lt_of_lt_of_le (Heap.lt_size d2) l1)
          exact .inr ⟨TT, o, d1, up _ _ (hx _ _ nTP d2), d3, by rw [at_ _ nTP nTC]; exact d4, d5⟩
      · rw [at_ _ nf2 nf1]
        exact I2.hok.fresh sz
    | some cv =>
      obtain ⟨c', e, hco⟩ := ha pos cv hc
      subst e
      refine tail_old (mg := X.mg) (c := c) (P := P) (ps := ps) (closure_ok hfree) I2.ok.glob (I2.mod.glob.keeps I2.bk) hcode (TB.code.keeps I2.bk) hP2 ht hc bP fun ctv h' tk hx sz => ?_
      have I3 : Inv X pins σ H { s2 with heap := h'.push (lobj (X.env.qual ++ "<lambda>") params body scope (cloFrom X.env.cells scope.names []) dV ((X.mg "__name__").getD .none) (.ref c') ctv), toks := tk } := I2.kept fun b o e => Heap.get?_push_of_some _ (hx b o e)
      refine h h'.objs.size c' dV _ ctv us H _ hl I3 (.inl ⟨rfl, ps, hP, hc⟩) hT (Heap.get?_push_size _ rfl) ?_ (I2.hok.fresh sz) (no_frame I2 sz) hco
      rcases hd with hd | ⟨TT, o, d1, d2, d3, d4, d5⟩
      · exact .inl hd
      · exact .inr ⟨TT, o, d1, Heap.get?_push_of_some _ (hx _ _ d2), d3, d4, d5⟩
  by_cases e0 : us = []
  · subst e0
    simp only [List.isEmpty_nil, if_true, pure_bind]
    exact tail s1 .none I1 (.inl ⟨rfl, rfl⟩)
  · have e1 : us.isEmpty = false := by cases us with
      | nil => exact absurd rfl e0
      | cons _ _ => rfl
    simp only [e1, Bool.false_eq_true, if_false]
    refine wpAny_bind (wpAny_newTextTuple (tail _ _ (I1.kept (t' := s1.toks) fun b o e => Heap.get?_push_of_some _ e) (.inr ⟨_, _, rfl, Heap.get?_push_size _ rfl, rfl, I1.hok.fresh (Nat.le_refl _), no_frame I1 (Nat.le_refl _)⟩)))
end
end DLM

namespace DLM
open PySem PySem.Spec PyProof.Rows L2 LamX
/-- the lambda's names: parameters that no slot has, captured ones, globals -/
structure LmS (N : List Str) (sc scope : Scope) : Prop where
  kind : scope.kind = .function
  co : scope.isCoroutine = false
  gen : scope.isGenerator = false
  cell : ∀ y ∈ scope.names, y.2 ≠ .cell
  loc : ∀ y ∈ scope.names, y.2 = .local → y.1 ∉ N
  free : ∀ y ∈ scope.names, y.2 = .free → sc.names.lookup y.1 = some .cell ∨ sc.names.lookup y.1 = some .free
def lmB (N : List Str) (sc scope : Scope) : Bool :=
  decide (scope.kind = .function) && (!scope.isCoroutine && (!scope.isGenerator && scope.names.all fun y => match y.2 with
    | .cell => false
    | .local => decide (y.1 ∉ N)
    | .free => decide (sc.names.lookup y.1 = some .cell) || decide (sc.names.lookup y.1 = some .free)
    | _ => true))
theorem lmS_by {N : List Str} {sc scope : Scope} (h : lmB N sc scope = true) : LmS N sc scope := by
  unfold lmB at h
  obtain ⟨h1, h⟩ := Bool.and_eq_true_iff.mp h
  obtain ⟨h2, h⟩ := Bool.and_eq_true_iff.mp h
  obtain ⟨h3, h4⟩ := Bool.and_eq_true_iff.mp h
  have h4 := List.all_eq_true.mp h4
  refine ⟨of_decide_eq_true h1, by simpa using h2, by simpa using h3, fun y hy e => ?_, fun y hy e => ?_, fun y hy e => ?_⟩
  · have z := h4 y hy
    rw [e] at z; cases z
  · have z := h4 y hy
    rw [e] at z
    exact of_decide_eq_true z
  · have z := h4 y hy
    rw [e] at z
    rcases Bool.or_eq_true_iff.mp z with z | z
    · exact .inl (of_decide_eq_true z)
    · exact .inr (of_decide_eq_true z)
section
variable {X : Cx} {pins : List (Addr × Obj)} {σ : L2.St} {H HZ : Hp} {s s1 : Shared} {scope : Scope}
theorem LmS.has (L : LmS X.N X.env.scope scope) (ok : X.Ok) : ∀ y ∈ scope.names, y.2 = .free → ∃ c, X.env.cells.lookup y.1 = some c := fun y hy e =>
  (L.free y hy e).elim (fun k => ok.has _ (.inl k)) (fun k => ok.has _ (.inr k))
/-- the lambda's body begins -/
theorem begin3 {A : Around} {outer : List Env} {E : XK} {f c' : Addr} {h₁ : Heap} {tk : Nat} {binds : List (Str × Value)} (I : Inv X pins σ H s) (L : LmS X.N X.env.scope scope) (e0 : Env0 X.prog X.w X.K X.mg X.base A outer s1 HZ) (hd : A.handled = none)
    (un : Un (frs X.stack) [] H HZ s.heap s1.heap) (hns : h₁.Ns s1.heap.objs.size fun y => binds.reverse.lookup y) (kp : ∀ b o, s1.heap.get? b = some o → h₁.get? b = some o) : Inv (lamCx X A outer s1 HZ E scope f c') [] σ HZ { s1 with heap := h₁, toks := tk } := by
  have free := L.has I.ok
  have back : ∀ {y c}, (cloFrom X.env.cells scope.names []).lookup y = some c → X.env.cells.lookup y = some c := fun {y c} e => by
    rcases cloFrom_mem (PySem.mem_of_lookup e) with z | ⟨m, z⟩
    · cases z
    · obtain ⟨c1, hc⟩ := free _ m rfl
      have hc : X.env.cells.lookup y = some c1 := hc
      have ec : c = c1 := by rw [z, hc] <;> rfl
      rw [ec]; exact hc
  have there : ∀ {y}, scope.names.lookup y = some .free → ∃ c, (cloFrom X.env.cells scope.names []).lookup y = some c := fun {y} hl => mem_lookup (cloFrom_has (cells := X.env.cells) (acc := []) (PySem.mem_of_lookup hl))
  have still : ∀ {c : Addr} {v : Option Value}, H c = none → s.heap.IsCell c v → h₁.IsCell c v := fun {c v} n ⟨o, ho, hdt⟩ => by
    obtain ⟨sl, q⟩ := un.any ho n (by simp)
    exact ⟨_, kp _ _ q, hdt⟩
  have none_ : ∀ b : Addr, b ∉ (lamCx X A outer s1 HZ E scope f c').ex := fun b z => by cases z
  refine ⟨⟨e0.mod, L.kind, rfl, rfl, Nat.le_refl _, fun y z c e1 e2 => I.ok.inj y z c (back e1) (back e2), fun y hy => ?_, fun y c z _ => ?_, fun _ => hd, Around.frames_deeper e0.frames, .inr ⟨rfl, rfl⟩, fun b z => absurd z (none_ b), e0.bs, e0.bsz, fun b _ _ => none_ b, fun b z => absurd z (none_ b), e0.funs, e0.frf⟩,
    rfl, e0.bare, Un.kept kp, ⟨_, hns, fun i y v e1 e2 e3 => ?_⟩, fun y c e => ?_, e0.hok.fresh (Nat.le_refl _), fun y c e => ?_, (fun q hq => by cases hq), e0.hok.kept kp, I.len⟩
  · have hy : scope.names.lookup y = some .cell ∨ scope.names.lookup y = some .free := hy
    rcases hy with hy | hy
    · exact absurd rfl (L.cell _ (PySem.mem_of_lookup hy))
    · exact there hy
  · cases (show false = true from z)
  · have e3 : Vis scope y := e3
    rcases e3 with k | k | k
    · exact absurd (List.mem_of_getElem? e1) (L.loc _ (PySem.mem_of_lookup k) rfl)
    · exact absurd rfl (L.cell _ (PySem.mem_of_lookup k))
    · obtain ⟨m, hn, hl⟩ := I.loc
      have kk := L.free _ (PySem.mem_of_lookup k) rfl
      obtain ⟨u, r, q⟩ := hl i y v e1 e2 (kk.elim (fun z => .inr (.inl z)) (fun z => .inr (.inr z)))
      obtain ⟨c2, h2⟩ := there k
      refine ⟨u, r, .inr ⟨.inr k, c2, h2, ?_⟩⟩
      have c1 := back h2
      rcases q with ⟨k', _⟩ | ⟨_, c3, e', z⟩
      · have k' : X.env.scope.names.lookup y = some .local := k'
        rcases kk with k2 | k2
        · rw [show X.env.scope.names.lookup y = _ from k2] at k'; cases k'
        · rw [show X.env.scope.names.lookup y = _ from k2] at k'; cases k'
      · rw [c1] at e'
        cases e'
        exact still (I.freeC y _ c1) z
  · obtain ⟨u, z⟩ := I.cell y c (back e)
    exact ⟨u, still (I.freeC y c (back e)) z⟩
  · obtain ⟨v, o, ho, hdt⟩ := I.cell y c (back e)
    exact un.free c o ho (I.freeC y c (back e)) (by simp)
/-- the lambda called with its defaults, from a body Z that runs above -/
theorem called {Z : Cx} {pinsZ : List (Addr × Obj)} {σZ : L2.St} {sZ : Shared} {f c' : Addr} {dV pm ctv : Value} {us : List Value} {nms : List Str} {params : Arguments} {body : Expr} {k : Nat} {W : WX} {tb : XK → TE} {Q : VK}
    (I : Inv X pins σ H s) (L : LmS X.N X.env.scope scope) (eP : Z.prog = X.prog) (ew : Z.w = X.w) (eK : Z.K = X.K) (em : Z.mg = X.mg) (eb : Z.base = X.base) (IZ : Inv Z pinsZ σZ HZ sZ) (un : Un (frs X.stack) [] H HZ s.heap sZ.heap)
    (hf : s.heap.get? f = some (lobj (X.env.qual ++ "<lambda>") params body scope (cloFrom X.env.cells scope.names []) dV pm (.ref c') ctv)) (hfn : H f = none) (hfr : f ∉ frs X.stack) (hD : DfV (frs X.stack) s.heap H dV us)
    (hnm : ∀ n ∈ nms, scope.names.lookup n = some .local)
    (hb0 : dV = .none → us = [] → bindArgs (lfn (X.env.qual ++ "<lambda>") params body scope (cloFrom X.env.cells scope.names []) dV pm (.ref c') ctv) ⟨[], []⟩ = pure (nms.zip us))
    (hb1 : ∀ T, dV = .ref T → ∃ kk, bindArgs (lfn (X.env.qual ++ "<lambda>") params body scope (cloFrom X.env.cells scope.names []) dV pm (.ref c') ctv) ⟨[], []⟩ = seqItems? (.ref T) >>= kk ∧ kk (some us.toArray) = pure (nms.zip us))
    (hc : HZ c' = some (CodeO c' (X.env.qual ++ "<lambda>"))) (tk : Takes Z W) (hr : DL.RoomG (k + 1) Z.A)
    (hbody : ∀ (A : Around) (outer : List Env) (s : Shared) (H : Hp) (E : XK), DL.RoomG k (A.deeper (lamEnv X scope s.heap.objs.size f c')) → PE (lamCx X A outer s H E scope f c') body (tb E))
    (h : tb (WE W σZ) σ HZ Q) : wpAny (model Z.prog Z.w) Z.A (call (.ref f) []) (EP Z pinsZ σZ Q) Z.xe sZ := by
  have kept : ∀ {b : Addr} {o : Obj}, s.heap.get? b = some o → H b = none → b ∉ frs X.stack → sZ.heap.get? b = some o := fun {b o} e n nf => un.keep b o e n nf (by simp)
  have of1 := kept hf hfn hfr
  obtain ⟨⟨oc, vs, t, hoc, hdc, hvc⟩, _, _⟩ := IZ.hok c' _ hc
  have e0 : Env0 X.prog X.w X.K X.mg X.base Z.A Z.stack sZ HZ := by
    have z := IZ.env0
    rw [eP, ew, eK, em, eb] at z
    exact z
  have run : codeAny (model X.prog X.w) Z.A (.call (.ref f) ⟨[], []⟩) (CR (L2.CX X.prog X.w) Z.stack X.prog X.w HZ sZ Q (WE W σZ)) sZ := by
    refine PySem.W.kla_callFunE hr.depth of1 rfl L.co L.gen rfl ⟨c', oc, vs, t, rfl, hoc, hdc, hvc⟩ ?_
    have go : wpAny (model X.prog X.w) Z.A.in1 (newFunctionEnv scope mainGlobals (cloFrom X.env.cells scope.names []) (nms.zip us) ((X.env.qual ++ "<lambda>") ++ ".<locals>.") (some f) (.ref c') none builtinsNs)
        (fun env s₂ => s₂.heap.NoLimit ∧ codeAny (model X.prog X.w) Z.A (.expr body env) (CR (L2.CX X.prog X.w) Z.stack X.prog X.w HZ sZ Q (WE W σZ)) s₂) (fun e s' => CR (L2.CX X.prog X.w) Z.stack X.prog X.w HZ sZ Q (WE W σZ) (.error e) s') sZ := by
      refine wpAny_newFunctionEnv L.cell (fun y hy => hnm y.1 (List.of_mem_zip hy).1) (fun h₁ hns hsb => ⟨IZ.nolimit.fresh _ hsb, ?_⟩) L.kind
      show codeAny _ _ (.expr body (lamEnv X scope sZ.heap.objs.size f c')) _ _
      have kp : ∀ b o, sZ.heap.get? b = some o → h₁.get? b = some o := fun b o e => hsb.extBut b o (Nat.ne_of_lt (Heap.lt_size e)) (Heap.get?_push_of_some _ e)
      have J := begin3 (A := Z.A) (outer := Z.stack) (E := WE W σZ) (f := f) (c' := c') (tk := sZ.toks + (nms.zip us).length) I L e0 hr.hd un hns kp
      refine PySem.W.kla_codeExpr (wpAny_mono ((hbody _ _ sZ HZ (WE W σZ) (hr.deeper _)).run [] _ _ HZ Q J h) (fun v s' hq => ?_) fun e s' hq => hq)
      obtain ⟨v', H', J', rv, q⟩ := hq
      exact ⟨v', H', J'.os, J'.bare, J'.base, J'.hok, rv, q⟩
    rcases hD with ⟨d1, d2⟩ | ⟨T, o, d1, d2, d3, d4, d5⟩
    · show wpAny _ _ (bindArgs (lfn (X.env.qual ++ "<lambda>") params body scope (cloFrom X.env.cells scope.names []) dV pm (.ref c') ctv) ⟨[], []⟩) _ _ _
      rw [hb0 d1 d2]
      exact wpAny_pure go
    · obtain ⟨kk, e1, e2⟩ := hb1 T d1
      show wpAny _ _ (bindArgs (lfn (X.env.qual ++ "<lambda>") params body scope (cloFrom X.env.cells scope.names []) dV pm (.ref c') ctv) ⟨[], []⟩) _ _ _
      rw [e1]
      refine wpAny_bind (wpAny_seqItems (kept d2 d4 d5) d3 ?_)
      rw [e2]
      exact wpAny_pure go
  have hx : PassesAt (L2.CX X.prog X.w) Z σZ (WE W σZ) := by
    have z := passAt tk σZ
    rw [eP, ew] at z
    exact z
  rw [eP, ew]
  refine wpAny_call (codeAny_mono run fun r s' hq => ?_)
  cases r with
  | error e => exact hx pinsZ HZ sZ e s' IZ hq
  | ok fl =>
    cases fl with
    | ret u =>
      refine IZ.after ?_
      rw [eP, ew]
      exact hq
    | next => exact hq.elim
    | brk => exact hq.elim
    | cont => exact hq.elim
end
end DLM

namespace DL
open PySem PySem.Spec PyProof.Rows L2 LamX DLM
variable {w : Wd}
/-! ### into the world of a function handed in, and back -/
mutual
theorem Den.up {x : Wx} (hl : w.x.lam = none) {as : List Addr} {H : Hp} : ∀ {v : V} {d : D}, Den w as H v d → Den (w.wx x) as H v d
  | _, _, .non => .non
  | _, _, .bl b => .bl b
  | _, _, .int i => .int i
  | _, _, .str s => .str s
  | _, _, .lst f n r q => .lst f n r (Dens.up hl q)
  | _, _, .ro f n r q => .ro f n r (Dens.up hl q)
  | _, _, .tup f n r q => .tup f n r (Dens.up hl q)
  | _, _, .roK r q => .roK r (Dens.up hl q)
  | _, _, .tupK r q => .tupK r (Dens.up hl q)
  | _, _, .dic f n r k q => .dic f n r k (Dens.up hl q)
  | _, _, .obj f n r k q => .obj f n r k (Dens.up hl q)
  | _, _, .exc0 f n r => .exc0 f n r
  | _, _, .excD f n r f2 n2 r2 k q => .excD f n r f2 n2 r2 k (Dens.up hl q)
  | _, _, .ty n => .ty n
  | _, _, .cls c => .cls c
  | _, _, .lam h => by rw [hl] at h; cases h
  | _, _, .loc h => .loc h
theorem Dens.up {x : Wx} (hl : w.x.lam = none) {as : List Addr} {H : Hp} : ∀ {vs : List V} {ds : List D}, Dens w as H vs ds → Dens (w.wx x) as H vs ds
  | _, _, .nil => .nil
  | _, _, .cons h t => .cons (Den.up hl h) (Dens.up hl t)
end
mutual
theorem Den.dn {x : Wx} {k : Nat} {as : List Addr} {H : Hp} : ∀ {v : V} {d : D}, Den (w.wx x) as H v d → dLess k d = true → Den w as H v d
  | _, _, .non, _ => .non
  | _, _, .bl b, _ => .bl b
  | _, _, .int i, _ => .int i
  | _, _, .str s, _ => .str s
  | _, _, .lst f n r q, e => .lst f n r (Dens.dn q (by simpa [dLess] using e))
  | _, _, .ro f n r q, e => .ro f n r (Dens.dn q (by simpa [dLess] using e))
  | _, _, .tup f n r q, e => .tup f n r (Dens.dn q (by simpa [dLess] using e))
  | _, _, .roK r q, e => .roK r (Dens.dn q (by simpa [dLess] using e))
  | _, _, .tupK r q, e => .tupK r (Dens.dn q (by simpa [dLess] using e))
  | _, _, .dic f n r k2 q, e => .dic f n r k2 (Dens.dn q (by simpa [dLess, ksLess_map] using e))
  | _, _, .obj f n r k2 q, e => .obj f n r k2 (Dens.dn q (by simpa [dLess, fsLess_map] using e))
  | _, _, .exc0 f n r, _ => .exc0 f n r
  | _, _, .excD f n r f2 n2 r2 k2 q, e => .excD f n r f2 n2 r2 k2 (Dens.dn q (by simpa [dLess, fsLess_map] using e))
  | _, _, .ty n, _ => .ty n
  | _, _, .cls c, _ => .cls c
  | _, _, .lam h, e => by simp [dLess] at e
  | _, _, .loc h, _ => .loc h
theorem Dens.dn {x : Wx} {k : Nat} {as : List Addr} {H : Hp} : ∀ {vs : List V} {ds : List D}, Dens (w.wx x) as H vs ds → dsLess k ds = true → Dens w as H vs ds
  | _, _, .nil, _ => .nil
  | _, _, .cons h t, e => by
    obtain ⟨e1, e2⟩ := Bool.and_eq_true_iff.mp (by simpa only [dsLess] using e)
    exact .cons (Den.dn h e1) (Dens.dn t e2)
end
theorem MDen.up {x : Wx} (hl : w.x.lam = none) {as : List Addr} {H : Hp} {a : Addr} : ∀ {m : M}, MDen w as H a m → MDen (w.wx x) as H a m
  | .lst _, ⟨vs, h, d⟩ => ⟨vs, h, d.up hl⟩
  | .dic _, ⟨vs, h, k, d⟩ => ⟨vs, h, k, d.up hl⟩
  | .obj _ _, ⟨dx, vs, h, k, d⟩ => ⟨dx, vs, h, k, d.up hl⟩
  | .dead, ⟨o, h⟩ => ⟨o, h⟩
theorem MDen.dn {x : Wx} {k : Nat} {as : List Addr} {H : Hp} {a : Addr} : ∀ {m : M}, MDen (w.wx x) as H a m → mLess k m = true → MDen w as H a m
  | .lst _, ⟨vs, h, d⟩, e => ⟨vs, h, d.dn (by simpa [mLess] using e)⟩
  | .dic _, ⟨vs, h, q, d⟩, e => ⟨vs, h, q, d.dn (by simpa [mLess, ksLess_map] using e)⟩
  | .obj _ _, ⟨dx, vs, h, q, d⟩, e => ⟨dx, vs, h, q, d.dn (by simpa [mLess, fsLess_map] using e)⟩
  | .dead, ⟨o, h⟩, _ => ⟨o, h⟩
theorem Sl.up {x : Wx} (hl : w.x.lam = none) {as : List Addr} {H : Hp} {σ : L2.St} {δ : Dv} (s : Sl w as H σ δ) : Sl (w.wx x) as H σ δ := ⟨s.len, fun i d h => let ⟨v, h1, h2⟩ := s.get i d h; ⟨v, h1, h2.up hl⟩⟩
/-- one more frame behind, its code, its function -/
def Wx.more (x : Wx) (σ : L2.St) (δ : Dv) (c : Addr) (q : Str) (f : Addr) : Wx := ⟨(σ, δ) :: x.gh, x.T, (c, q) :: x.cd, some f⟩
theorem Rel.up {as : List Addr} {H : Hp} {μ : List M} {σ : L2.St} {δ : Dv} {c f : Addr} {q : Str} (hl : w.x.lam = none) (r : Rel w as H μ) (s : Sl w as H σ δ) (hc : c ∉ as ∧ c ∉ w.fr ∧ H c = some (CodeO c q)) : Rel (w.wx (w.x.more σ δ c q f)) as H μ :=
  ⟨r.nd, r.off, r.len, fun n a m h1 h2 => (r.cell n a m h1 h2).up hl, r.frk, fun p m => by
    rcases List.mem_cons.mp m with e | e
    · rw [e]; exact s.up hl
    · exact (r.gh p e).up hl, ⟨r.tab.tb, fun p m => by
    rcases List.mem_cons.mp m with e | e
    · rw [e]; exact hc
    · exact r.tab.co p e⟩⟩
theorem frz_less {k : Nat} {μ : List M} {d d' : D} (e : frzD k μ d = some d') : dLess k d' = true := by
  cases d with
  | loc n =>
    unfold frzD at e
    dsimp only at e
    by_cases hk : n < k
    · rw [if_pos hk] at e
      cases e
      simpa [dLess] using hk
    · rw [if_neg hk] at e
      cases z : μ[n]? with
      | none => rw [z] at e; cases e
      | some m =>
        rw [z] at e
        cases m with
        | lst l => dsimp only at e; split at e
                   · rename_i hl; cases e; simpa [dLess] using hl
                   · cases e
        | dic l => dsimp only at e; split at e
                   · rename_i hl; cases e; simpa [dLess] using hl
                   · cases e
        | obj c l => dsimp only at e; split at e
                     · rename_i hl; cases e; simpa [dLess] using hl
                     · cases e
        | dead => cases e
  | _ =>
    unfold frzD at e; dsimp only at e; split at e
    · rename_i hl; cases e; exact hl
    · cases e
theorem EOk.cutX {W : WX} {x : Wx} {σ : L2.St} {as : List Addr} {H : Hp} {μ : List M} {r : ER} {Q : VK} (r0 : Rel w as H μ) (r1 : Rel (w.wx x) as H μ) (hT : x.T = w.x.T) (hcd : ∀ p ∈ w.x.cd, p ∈ x.cd) (q : EOk w W σ as H (cutL μ.length r) Q) : EOk (w.wx x) W σ as H r Q := by
  have back : ∀ {H' : Hp} {μ' : List M}, Ext as H H' as → Rel (w.wx x) as H' (μ'.take μ.length) → μLess μ.length μ' = true → Rel w as H' (μ'.take μ.length) := fun {H' μ'} e r ml =>
    ⟨r.nd, r.off, r.len, fun n a m h1 h2 => (r.cell n a m h1 h2).dn (k := μ.length) (List.all_eq_true.mp ml m (List.mem_of_getElem? h2)), r.frk, fun p m => (r0.gh p m).ext e, ⟨fun p m => r.tab.tb p (by rw [show (w.wx x).T = x.T from rfl, hT]; exact m), fun p m => r.tab.co p (hcd p m)⟩⟩
  cases r with
  | bad => exact q
  | ok d μ' =>
    intro v H' as' e r' dn
    unfold cutL at q
    dsimp only at q
    cases z : frzD μ.length μ' d with
    | none => rw [z] at q; exact q.elim
    | some d' =>
      simp only [z] at q
      cases z2 : μLess μ.length μ' with
      | false => rw [z2] at q; exact q.elim
      | true =>
        simp only [z2, if_true] at q
        obtain ⟨e1, r2, et⟩ := r1.cut r' e z2
        obtain ⟨t, rfl⟩ := e.pre
        have zl := frz_less z
        rw [← r0.len] at z
        exact q v H' as e1 (back e1 r2 z2) ((frz_den r' dn z).dn zl)
  | exc c fs μ' =>
    intro dd H' as' e r' xd
    unfold cutL at q
    dsimp only at q
    cases z2 : (fsLess μ.length fs && μLess μ.length μ') with
    | false => rw [z2] at q; exact q.elim
    | true =>
      simp only [z2, if_true] at q
      obtain ⟨z3, z4⟩ := Bool.and_eq_true_iff.mp z2
      obtain ⟨e1, r2, et⟩ := r1.cut r' e z4
      obtain ⟨t, rfl⟩ := e.pre
      have z5 := z3
      rw [← r0.len] at z3
      refine q dd H' as e1 (back e1 r2 z4) ?_
      rcases xd.cut z3 with x | ⟨dx, vs, h1, h2, h3, h4, h5, h6⟩
      · exact .inl x
      · exact .inr ⟨dx, vs, h1, h2, h3, h4, h5, h6.dn (k := μ.length) (by rw [← fsLess_map]; exact z5)⟩

/-! ### the function handed in is called -/
def mAsk (i : Nat) (ask : List M → ER) : EM := fun δ μ => match δ[i]? with
  | some (some .lam) => ask μ
  | _ => .bad
/-- a def that is handed a lambda: its body mb by what the lambda does -/
def fLam (n : Nat) (mb : (List M → ER) → SM) (ask : List M → ER) (μ : List M) : ER := cutL μ.length (retE (mb ask (some .lam :: List.replicate (n - 1) none) μ))
section
variable {X : Cx} {E : XK} {x a : Str} {g c P : Addr} {k : Nat} {stg : Stmt} {fdg : FuncData} {Ng : List Str} {params : Arguments} {body : Expr} {scope : Scope} {p lpos pos : Pos} {nms : List Str} {cs : List (Int × Nat × Pos)} {m : EM} {mb : (List M → ER) → SM}
theorem ext_tab {q : Str} {c' : Addr} {lp : Pos} {fr as : List Addr} {H H1 : Hp} {μ : List M} (r : Rel (w.on fr) as H μ) (hm : (P, q) ∈ w.x.T) (hu : ∀ p ∈ w.x.T, p.1 = P → p.2 = q) (hco : H1 c' = some (CodeO c' q))
    (h : (H1 = H ∧ ∃ ps : Array Value, H P = some (.tbl ps) ∧ codeAmong lp ps.toList = some (.ref c')) ∨ ∃ ps : Array Value, H P = some (.tbl ps) ∧ H1 = upd (upd H P (.tbl (ps ++ #[rawInt lp.line, rawInt lp.col, .ref c']))) c' (CodeO c' q) ∧ H c' = none) :
    Ext as H H1 as ∧ Rel (w.on fr) as H1 μ ∧ c' ∉ as ∧ c' ∉ fr := by
  rcases h with ⟨h, ps, hP, hh⟩ | ⟨ps, hP, h, nC⟩
  · subst h
    obtain ⟨t1, t2, ps', t3, t4, t5⟩ := r.tab.tb (P, q) hm
    have t3 : H1 P = some (.tbl ps') := t3
    rw [hP] at t3
    cases t3
    obtain ⟨c0, w1, w2, w3, _⟩ := t5 lp _ hh
    cases w1
    exact ⟨Ext.refl, r, w2, w3⟩
  · obtain ⟨t1, t2, ps', t3, t4, t5⟩ := r.tab.tb (P, q) hm
    have t3 : H P = some (.tbl ps') := t3
    rw [hP] at t3
    cases t3
    have nPC : P ≠ c' := ne_of_none hP nC
    have at_ : ∀ b, b ≠ P → b ≠ c' → H1 b = H b := fun b n1 n2 => by rw [h, upd_ne n2, upd_ne n1]
    have atP : H1 P = some (.tbl (ps ++ #[rawInt lp.line, rawInt lp.col, .ref c'])) := by rw [h, upd_ne nPC, upd_same]
    have e : Ext as H H1 as := ⟨⟨[], by simp⟩, fun a m n => absurd m n, fun b o hb n => by
      by_cases eb : b = P
      · subst eb
        rw [hP] at hb; cases hb
        exact .inr ⟨⟨ps, rfl⟩, _, atP⟩
      · exact .inl (by rw [at_ b eb (ne_of_none hb nC)]; exact hb)⟩
    have same : ∀ b o, H b = some o → b ≠ P → H1 b = some o := fun b o hb n => by rw [at_ b n (ne_of_none hb nC)]; exact hb
    have cA : c' ∉ as := r.new nC
    have cF : c' ∉ fr := r.newF nC
    have eL : (ps ++ #[rawInt lp.line, rawInt lp.col, .ref c']).toList = ps.toList ++ [rawInt lp.line, rawInt lp.col, .ref c'] := by simp
    refine ⟨e, ⟨r.nd, r.off, r.len, fun n b mm h1 h2 => (r.cell n b mm h1 h2).ext e fun o ho => same b o ho (fun z => t1 (by rw [← z]; exact List.mem_of_getElem? h1)), fun b mm => ?_, fun pp mm => (r.gh pp mm).ext e, ⟨fun pp mm => ?_, fun pp mm => ?_⟩⟩, cA, cF⟩
    · obtain ⟨o, ho⟩ := r.frk b mm
      exact ⟨o, same b o ho (fun z => t2 (by rw [← z]; exact mm))⟩
    · obtain ⟨s1, s2, ps2, s3, s4, s5⟩ := r.tab.tb pp mm
      by_cases eb : pp.1 = P
      · have eq := hu pp mm eb
        refine ⟨s1, s2, _, by rw [eb]; exact atP, by rw [eL]; exact PySem.TriplesOk_snoc _ _ _ _ t4, fun pos cv hcv => ?_⟩
        rw [eL] at hcv
        rcases among_app _ t4 hcv with z | z
        · obtain ⟨c0, w1, w2, w3, w4⟩ := t5 pos cv z
          refine ⟨c0, w1, w2, w3, ?_⟩
          rw [eq]
          exact same c0 _ w4 (fun y => by rw [y, hP] at w4; exact codeO_ne ps (Option.some.inj w4).symm)
        · exact ⟨c', z, cA, cF, by rw [eq]; exact hco⟩
      · refine ⟨s1, s2, ps2, same _ _ s3 eb, s4, fun pos cv hcv => ?_⟩
        obtain ⟨c0, w1, w2, w3, w4⟩ := s5 pos cv hcv
        exact ⟨c0, w1, w2, w3, same c0 _ w4 (fun y => by rw [y, hP] at w4; exact codeO_ne ps (Option.some.inj w4).symm)⟩
    · obtain ⟨s1, s2, s3⟩ := r.tab.co pp mm
      exact ⟨s1, s2, same _ _ s3 (fun y => by rw [y, hP] at s3; exact codeO_ne ps (Option.some.inj s3).symm)⟩
/-- the judgement of the call of a's function, in the def g's body Z -/
def Act (Z : Cx) (a : Str) (w : Wd) (ask : List M → ER) : Prop := ∀ (W : WX) (pn : List (Addr × Obj)) (xe : Value → Shared → Prop) (p1 p2 : Pos), Takes (Z.tr pn xe) W → PE (Z.tr pn xe) (.Call (.Name a p1) [] [] p2) (rdE w W (mAsk 0 ask))
/-- x(lambda ..: body) -/
theorem d_lamcall (hlam : w.x.lam = none) (Fg : Fun X.K x x stg g fdg) (Sg : FnScope Ng [a] (defScope stg)) (hg : Gl X x) (hm : X.mg x = some (.ref g)) (hbg : Binds X.K fdg [a] []) (hva : Vis (defScope stg) a) (hNg : Ng[0]? = some a)
    (hG : ∀ (w' : Wd) (cdv : Value) (s : Shared) (H : Hp) (ask : List M → ER), w'.K = w.K → w'.ct = w.ct → w'.x.T = w.x.T → RoomG (k + 1) (X.A.deeper (envOfC x (defScope stg) s.heap.objs.size g cdv)) → Act (cxOf (L2.CX X.prog X.w) X.prog X.w X.K X.mg X.base Ng x (defScope stg) g cdv X.A X.stack s H E) a w' ask →
      PSs (cxOf (L2.CX X.prog X.w) X.prog X.w X.K X.mg X.base Ng x (defScope stg) g cdv X.A X.stack s H E) (defBody stg) (rdS w' (WV E) (mb ask)))
    (TB : TabB X.base X.mg c P) (hcode : X.env.code = .ref c) (hmT : (P, X.env.qual ++ "<lambda>") ∈ w.x.T) (hu : ∀ p ∈ w.x.T, p.1 = P → p.2 = X.env.qual ++ "<lambda>") (hr : RoomG (k + 2) X.A) (L : LmS X.N X.env.scope scope) (hdef : defaultsOf params X.env = (cs.map (cst X.env), [])) (hkw : params.kwonlyargs = [])
    (hnm : ∀ n ∈ nms, scope.names.lookup n = some .local)
    (hb0 : ∀ (q : Str) (cl : List (Str × Addr)) (pm cv ctv : Value), cs.length = 0 → bindArgs (lfn q params body scope cl .none pm cv ctv) ⟨[], []⟩ = pure (nms.zip []))
    (hb1 : ∀ (q : Str) (cl : List (Str × Addr)) (T : Addr) (pm cv ctv : Value) (us : List Value), us.length = cs.length → ∃ kk, bindArgs (lfn q params body scope cl (.ref T) pm cv ctv) ⟨[], []⟩ = seqItems? (.ref T) >>= kk ∧ kk (some us.toArray) = pure (nms.zip us))
    (hbody : ∀ (w' : Wd) (A : Around) (outer : List Env) (s : Shared) (H : Hp) (E : XK) (f c' : Addr), w'.K = w.K → w'.ct = w.ct → w'.x.T = w.x.T → RoomG k (A.deeper (lamEnv X scope s.heap.objs.size f c')) → PE (lamCx X A outer s H E scope f c') body (rdE w' (WV E) m))
    (tk : Takes X (WV E)) (hdb : (x == ("__debug__" : Str)) = false := by decide) (had : (a == ("__debug__" : Str)) = false := by decide) (hacd : (a == ("__classdict__" : Str)) = false := by decide) :
    PE X (.Call (.Name x p) [.Lambda params body scope lpos] [] pos) (rdE w (WV E) fun δ μ => fLam Ng.length mb (fun μ => m δ μ) μ) := by
  refine ⟨fun pins s σ H Q I ⟨fr, as, δ, μ, h, q⟩ => ?_⟩
  obtain ⟨oc, od, kV, doc, pm0, an, cdv, ct, osl, rfl, lk, hcd⟩ := Fg.ex
  refine wpAny_Call_Name_kw (ld_glob I hg hm ?_ hdb)
  refine PySem.W.callWith_K (h₀ := X.base) I.ok.mod.kin Fg.kp ?_ (by rfl) (by rfl)
  show wpAny _ _ (spliced ((false, eval (.Lambda params body scope lpos) X.env) :: backTo pos (starEach [] X.env))) _ _ s
  have tabs : Tabs w.x.T H := fun pp hp => by
    obtain ⟨_, _, ps, t3, t4, t5⟩ := h.rel.tab.tb pp hp
    exact ⟨ps, t3, t4, fun pos cv e => let ⟨c0, w1, _, _, w4⟩ := t5 pos cv e; ⟨c0, w1, w4⟩⟩
  refine Calls.spliced_cons (DLM.made I TB hcode hmT hu tabs hdef hkw (L.has I.ok) fun f c' dV pm ctv us H1 s' hl I1 hH1 T1 hf hD hfn hfr hco => ?_)
  refine Calls.spliced_nil ⟨I1.kIn, ?_⟩
  obtain ⟨e1, r1, cA, cF⟩ := ext_tab h.rel hmT hu hco hH1
  have s1 : Sl (w.on fr) as H1 σ δ := h.sl.ext e1
  have r2 := Rel.up (w := w.on fr) (f := f) (q := X.env.qual ++ "<lambda>") hlam r1 s1 ⟨cA, cF, hco⟩
  have q1 : EOk (w.on fr) (WV E) σ as H1 (cutL μ.length (retE (mb (fun μ => m δ μ) (some .lam :: List.replicate (Ng.length - 1) none) μ))) Q := EOk.ext e1 q
  have q2 := EOk.cutX (w := w.on fr) r1 r2 rfl (fun p hp => List.mem_cons_of_mem _ hp) q1
  generalize hw' : (w.on fr).wx ((w.on fr).x.more σ δ c' (X.env.qual ++ "<lambda>") f) = w' at r2 q2
  have wK : w'.K = w.K := by rw [← hw']; rfl
  have wC : w'.ct = w.ct := by rw [← hw']; rfl
  have wT : w'.x.T = w.x.T := by rw [← hw']; rfl
  have wL : w'.x.lam = some f := by rw [← hw']; rfl
  have wG : (σ, δ) ∈ w'.gh := by rw [← hw']; exact List.mem_cons_self
  have wD : (c', X.env.qual ++ "<lambda>") ∈ w'.x.cd := by rw [← hw']; exact List.mem_cons_self
  have wF : w'.on fr = w' := by rw [← hw']; rfl
  have rc : codeAny (model X.prog X.w) X.A (.call (.ref g) ⟨[.ref f], []⟩) (CR (L2.CX X.prog X.w) X.stack X.prog X.w H1 s' Q E) s' := by
    refine run_ofS (N := Ng) (ps := [a]) (us := [.ref f]) (vs := [.ref f]) (k := k + 1) lk hcd Sg hr.toRoom I1.env0 (by simpa using hbg s' [.ref f] I1.kIn rfl) (.cons rfl .nil) rfl fun hrr => ?_
    have hr' : RoomG (k + 1) (X.A.deeper (envOfC x (defScope stg) s'.heap.objs.size g cdv)) := ⟨hrr, hr.gd⟩
    refine ⟨_, hG w' cdv s' H1 (fun μ => m δ μ) wK wC wT hr' ?_, fr, as, some D.lam :: List.replicate (Ng.length - 1) none, μ, ⟨by rw [wF]; exact r2, ?_⟩, ?_⟩
    · -- the call of the lambda
      intro W pn xe p1 p2 tkZ
      refine ⟨fun pinsZ sZ σZ HZ QZ IZ ⟨frZ, asZ, δZ, μZ, hZ, qZ⟩ => ?_⟩
      unfold mAsk at qZ
      cases zz : δZ[0]? with
      | none => simp only [zz] at qZ; exact qZ.elim
      | some o =>
        cases o with
        | none => simp only [zz] at qZ; exact qZ.elim
        | some d =>
          cases d with
          | lam =>
            simp only [zz] at qZ
            obtain ⟨v, hv, hdn⟩ := hZ.sl.get 0 .lam zz
            have ev : v = .ref f := by
              cases hdn with
              | lam hh =>
                have hh : w'.x.lam = some _ := hh
                rw [wL] at hh
                cases hh; rfl
            subst ev
            refine wpAny_Call_Name_kw (thn ((pe_var (X := (cxOf (L2.CX X.prog X.w) X.prog X.w X.K X.mg X.base Ng x (defScope stg) g cdv X.A X.stack s' H1 E).tr pn xe) (pos := p1) (i := 0) hNg hva had hacd).run pinsZ sZ σZ HZ (fun v H1 => v = .ref f ∧ H1 = HZ) IZ ⟨.ref f, hv, rfl, rfl⟩) fun u s1 ⟨v, H2, I2, r2', q2'⟩ => ?_)
            obtain ⟨ev, eH⟩ := q2'
            subst ev
            rw [eH] at I2
            obtain rfl : u = Value.ref f := r2'
            have un : Un (frs X.stack) [] H1 HZ s'.heap s1.heap := I2.base
            have of1 : s1.heap.get? f = some _ := un.keep f _ hf hfn hfr (by simp)
            refine PySem.W.callWith_F0 ⟨_, _, _, _, of1⟩ ?_
            have hcZ := hZ.rel.tab.co _ wD
            have slZ : Sl (w'.on frZ) asZ HZ σ δ := hZ.rel.gh _ wG
            refine DLM.called (Z := (cxOf (L2.CX X.prog X.w) X.prog X.w X.K X.mg X.base Ng x (defScope stg) g cdv X.A X.stack s' H1 E).tr pn xe) (nms := nms) (k := k) (tb := fun E => rdE w' (WV E) m) I1 L rfl rfl rfl rfl rfl I2 un hf hfn hfr hD hnm (fun d0 u0 => ?_) (fun T dT => ?_) hcZ.2.2 tkZ hr' (fun A outer s H E hr2 => hbody w' A outer s H E f c' wK wC wT hr2) ?_
            · subst d0 u0
              exact hb0 _ _ _ _ _ (by rw [← hl]; rfl)
            · subst dT
              exact hb1 _ _ _ _ _ _ _ hl
            · refine ⟨frZ, asZ, δ, μZ, ⟨hZ.rel, slZ⟩, ?_⟩
              revert qZ
              cases m δ μZ with
              | bad => exact fun q => q
              | ok d μ1 => exact fun q => q
              | exc c fs μ1 => exact fun q => q
          | _ => simp only [zz] at qZ; exact qZ.elim
    · rw [wF]
      have hN : 1 ≤ Ng.length := by
        have := (List.getElem?_eq_some_iff.mp hNg).1
        omega
      refine ⟨by simp [L2.start], fun i d hi => ?_⟩
      cases i with
      | zero =>
        have hi : (some (some D.lam) : Option (Option D)) = some (some d) := hi
        cases hi
        exact ⟨.ref f, rfl, .lam wL⟩
      | succ i =>
        have hi : (List.replicate (Ng.length - 1) none)[i]? = some (some d) := hi
        rw [List.getElem?_replicate] at hi
        split at hi <;> cases hi
    · rw [wF]
      exact SOk.ret (EOk.slot q2)
  refine wpAny_call (codeAny_mono rc fun r s2 hq => ?_)
  have hx : Passes (L2.CX X.prog X.w) X E := passes_call (W := WV E) tk fun _ _ _ _ h => h
  cases r with
  | error e => exact hx pins σ H1 s' e s2 I1 hq
  | ok fl =>
    cases fl with
    | ret u => exact I1.after hq
    | next => exact False.elim hq
    | brk => exact False.elim hq
    | cont => exact False.elim hq
end
end DL

namespace DL
open PySem PySem.Spec PyProof.Rows L2
variable {w : Wd}
/-! ### dicts -/
def keyOf : D → Option Key
  | .int i => some (.inl i)
  | .str s => some (.inr ⟨s.toArray⟩)
  | _ => none
theorem keyOf_v {as H v d k} (h : Den w as H v d) (e : keyOf d = some k) : v = kV k := by
  cases h with
  | int i => cases e; rfl
  | str s => cases e; rfl
  | _ => cases e
def dicOf (μ : List M) : D → Option (List (Key × D))
  | .dic l => some l
  | .loc n => match μ[n]? with
    | some (.dic l) => some l
    | _ => none
  | _ => none
theorem dic_of {as H μ v d l} (r : Rel w as H μ) (h : Den w as H v d) (e : dicOf μ d = some l) : ∃ a, ∃ kvs : List (Key × V), v = .ref a ∧ H a = some (.dK kvs) ∧ kvs.map (·.1) = l.map (·.1) ∧ Dens w as H (kvs.map (·.2)) (l.map (·.2)) := by
  cases h with
  | dic f n q k q2 => cases e; exact ⟨_, _, rfl, q, k, q2⟩
  | @loc a n q =>
    have e : (match μ[n]? with | some (.dic l) => some l | _ => none) = some l := e
    cases z : μ[n]? with
    | none => rw [z] at e; cases e
    | some m =>
      rw [z] at e
      have cc := r.cell n a m q z
      cases m with
      | dic l' => cases e; obtain ⟨kvs, h1, h2, h3⟩ := cc; exact ⟨a, kvs, rfl, h1, h2, h3⟩
      | _ => cases e
  | _ => cases e
def getG {α : Type} (kvs : List (Key × α)) (k : Key) : Option α := (kvs.find? fun kv => decide (kv.1 = k)).map (·.2)
def putG {α : Type} (kvs : List (Key × α)) (k : Key) (v : α) : List (Key × α) :=
  if (kvs.any fun kv => decide (kv.1 = k)) = true then kvs.map (fun kv => if kv.1 = k then (kv.1, v) else kv) else kvs ++ [(k, v)]
theorem getG_dens {as H} (k : Key) : ∀ {kvs : List (Key × V)} {ds : List (Key × D)}, kvs.map (·.1) = ds.map (·.1) → Dens w as H (kvs.map (·.2)) (ds.map (·.2)) → ∀ d, getG ds k = some d → ∃ v, valV kvs k = some v ∧ Den w as H v d
  | [], [], _, _, _, e => by cases e
  | [], _ :: _, e, _, _, _ => by cases e
  | _ :: _, [], e, _, _, _ => by cases e
  | (x, v) :: kvs, (y, d) :: ds, e, h, d', q => by
    have e1 : x = y := (List.cons.inj e).1
    have e2 : kvs.map (·.1) = ds.map (·.1) := (List.cons.inj e).2
    subst e1
    cases h with
    | cons h1 h2 =>
      by_cases z : x = k
      · rw [valV_pos z]
        have q : some d = some d' := by simpa [getG, List.find?_cons, z] using q
        cases q
        exact ⟨v, rfl, h1⟩
      · rw [valV_neg z]
        exact getG_dens k e2 h2 d' (by simpa [getG, List.find?_cons, z] using q)
theorem getG_none {k : Key} : ∀ {kvs : List (Key × V)} {ds : List (Key × D)}, kvs.map (·.1) = ds.map (·.1) → getG ds k = none → valV kvs k = none
  | [], [], _, _ => rfl
  | [], _ :: _, e, _ => by cases e
  | _ :: _, [], e, _ => by cases e
  | (x, v) :: kvs, (y, d) :: ds, e, q => by
    have e1 : x = y := (List.cons.inj e).1
    have e2 : kvs.map (·.1) = ds.map (·.1) := (List.cons.inj e).2
    subst e1
    by_cases z : x = k
    · simp [getG, List.find?_cons, z] at q
    · rw [valV_neg z]
      exact getG_none e2 (by simpa [getG, List.find?_cons, z] using q)
theorem any_keys {α β : Type} (k : Key) : ∀ {a : List (Key × α)} {b : List (Key × β)}, a.map (·.1) = b.map (·.1) → (a.any fun kv => decide (kv.1 = k)) = (b.any fun kv => decide (kv.1 = k))
  | [], [], _ => rfl
  | [], _ :: _, e => by cases e
  | _ :: _, [], e => by cases e
  | (x, v) :: a, (y, d) :: b, e => by
    have e1 : x = y := (List.cons.inj e).1
    have e2 : a.map (·.1) = b.map (·.1) := (List.cons.inj e).2
    subst e1
    simp only [List.any_cons, any_keys k e2]
theorem map_put {as H} {k : Key} {v : V} {d : D} (hv : Den w as H v d) : ∀ {kvs : List (Key × V)} {ds : List (Key × D)}, kvs.map (·.1) = ds.map (·.1) → Dens w as H (kvs.map (·.2)) (ds.map (·.2)) →
    (kvs.map (fun kv => if kv.1 = k then (kv.1, v) else kv)).map (·.1) = (ds.map (fun kv => if kv.1 = k then (kv.1, d) else kv)).map (·.1) ∧ Dens w as H ((kvs.map (fun kv => if kv.1 = k then (kv.1, v) else kv)).map (·.2)) ((ds.map (fun kv => if kv.1 = k then (kv.1, d) else kv)).map (·.2))
  | [], [], _, _ => ⟨rfl, .nil⟩
  | [], _ :: _, e, _ => by cases e
  | _ :: _, [], e, _ => by cases e
  | (x, u) :: kvs, (y, z) :: ds, e, h => by
    have e1 : x = y := (List.cons.inj e).1
    have e2 : kvs.map (·.1) = ds.map (·.1) := (List.cons.inj e).2
    subst e1
    cases h with
    | cons h1 h2 =>
      obtain ⟨i1, i2⟩ := map_put hv e2 h2
      by_cases q : x = k
      · refine ⟨?_, ?_⟩
        · simp only [List.map_cons, if_pos q]; rw [i1]
        · simp only [List.map_cons, if_pos q]; exact .cons hv i2
      · refine ⟨?_, ?_⟩
        · simp only [List.map_cons, if_neg q]; rw [i1]
        · simp only [List.map_cons, if_neg q]; exact .cons h1 i2
theorem putG_dens {as H} {k : Key} {v : V} {d : D} (hv : Den w as H v d) {kvs : List (Key × V)} {ds : List (Key × D)} (e : kvs.map (·.1) = ds.map (·.1)) (h : Dens w as H (kvs.map (·.2)) (ds.map (·.2))) :
    (putK kvs k v).map (·.1) = (putG ds k d).map (·.1) ∧ Dens w as H ((putK kvs k v).map (·.2)) ((putG ds k d).map (·.2)) := by
  unfold putK putG
  rw [any_keys k e]
  by_cases q : (ds.any fun kv => decide (kv.1 = k)) = true
  · rw [if_pos q, if_pos q]
    exact map_put hv e h
  · rw [if_neg q, if_neg q]
    refine ⟨by simp [e], ?_⟩
    rw [List.map_append, List.map_append]
    exact h.append (.cons hv .nil)
section
variable {X : Cx} {W : WX} {e a b c o i value : Expr} {pos pos' : Pos}
/-- d[k] -/
def fDGet (x y : D) (μ : List M) : ER := match dicOf μ x, keyOf y with
  | some l, some k => match getG l k with
    | some d => .ok d μ
    | none => .bad
  | _, _ => .bad
theorem d_dget {ma mb : EM} (hu : X.A.units + 1 < cLine) (ha : PE X a (rdE w W ma)) (hb : PE X b (rdE w W mb)) (hs : NoSl b := by exact fun _ _ => rfl) : PE X (.Subscript a b pos) (rdE w W (mOp fDGet ma mb)) :=
  PE.to (pe_dget hu ha hb hs) fun σ H Q ⟨fr, as, δ, μ, h, q⟩ => bE2 (r := fun x y H Q => ∃ a v, x = .ref a ∧ DGet H a y (some v) ∧ Q v H) h q fun as H μ x y vx vy h dx dy q => by
    unfold fDGet at q
    cases z : dicOf μ x with
    | none => rw [z] at q; exact q.elim
    | some l =>
      cases z2 : keyOf y with
      | none => rw [z, z2] at q; exact q.elim
      | some k =>
        simp only [z, z2] at q
        cases z3 : getG l k with
        | none => rw [z3] at q; exact q.elim
        | some d =>
          rw [z3] at q
          obtain ⟨p, kvs, rfl, h1, h2, h3⟩ := dic_of h.rel dx z
          obtain ⟨v, h4, h5⟩ := getG_dens k h2 h3 d z3
          have ek := keyOf_v dy z2
          subst ek
          exact ⟨p, v, rfl, by rw [← h4]; exact DGet.k h1, q v H as Ext.refl h.rel h5⟩
/-- k in d, k not in d -/
def fDIn (neg : Bool) (y x : D) (μ : List M) : ER := match dicOf μ x, keyOf y with
  | some l, some k => .ok (.bl (if neg then !(getG l k).isSome else (getG l k).isSome)) μ
  | _, _ => .bad
/-- d[k] = e, d a cell -/
def mDPut (mo mk me : EM) : SM := fun δ μ => (me δ μ).bindS δ fun d μ => (mo δ μ).bindS δ fun o μ => (mk δ μ).bindS δ fun k μ => match o, keyOf k with
  | .loc n, some key => match μ[n]? with
    | some (.dic l) => if decide (l.length < 16777216) then .nx δ (μ.set n (.dic (putG l key d))) else .bad
    | _ => .bad
  | _, _ => .bad
theorem bESx {fr as H σ δ μ} {ma : EM} {k : D → List M → SR} {E : Ends} {Q' : VK} (h : Here (w.on fr) as H σ δ μ) (q : SOk (w.on fr) W as H ((ma δ μ).bindS δ k) E)
    (kk : ∀ v H1 as1 d μ1, Ext as H H1 as1 → Here (w.on fr) as1 H1 σ δ μ1 → Den (w.on fr) as1 H1 v d → SOk (w.on fr) W as1 H1 (k d μ1) E → Q' v H1) : rdE w W ma σ H Q' := by
  refine ⟨fr, as, δ, μ, h, ?_⟩
  revert q
  cases ma δ μ with
  | ok d μ1 => exact fun q v H1 as1 e r dn => kk v H1 as1 d μ1 e (h.ext e r) dn (SOk.ext e q)
  | exc c fs μ1 => exact fun q dd H1 as1 e r x => q dd σ H1 as1 e (h.ext e r) x
  | bad => exact fun q => q
theorem s_dput {mo mk me : EM} (hu : X.A.units + 1 < cLine) (ho : PE X o (rdE w W mo)) (hi : PE X i (rdE w W mk)) (hv : PE X value (rdE w W me)) (hs : swapsWith value (some (.Subscript o i pos')) pos.line X.env = pure false := by rfl) : PS X (.Assign [.Subscript o i pos'] value pos) (rdS w W (mDPut mo mk me)) :=
  PS.to (ps_dput hu ho hi hv hs) fun E σ H ⟨fr, as, δ, μ, h, q⟩ => bESx h q fun v H1 as1 d μ1 _ h1 d1 q1 => bESx h1 q1 fun ov H2 as2 o μ2 e2 h2 o2 q2 => bESx h2 q2 fun kv H3 as3 k μ3 e3 h3 k3 q3 => by
    cases z : keyOf k with
    | none => cases o <;> simp only [z] at q3 <;> exact q3.elim
    | some key =>
      have o3 := o2.ext e3
      cases o3 with
      | @loc a n hn =>
        simp only [z] at q3
        cases z2 : μ3[n]? with
        | none => rw [z2] at q3; exact q3.elim
        | some m =>
          cases m with
          | dic l =>
            simp only [z2] at q3
            cases z3 : decide (l.length < 16777216) with
            | false => simp only [z3] at q3; exact q3.elim
            | true =>
              simp only [z3, if_true] at q3
              obtain ⟨kvs, g1, g2, g3⟩ := h3.rel.cell n a _ hn z2
              have ek := keyOf_v k3 z
              subst ek
              have dd := (d1.ext e2).ext e3
              obtain ⟨p1, p2⟩ := putG_dens (k := key) dd g2 g3
              have ha : a ∈ as3 := List.mem_of_getElem? hn
              have hl : kvs.length = l.length := by have := congrArg List.length g2; simpa using this
              have ew : Ext as3 H3 (upd H3 a (.dK (putK kvs key v))) as3 := Ext.write ha
              refine ⟨a, _, rfl, DPut.k g1 (by rw [hl, sizeLine_eq]; exact of_decide_eq_true z3), q3 σ _ as3 ew ⟨h3.rel.write hn ⟨_, upd_same, p1, p2.ext ew⟩, h3.sl.ext ew⟩⟩
          | _ => rw [z2] at q3; exact q3.elim
      | _ => simp only [z] at q3; exact q3.elim
/-- {k: v, ..} -/
def mPrs : List (EM × EM) → Dv → List M → Option (List (Key × D) × List M)
  | [], _, μ => some ([], μ)
  | (mk, mv) :: r, δ, μ => match mk δ μ with
    | .ok k μ1 => match keyOf k with
      | some key => match mv δ μ1 with
        | .ok d μ2 => match mPrs r δ μ2 with
          | some (l, μ3) => some ((key, d) :: l, μ3)
          | none => none
        | _ => none
      | none => none
    | _ => none
def mergeG (l : List (Key × D)) : List (Key × D) := l.foldl (fun acc kv => putG acc kv.1 kv.2) []
def mDic (prs : List (EM × EM)) : EM := fun δ μ => match mPrs prs δ μ with
  | some (l, μ) => if decide (l.length ≤ 15) then .ok (.dic (mergeG l)) μ else .bad
  | none => .bad
def mDicM (prs : List (EM × EM)) : EM := fun δ μ => match mPrs prs δ μ with
  | some (l, μ) => if decide (l.length ≤ 15) then .ok (.loc μ.length) (μ ++ [.dic (mergeG l)]) else .bad
  | none => .bad
theorem merge_dens {as H} : ∀ {kvs : List (Key × V)} {l : List (Key × D)} {acc : List (Key × V)} {accD : List (Key × D)}, kvs.map (·.1) = l.map (·.1) → Dens w as H (kvs.map (·.2)) (l.map (·.2)) → acc.map (·.1) = accD.map (·.1) → Dens w as H (acc.map (·.2)) (accD.map (·.2)) →
    (mergeK acc kvs).map (·.1) = (l.foldl (fun acc kv => putG acc kv.1 kv.2) accD).map (·.1) ∧ Dens w as H ((mergeK acc kvs).map (·.2)) ((l.foldl (fun acc kv => putG acc kv.1 kv.2) accD).map (·.2))
  | [], [], _, _, _, _, e, h => ⟨e, h⟩
  | [], _ :: _, _, _, e, _, _, _ => by cases e
  | _ :: _, [], _, _, e, _, _, _ => by cases e
  | (x, v) :: kvs, (y, d) :: l, acc, accD, e, h, ea, ha => by
    have e1 : x = y := (List.cons.inj e).1
    have e2 : kvs.map (·.1) = l.map (·.1) := (List.cons.inj e).2
    subst e1
    cases h with
    | cons h1 h2 =>
      obtain ⟨p1, p2⟩ := putG_dens (k := x) h1 ea ha
      have z := merge_dens (acc := putK acc x v) (accD := putG accD x d) e2 h2 p1 p2
      exact z
theorem prs_ok {fr σ δ} {R : List (V × V) → Hp → Prop} : ∀ {prs : List (EM × EM)} {as H μ} {pre : List (V × V)}, Here (w.on fr) as H σ δ μ →
    (match mPrs prs δ μ with
      | some (l, μ') => ∀ (kvs : List (Key × V)) H' as', Ext as H H' as' → Rel (w.on fr) as' H' μ' → kvs.map (·.1) = l.map (·.1) → Dens (w.on fr) as' H' (kvs.map (·.2)) (l.map (·.2)) → R (kvs.map fun kv => (kV kv.1, kv.2)) H'
      | none => False) → tPairs (prs.map fun p => (rdE w W p.1, rdE w W p.2)) σ H R
  | [], as, H, μ, _, h, q => q [] H as Ext.refl h.rel rfl .nil
  | (mk, mv) :: r, as, H, μ, _, h, q => by
    unfold mPrs at q
    show rdE w W mk σ H fun x H1 => rdE w W mv σ H1 fun y H2 => tPairs (r.map fun p => (rdE w W p.1, rdE w W p.2)) σ H2 fun ps H3 => R ((x, y) :: ps) H3
    refine ⟨fr, as, δ, μ, h, ?_⟩
    cases z1 : mk δ μ with
    | bad => simp only [z1] at q
    | exc c fs μ1 => simp only [z1] at q
    | ok k μ1 =>
      simp only [z1] at q
      intro vk H1 as1 e1 r1 k1
      cases z2 : keyOf k with
      | none => simp only [z2] at q
      | some key =>
        simp only [z2] at q
        have h1 := h.ext e1 r1
        refine ⟨fr, as1, δ, μ1, h1, ?_⟩
        cases z3 : mv δ μ1 with
        | bad => simp only [z3] at q
        | exc c fs μ1 => simp only [z3] at q
        | ok d μ2 =>
          simp only [z3] at q
          intro vv H2 as2 e2 r2 d2
          have ek := keyOf_v k1 z2
          subst ek
          refine prs_ok (pre := []) (h1.ext e2 r2) ?_
          cases z4 : mPrs r δ μ2 with
          | none => simp only [z4] at q
          | some p =>
            obtain ⟨l, μ3⟩ := p
            simp only [z4] at q
            intro kvs H3 as3 e3 r3 ke kd
            exact q ((key, vv) :: kvs) H3 as3 ((e1.trans e2).trans e3) r3 (by simp [ke]) (.cons (d2.ext e3) kd)
theorem disp_ok {fr as H σ δ μ} {prs : List (EM × EM)} {Q : VK} (h : Here (w.on fr) as H σ δ μ) (q : match mPrs prs δ μ with
      | some (l, μ') => l.length ≤ 15 ∧ ∀ p H' as' kvs, Ext as H H' as' → H p = none → p ∉ as' → p ∉ fr → Rel (w.on (p :: fr)) as' H' μ' → H' p = some (.dK kvs) → kvs.map (·.1) = (mergeG l).map (·.1) → Dens (w.on (p :: fr)) as' H' (kvs.map (·.2)) ((mergeG l).map (·.2)) → Q (.ref p) H'
      | none => False) : tDisp (prs.map fun p => (rdE w W p.1, rdE w W p.2)) σ H Q := fun p hp => by
  refine prs_ok (pre := []) (fr := p :: fr) (as := as) (δ := δ) (μ := μ) ⟨h.rel.bar hp, Sl.bar hp h.sl⟩ ?_
  cases z : mPrs prs δ μ with
  | none => rw [z] at q; exact q.elim
  | some pr =>
    obtain ⟨l, μ'⟩ := pr
    rw [z] at q
    obtain ⟨q1, q2⟩ := q
    intro kvs H' as' e r' ke kd
    have pa : p ∉ as := h.rel.new hp
    have hp' : H' p = some (.dK []) := e.keep p _ upd_same pa
    have pa' : p ∉ as' := e.out upd_same pa
    refine ⟨hp', kvs, rfl, by have := congrArg List.length ke; simp at this; omega, ?_⟩
    have hm : p ∈ (w.on (p :: fr)).fr := List.mem_cons_self
    obtain ⟨m1, m2⟩ := merge_dens ke kd (acc := []) (accD := []) rfl .nil
    refine q2 p _ as' (mergeK [] kvs) ?_ hp pa' (h.rel.newF hp) (r'.skip hm) upd_same m1 (m2.skip hm)
    exact ⟨e.pre, fun a ma na => by
      have z := e.new a ma na
      by_cases ea : a = p
      · rw [ea]; exact hp
      · rw [upd_ne ea] at z; exact z, fun b o hb nb => by
      rw [upd_ne (ne_of_none hb hp)]
      have := e.keep0 b o (by rw [upd_ne (ne_of_none hb hp)]; exact hb) nb
      exact this⟩
/-- other addresses barred, other cells -/
structure Mv (w : Wd) (fr' as as' : List Addr) : Prop where
  out : ∀ a, a ∉ w.fr → a ∉ as → a ∉ fr' ∧ a ∉ as'
  get : ∀ (n : Nat) (a : Addr), as[n]? = some a → as'[n]? = some a
mutual
theorem Den.mv {fr' as as' : List Addr} {H : Hp} (m : Mv w fr' as as') : ∀ {v : V} {d : D}, Den w as H v d → Den (w.on fr') as' H v d
  | _, _, .non => .non
  | _, _, .bl b => .bl b
  | _, _, .int i => .int i
  | _, _, .str s => .str s
  | _, _, .lst f n r q => .lst (m.out _ f n).1 (m.out _ f n).2 r (Dens.mv m q)
  | _, _, .ro f n r q => .ro (m.out _ f n).1 (m.out _ f n).2 r (Dens.mv m q)
  | _, _, .tup f n r q => .tup (m.out _ f n).1 (m.out _ f n).2 r (Dens.mv m q)
  | _, _, .roK r q => .roK r (Dens.mv m q)
  | _, _, .tupK r q => .tupK r (Dens.mv m q)
  | _, _, .dic f n r k q => .dic (m.out _ f n).1 (m.out _ f n).2 r k (Dens.mv m q)
  | _, _, .obj f n r k q => .obj (m.out _ f n).1 (m.out _ f n).2 r k (Dens.mv m q)
  | _, _, .exc0 f n r => .exc0 (m.out _ f n).1 (m.out _ f n).2 r
  | _, _, .excD f n r f2 n2 r2 k q => .excD (m.out _ f n).1 (m.out _ f n).2 r (m.out _ f2 n2).1 (m.out _ f2 n2).2 r2 k (Dens.mv m q)
  | _, _, .ty n => .ty n
  | _, _, .cls c => .cls c
  | _, _, .lam h => .lam h
  | _, _, .loc h => .loc (m.get _ _ h)
theorem Dens.mv {fr' as as' : List Addr} {H : Hp} (m : Mv w fr' as as') : ∀ {vs : List V} {ds : List D}, Dens w as H vs ds → Dens (w.on fr') as' H vs ds
  | _, _, .nil => .nil
  | _, _, .cons h t => .cons (Den.mv m h) (Dens.mv m t)
end
theorem MDen.mv {fr' as as' : List Addr} {H : Hp} {a : Addr} (m : Mv w fr' as as') : ∀ {c : M}, MDen w as H a c → MDen (w.on fr') as' H a c
  | .lst _, ⟨vs, h, d⟩ => ⟨vs, h, d.mv m⟩
  | .dic _, ⟨vs, h, k, d⟩ => ⟨vs, h, k, d.mv m⟩
  | .obj _ _, ⟨dx, vs, h, k, d⟩ => ⟨dx, vs, h, k, d.mv m⟩
  | .dead, ⟨o, h⟩ => ⟨o, h⟩
theorem Sl.mv {fr' as as' : List Addr} {H : Hp} {σ : L2.St} {δ : Dv} (m : Mv w fr' as as') (s : Sl w as H σ δ) : Sl (w.on fr') as' H σ δ := ⟨s.len, fun i d h => let ⟨v, h1, h2⟩ := s.get i d h; ⟨v, h1, h2.mv m⟩⟩
/-- the barred object p becomes a cell -/
theorem adopt {fr as : List Addr} {H : Hp} {μ : List M} {p : Addr} {c : M} (r : Rel (w.on (p :: fr)) as H μ) (pa : p ∉ as) (pf : p ∉ fr) (hc : MDen (w.on (p :: fr)) as H p c) :
    Mv (w.on (p :: fr)) fr as (as ++ [p]) ∧ Rel (w.on fr) (as ++ [p]) H (μ ++ [c]) ∧ (as ++ [p])[μ.length]? = some p := by
  have m : Mv (w.on (p :: fr)) fr as (as ++ [p]) := ⟨fun a h1 h2 => ⟨fun z => h1 (List.mem_cons_of_mem _ z), fun z => by
    rcases List.mem_append.mp z with z | z
    · exact h2 z
    · exact h1 (by rw [show a = p from by simpa using z]; exact List.mem_cons_self)⟩, fun n a h => by rw [List.getElem?_append_left (List.getElem?_eq_some_iff.mp h).1]; exact h⟩
  refine ⟨m, ⟨?_, fun a ha => ?_, by simp [r.len], fun n a c' h1 h2 => ?_, fun a ha => r.frk a (List.mem_cons_of_mem _ ha), fun q hq => Sl.mv (w := w.on (p :: fr)) m (r.gh q hq), ⟨fun q hq => ?_, fun q hq => ?_⟩⟩, ?_⟩
  · rw [List.nodup_append]
    refine ⟨r.nd, by simp, fun a ha b hb e => pa ?_⟩
    have eb : b = p := by simpa using hb
    rw [← eb, ← e]; exact ha
  · rcases List.mem_append.mp ha with z | z
    · exact fun y => r.off a z (List.mem_cons_of_mem _ y)
    · rw [show a = p from by simpa using z]; exact pf
  · by_cases hn : n < as.length
    · rw [List.getElem?_append_left hn] at h1
      rw [List.getElem?_append_left (r.len ▸ hn)] at h2
      exact MDen.mv (w := w.on (p :: fr)) m (r.cell n a _ h1 h2)
    · have e2 : n = as.length := by
        have := (List.getElem?_eq_some_iff.mp h1).1
        rw [List.length_append, List.length_singleton] at this
        omega
      subst e2
      rw [List.getElem?_append_right (Nat.le_refl _)] at h1
      rw [List.getElem?_append_right (Nat.le_of_eq r.len.symm)] at h2
      simp at h1
      simp [r.len] at h2
      subst h1 h2
      exact MDen.mv (w := w.on (p :: fr)) m hc
  · obtain ⟨t1, t2, ps, t3, t4, t5⟩ := r.tab.tb q hq
    exact ⟨(m.out _ t2 t1).2, (m.out _ t2 t1).1, ps, t3, t4, fun pos cv e => let ⟨c0, w1, w2, w3, w4⟩ := t5 pos cv e; ⟨c0, w1, (m.out _ w3 w2).2, (m.out _ w3 w2).1, w4⟩⟩
  · obtain ⟨t1, t2, t3⟩ := r.tab.co q hq
    exact ⟨(m.out _ t2 t1).2, (m.out _ t2 t1).1, t3⟩
  · rw [← r.len, List.getElem?_append_right (Nat.le_refl _)]
    simp
theorem d_dicM {keys : List (Option Expr)} {values : List Expr} {prs : List (EM × EM)} (h : PPs X pos keys values (prs.map fun p => (rdE w W p.1, rdE w W p.2))) (hall : keys.all (·.isSome) = true := by rfl) (hl : keys.length = values.length := by rfl) (h0 : keys ≠ [] := by simp) (h15 : keys.length ≤ 15 := by decide) :
    PE X (.Dict keys values pos) (rdE w W (mDicM prs)) :=
  PE.to (pe_disp h hall hl h0 h15) fun σ H Q ⟨fr, as, δ, μ, h, q⟩ => disp_ok h (by
    unfold mDicM at q
    cases z : mPrs prs δ μ with
    | none => rw [z] at q; exact q
    | some pr =>
      obtain ⟨l, μ'⟩ := pr
      rw [z] at q
      dsimp only at q
      cases z2 : decide (l.length ≤ 15) with
      | false => rw [z2] at q; exact q.elim
      | true =>
        rw [z2, if_pos rfl] at q
        refine ⟨of_decide_eq_true z2, fun p H' as' kvs e hp pa pf r' hh ke kd => ?_⟩
        obtain ⟨m, ra, gt⟩ := adopt (c := .dic (mergeG l)) r' pa pf ⟨kvs, hh, ke, kd⟩
        refine q (.ref p) H' (as' ++ [p]) ?_ ra (.loc gt)
        obtain ⟨t, rfl⟩ := e.pre
        refine ⟨⟨t ++ [p], by rw [List.append_assoc]⟩, fun a ma na => ?_, fun b o hb nb => e.keep0 b o hb nb⟩
        rcases List.mem_append.mp ma with z | z
        · exact e.new a z na
        · rw [show a = p from by simpa using z]; exact hp)
end
end DL

namespace DL
open PySem PySem.Spec PyProof.Rows L2
variable {w : Wd}
/-! ### zip of two texts, lists, tuples -/
inductive Zs where
  | str (x : Str)
  | lst (a : Addr)
  | tup (a : Addr)
def zPart : Zs → Addr → Nat → Heap → Prop
  | .str x, it, i, h => ∃ t, h.IsStrIter it (strIterType x) x t i
  | .lst a, it, i, h => h.IsListIter it a i
  | .tup a, it, i, h => h.IsTupleIter it a i
def zGot (K : PySem.W.Frag) : Zs → Nat → Hp → V → Prop
  | .str x, i, _, v => ∃ c, x.cps[i]? = some c ∧ v = .str ⟨#[c]⟩
  | .lst a, i, H, v => ∃ xs, SqL K H a xs ∧ xs[i]? = some v
  | .tup a, i, H, v => ∃ xs, SqT K H a xs ∧ xs[i]? = some v
def zAll (K : PySem.W.Frag) : Zs → Nat → Hp → V → Prop
  | .str x, i, _, v => ∃ c, x.cps[i]? = some c ∧ v = .str ⟨#[c]⟩
  | .lst a, i, H, v => ∀ xs, SqL K H a xs → xs[i]? = some v
  | .tup a, i, H, v => ∀ xs, SqT K H a xs → xs[i]? = some v
theorem zAll_of {X : Cx} {pins σ H s} {z : Zs} {i v} (I : Inv X pins σ H s) (g : zGot X.K z i H v) : zAll X.K z i H v := by
  cases z with
  | str x => exact g
  | lst a => obtain ⟨xs, q1, q2⟩ := g; exact fun ys q3 => by rw [I.list_inj q3 q1]; exact q2
  | tup a => obtain ⟨xs, q1, q2⟩ := g; exact fun ys q3 => by rw [I.tuple_inj q3 q1]; exact q2
def zLen (K : PySem.W.Frag) : Zs → Nat → Hp → Prop
  | .str x, n, _ => x.cps.size = n
  | .lst a, n, H => ∃ xs, SqL K H a xs ∧ xs.length = n
  | .tup a, n, H => ∃ xs, SqT K H a xs ∧ xs.length = n
def zFp : Zs → Addr → List Addr
  | .str _, it => [it]
  | .lst a, it => [it, a]
  | .tup a, it => [it, a]
def zNe : Zs → Addr → Prop
  | .str _, _ => True
  | .lst a, it => a ≠ it
  | .tup a, it => a ≠ it
theorem zPart.at {s it i} {h h' : Heap} (p : zPart s it i h) (k : ∀ o, h.get? it = some o → h'.get? it = some o) : zPart s it i h' := by
  cases s with
  | str x => obtain ⟨t, o, ho, r⟩ := p; exact ⟨t, o, k o ho, r⟩
  | lst a => exact Heap.IsListIter.at p k
  | tup a => exact Heap.IsTupleIter.at p k
theorem zPart.live {s it i} {h : Heap} (p : zPart s it i h) : ∃ o, h.get? it = some o ∧ ∀ v, o.data ≠ .cell v := by
  cases s with
  | str x => obtain ⟨t, o, ho, _, d⟩ := p; exact ⟨o, ho, fun v z => by rw [d] at z; cases z⟩
  | lst a => obtain ⟨o, ho, _, d⟩ := p; exact ⟨o, ho, fun v z => by rw [d] at z; cases z⟩
  | tup a => obtain ⟨o, ho, _, d⟩ := p; exact ⟨o, ho, fun v z => by rw [d] at z; cases z⟩
theorem zDraw {X : Cx} {pins σ H s} {z : Zs} {it : Addr} {i n : Nat} (I : Inv X pins σ H s) (hh : X.A.handled = none) (hn : zNe z it) (p : zPart z it i s.heap) (q : zLen X.K z n H) :
    ∃ (P : Nat → Value → Prop) (St : Nat → Heap → Prop), Draws X.prog X.w X.A.in1 it (zFp z it) n P St ∧ St i s.heap ∧ (∀ u v, P i u → zGot X.K z i H v → RelV v u) ∧ ∀ j h', St j h' → zPart z it j h' := by
  cases z with
  | str x =>
    obtain ⟨t, p⟩ := p
    have q : x.cps.size = n := q
    subst q
    refine ⟨_, _, Draws.text (A := X.A.in1) hh it x t, p, fun u v ⟨c, u', e, e2⟩ ⟨c2, e3, e4⟩ => ?_, fun j h' st => ⟨t, st⟩⟩
    rw [e] at e3; cases e3; subst e2 e4
    exact ⟨u', rfl⟩
  | lst a =>
    obtain ⟨xs, q1, q2⟩ := q
    obtain ⟨its, rv, pl, _⟩ := I.list q1
    have e : its.toArray.size = n := by rw [← q2]; simpa using rv.length.symm
    refine ⟨_, _, e ▸ Draws.list (A := X.A.in1) hh it a hn its.toArray, ⟨p, pl.isList⟩, fun u v e1 ⟨ys, q3, q4⟩ => ?_, fun j h' st => st.1⟩
    rw [I.list_inj q3 q1] at q4
    obtain ⟨u2, hu, ru⟩ := rv.get q4
    have e1 : its[i]? = some u := by simpa using e1
    rw [hu] at e1; cases e1; exact ru
  | tup a =>
    obtain ⟨xs, q1, q2⟩ := q
    obtain ⟨its, rv, pl, _⟩ := I.tuple q1
    have e : its.toArray.size = n := by rw [← q2]; simpa using rv.length.symm
    refine ⟨_, _, e ▸ Draws.tuple (A := X.A.in1) hh it a hn its.toArray, ⟨p, pl⟩, fun u v e1 ⟨ys, q3, q4⟩ => ?_, fun j h' st => st.1⟩
    rw [I.tuple_inj q3 q1] at q4
    obtain ⟨u2, hu, ru⟩ := rv.get q4
    have e1 : its[i]? = some u := by simpa using e1
    rw [hu] at e1; cases e1; exact ru
/-- two rows as they stand at each turn, their items in new pairs -/
def Itq (K : PySem.W.Frag) (s1 s2 : Zs) : It :=
  ⟨fun i H => ∃ (n1 n2 : Nat) (x y : V), zLen K s1 n1 H ∧ zLen K s2 n2 H ∧ i < n1 ∧ i < n2 ∧ zGot K s1 i H x ∧ zGot K s2 i H y,
    fun i H v H' => ∃ T x y, v = .ref T ∧ H T = none ∧ H' = upd H T (.tup [x, y]) ∧ zAll K s1 i H x ∧ zAll K s2 i H y,
    fun i H => ∃ n1 n2 : Nat, zLen K s1 n1 H ∧ zLen K s2 n2 H ∧ i ≤ n1 ∧ i ≤ n2 ∧ (i = n1 ∨ i = n2)⟩
theorem turn_zs {P : Program} {w : World} {K : PySem.W.Frag} {elts : List Expr} {kk : Nat} {tpos : Pos} {s1 s2 : Zs} {z TI TO i1 i2 : Addr} (D : ZipSep2 z TI TO i1 i2 (zFp s1 i1) (zFp s2 i2)) (hi1 : i1 ≠ z) (hi2 : i2 ≠ z) (n1 : zNe s1 i1) (n2 : zNe s2 i2) :
    Turn P w K (.Tuple elts kk tpos) (Itq K s1 s2) [z, TI, TO, i1, i2] z (fun i h => IsZip h z TI TO .none ∧ IsTupOf2 h TI (.ref i1) (.ref i2) ∧ (∃ x y, IsTupOf2 h TO x y) ∧ zPart s1 i1 i h ∧ zPart s2 i2 i h) where
  mem := by simp
  obj := fun i h st c hc => by
    obtain ⟨hz, hTI, ⟨x, y, hTO⟩, h1, h2⟩ := st
    have e' : c = z ∨ c = TI ∨ c = TO ∨ c = i1 ∨ c = i2 := by simpa using hc
    rcases e' with q | q | q | q | q
    · rw [q]; exact ⟨_, hz, fun v q => nomatch q⟩
    · rw [q]; exact ⟨_, hTI, fun v q => nomatch q⟩
    · rw [q]; exact ⟨_, hTO, fun v q => nomatch q⟩
    · rw [q]; exact h1.live
    · rw [q]; exact h2.live
  keep := fun i h h' st k => by
    obtain ⟨hz, hTI, ⟨x, y, hTO⟩, h1, h2⟩ := st
    exact ⟨k z (by simp) _ hz, k TI (by simp) _ hTI, ⟨x, y, k TO (by simp) _ hTO⟩, h1.at (k i1 (by simp)), h2.at (k i2 (by simp))⟩
  item := by
    intro X hP hw hK hc i pins s σ H E I hf st hg
    subst hP hw hK
    obtain ⟨hz, hTI, ⟨x0, y0, hTO⟩, h1, h2⟩ := st
    obtain ⟨m1, m2, x, y, l1, l2, lt1, lt2, gx, gy⟩ := hg
    obtain ⟨P1, St1, D1, st1, r1, k1⟩ := zDraw I (I.ok.hd hc) n1 h1 l1
    obtain ⟨P2, St2, D2, st2, r2, k2⟩ := zDraw I (I.ok.hd hc) n2 h2 l2
    have hzl : z < s.heap.objs.size := Heap.lt_size hz
    refine wpAny_pyNext_zipD2_item D D1 D2 hz hTI hTO st1 st2 lt1 lt2 fun u u2 h' tk q1 q2 z' TO' h1' h2' hT hsz hk => ?_
    have ru := r1 _ _ q1 gx
    have ru2 := r2 _ _ q2 gy
    refine ⟨_, rfl, wpAny_letOwnedTupleGo_zip (s := { s with heap := h', toks := tk }) z' fun h'' z'' sb => ?_⟩
    have hT2 : h''.get? s.heap.objs.size = some { cls := .type "tuple", data := .seq #[u, u2] } := (sb.2 _ (Nat.ne_of_gt hzl)).trans hT
    have new : ObjOk X.prog X.w (upd H s.heap.objs.size (.tup [x, y])) h'' s.heap.objs.size (.tup [x, y]) :=
      ⟨by show 2 ≤ sizeLine; decide, [u, u2], .cons ru (.cons ru2 .nil), ⟨_, hT2, rfl, _, rfl⟩⟩
    have I1 : Inv X pins σ (upd H s.heap.objs.size (.tup [x, y])) { s with heap := h'', toks := tk } :=
      I.turnedNew (t' := tk) (ch := [z, TI, TO, i1, i2]) (fun c o hb q => (sb.2 c (fun q' => hb (by simp [q']))).trans (hk c o (fun q' => hb (by simp [q'])) (fun q' => hb (by simp [q'])) (fun q' => hb (by simp [q'])) (fun q' => hb (by simp [q'])) q)) hf (Nat.le_refl _) new
    refine ⟨.ref s.heap.objs.size, _, I1, rfl, ⟨_, x, y, rfl, I.hok.fresh (Nat.le_refl _), rfl, zAll_of I gx, zAll_of I gy⟩, ⟨z'', ?_, ⟨u, u2, ?_⟩, ?_, ?_⟩, fun c hcm => ?_⟩
    · exact (sb.2 _ D.TIz).trans (hk _ _ D.TIz D.TITO D.TIi1 D.TIi2 hTI)
    · exact (sb.2 _ D.TOz).trans TO'
    · exact (k1 _ _ h1').at fun o q => (sb.2 _ hi1).trans q
    · exact (k2 _ _ h2').at fun o q => (sb.2 _ hi2).trans q
    · have hlt : c < s.heap.objs.size := by
        have e' : c = z ∨ c = TI ∨ c = TO ∨ c = i1 ∨ c = i2 := by simpa using hcm
        rcases e' with q | q | q | q | q
        · rw [q]; exact hzl
        · rw [q]; exact Heap.lt_size hTI
        · rw [q]; exact Heap.lt_size hTO
        · rw [q]; obtain ⟨_, e1, _⟩ := h1.live; exact Heap.lt_size e1
        · rw [q]; obtain ⟨_, e2, _⟩ := h2.live; exact Heap.lt_size e2
      rw [upd_ne (Nat.ne_of_lt hlt)]
      exact (hf c hcm).1
  done := by
    intro X hP hw hK hc i pins s σ H E I hf st hg
    subst hP hw hK
    obtain ⟨hz, hTI, ⟨x0, y0, hTO⟩, h1, h2⟩ := st
    obtain ⟨m1, m2, l1, l2, le1, le2, hend⟩ := hg
    obtain ⟨P1, St1, D1, st1, r1, k1⟩ := zDraw I (I.ok.hd hc) n1 h1 l1
    obtain ⟨P2, St2, D2, st2, r2, k2⟩ := zDraw I (I.ok.hd hc) n2 h2 l2
    exact wpAny_pyNext_zipD2_end D D1 D2 hz hTI hTO st1 st2 le1 le2 hend fun h' tk hk => ⟨rfl, I.turnedL (t' := tk) (ch := [z, TI, TO, i1, i2]) (fun c o hb q =>
      hk c o (fun q' => hb (by simp [q'])) (fun q' => hb (by simp [q'])) (fun q' => hb (by simp [q'])) (fun q' => hb (by simp [q'])) q) hf⟩
  self := fun A i s Q E st h => wpAny_pyIter_zip st.1 h
def zOk (K : PySem.W.Frag) (v : V) (s : Zs) (H : Hp) : Prop := match s with
  | .str x => v = .str x
  | .lst a => v = .ref a ∧ ∃ xs, SqL K H a xs
  | .tup a => v = .ref a ∧ ∃ xs, SqT K H a xs
def iZq (K : PySem.W.Frag) (ta : TA) : TI := fun σ H R => ta σ H fun vs H1 => ∃ v1 v2 s1 s2, vs = [v1, v2] ∧ zOk K v1 s1 H1 ∧ zOk K v2 s2 H1 ∧ R (Itq K s1 s2) H1
/-- how a row begins -/
theorem zBeg {X : Cx} {pins σ H s} {v : V} {u : Value} {z : Zs} (I : Inv X pins σ H s) (r : RelV v u) (q : zOk X.K v z H) :
    ∃ (o : Obj) (Hp : Heap → Prop), Begins u o Hp ∧ Hp s.heap ∧ (∀ h it, h.get? it = some o → zPart z it 0 h) ∧ ∀ it, s.heap.objs.size ≤ it → zNe z it ∧ ∀ b, s.heap.objs.size ≤ b → b ∈ zFp z it → b = it := by
  cases z with
  | str x =>
    have q : v = .str x := q
    subst q
    obtain ⟨t, rfl⟩ := r
    exact ⟨_, _, begins_text x t, trivial, fun h it e => ⟨t, _, e, rfl, rfl⟩, fun it _ => ⟨trivial, fun b _ m => by simpa [zFp] using m⟩⟩
  | lst a =>
    obtain ⟨rfl, xs, q⟩ := q
    cases r
    obtain ⟨its, rv, p, _⟩ := I.list q
    refine ⟨_, _, begins_list a its.toArray, p.isList, fun h it e => ⟨_, e, rfl, rfl⟩, fun it l => ?_⟩
    have hl : a < s.heap.objs.size := p.lt
    refine ⟨fun z => absurd (z ▸ l) (Nat.not_le_of_lt hl), fun b lb m => ?_⟩
    have m : b = it ∨ b = a := by simpa [zFp] using m
    exact m.elim id fun z => absurd (z ▸ lb) (Nat.not_le_of_lt hl)
  | tup a =>
    obtain ⟨rfl, xs, q⟩ := q
    cases r
    obtain ⟨its, rv, p, _⟩ := I.tuple q
    refine ⟨_, _, begins_tuple a its.toArray, p, fun h it e => ⟨_, e, rfl, rfl⟩, fun it l => ?_⟩
    have hl : a < s.heap.objs.size := by obtain ⟨o, e, _⟩ := p; exact Heap.lt_size e
    refine ⟨fun z => absurd (z ▸ l) (Nat.not_le_of_lt hl), fun b lb m => ?_⟩
    have m : b = it ∨ b = a := by simpa [zFp] using m
    exact m.elim id fun z => absurd (z ▸ lb) (Nat.not_le_of_lt hl)
theorem zq_ne (n : Nat) : n + 2 ≠ n + 4 ∧ n + 3 ≠ n + 4 ∧ n + 2 ≠ n + 3 ∧ n + 2 ≠ n ∧ n + 4 ≠ n ∧ n + 3 ≠ n ∧ n + 2 ≠ n + 1 ∧ n + 4 ≠ n + 1 ∧ n + 3 ≠ n + 1 ∧ n ≠ n + 1 ∧ n + 1 ≠ n ∧ n ≠ n + 4 ∧ n + 1 ≠ n + 4 := by omega
theorem zq_le {n c : Nat} (h : c = n + 4 ∨ c = n + 2 ∨ c = n + 3 ∨ c = n ∨ c = n + 1) : n ≤ c := by omega
theorem zFp_mem (z : Zs) (it : Addr) : it ∈ zFp z it := by cases z <;> simp [zFp]
theorem pi_zq {X : Cx} {e e2 : Expr} {ta : TA} {p pos tpos : Pos} {elts : List Expr} {kk : Nat} (hg : Gl X "zip") (hm : X.mg "zip" = none) (ha : PA X [e, e2] ta)
    (hs : starEach [e, e2] X.env = (false, eval e X.env) :: starEach [e2] X.env := by rfl) (hpl : (backTo pos (starEach [e2] X.env)).any (·.1) = false := by rfl) :
    PI X (.Tuple elts kk tpos) (.Call (.Name "zip" p) [e, e2] [] pos) (iZq X.K ta) := by
  refine ⟨fun pins s σ H R I h => ?_⟩
  refine Call_ (ld_blt I hg hm PyProof.Rows.boot_zip (PyProof.Rows.callWith_type1 (thn (ha.run pos pins s σ H _ I h) fun us s1 ⟨vs, H1, I1, r1, q1⟩ => ?_) hs hpl))
  obtain ⟨v1, v2, z1, z2, ex, hq1, hq2, q⟩ := q1
  subst ex
  cases r1 with
  | cons r rr =>
    cases rr with
    | cons r' rr =>
      cases rr
      obtain ⟨o1, P1, B1, b1, k1, f1⟩ := zBeg I1 r hq1
      obtain ⟨o2, P2, B2, b2, k2, f2⟩ := zBeg I1 r' hq2
      refine zip_begins2 B1 B2 b1 b2 fun h' hz hTI hTO g1 g2 hsz hk => wpAny_pyIter_zip hz ?_
      have I2 : Inv X pins σ H1 { s1 with heap := h' } := I1.kept (t' := s1.toks) hk
      have u1 := f1 s1.heap.objs.size (Nat.le_refl _)
      have u2 := f2 (s1.heap.objs.size + 1) (Nat.le_add_right _ _)
      have nm1 : ∀ c, s1.heap.objs.size ≤ c → c ≠ s1.heap.objs.size → c ∉ zFp z1 s1.heap.objs.size := fun c l n m => n (u1.2 c l m)
      have nm2 : ∀ c, s1.heap.objs.size ≤ c → c ≠ s1.heap.objs.size + 1 → c ∉ zFp z2 (s1.heap.objs.size + 1) := fun c l n m => n (u2.2 c l m)
      have Q := zq_ne s1.heap.objs.size
      refine ⟨s1.heap.objs.size + 4, [s1.heap.objs.size + 4, s1.heap.objs.size + 2, s1.heap.objs.size + 3, s1.heap.objs.size, s1.heap.objs.size + 1], _, _, H1, rfl, I2, turn_zs (s1 := z1) (s2 := z2) ⟨Q.1, Q.2.1, Q.2.2.1, Q.2.2.2.1, zFp_mem _ _, nm1 _ (Nat.le_add_right _ _) Q.2.2.2.2.1, nm1 _ (Nat.le_add_right _ _) Q.2.2.2.2.2.1, Q.2.2.2.2.2.2.1, zFp_mem _ _, nm2 _ (Nat.le_add_right _ _) Q.2.2.2.2.2.2.2.1, nm2 _ (Nat.le_add_right _ _) Q.2.2.2.2.2.2.2.2.1, nm2 _ (Nat.le_refl _) Q.2.2.2.2.2.2.2.2.2.1, nm1 _ (Nat.le_add_right _ _) Q.2.2.2.2.2.2.2.2.2.2.1⟩ Q.2.2.2.2.2.2.2.2.2.2.2.1 Q.2.2.2.2.2.2.2.2.2.2.2.2 u1.1 u2.1, ⟨hz, hTI, ⟨_, _, hTO⟩, k1 _ _ g1, k2 _ _ g2⟩, fun c hcm => ?_, q⟩
      have e' : c = s1.heap.objs.size + 4 ∨ c = s1.heap.objs.size + 2 ∨ c = s1.heap.objs.size + 3 ∨ c = s1.heap.objs.size ∨ c = s1.heap.objs.size + 1 := by simpa using hcm
      have hle : s1.heap.objs.size ≤ c := zq_le e'
      exact I1.fpOk hle (I1.hok.fresh hle)
/-- how a row lies as a datum -/
def ZD (w : Wd) (as0 : List Addr) (H0 : Hp) (z : Zs) (d : D) : Prop := ∀ fr, (∀ a ∈ fr, a ∈ w.fr ∨ H0 a = none) → ∀ as H μ l, Xt fr as0 H0 H as → Rel (w.on fr) as H μ → seqG d μ = some l →
  zLen w.K z l.length H ∧ (∀ i x, zAll w.K z i H x → ∃ d, l[i]? = some d ∧ Den (w.on fr) as H x d) ∧ ∀ i, i < l.length → ∃ x, zGot w.K z i H x
theorem zd_of {as H μ v d l} (r : Rel w as H μ) (h : Den w as H v d) (g : seqG d μ = some l) : ∃ z, zOk w.K v z H ∧ ZD w as H z d := by
  by_cases hs : ∃ s, d = .str s
  · obtain ⟨s, rfl⟩ := hs
    cases h
    refine ⟨.str ⟨s.toArray⟩, rfl, fun fr f as' H' μ' l' e' r' g' => ?_⟩
    cases g'
    refine ⟨by simp [zLen, strItems], fun i x ⟨c, hc, ex⟩ => ?_, fun i hi => ?_⟩
    · subst ex
      have hc : s[i]? = some c := by simpa using hc
      exact ⟨.str [c], by simp [strItems, hc], .str [c]⟩
    · have hi : i < s.length := by simpa [strItems] using hi
      exact ⟨_, s[i], by simp [hi], rfl⟩
  · have e2 : seqG d = fun μ => sqOf μ d := by
      cases d with
      | str s => exact absurd ⟨s, rfl⟩ hs
      | _ => rfl
    have g : sqOf μ d = some l := by rw [e2] at g; exact g
    by_cases ht : ∃ l, d = .tup l
    · obtain ⟨l0, rfl⟩ := ht
      obtain ⟨a, vs, rfl, h1, h2⟩ := sqT_of h
      refine ⟨.tup a, ⟨rfl, vs, h1⟩, fun fr f as' H' μ' l' e' r' g' => ?_⟩
      obtain ⟨a', vs', ea, h1', h2'⟩ := sqT_of ((h.fr f).xt e')
      cases ea
      cases g'
      refine ⟨⟨vs', h1', h2'.length⟩, fun i x y => ?_, fun i hi => ?_⟩
      · exact h2'.getV (y vs' h1')
      · obtain ⟨v, hv, _⟩ := h2'.get (i := i) (List.getElem?_eq_getElem hi)
        exact ⟨v, vs', h1', hv⟩
    · have conv : ∀ μ' l', sqOf μ' d = some l' → lsOf μ' d = some l' := fun μ' l' g => by
        cases d with
        | tup l0 => exact absurd ⟨l0, rfl⟩ ht
        | _ => exact g
      obtain ⟨a, vs, rfl, h1, h2⟩ := sqL_of r h (conv _ _ g)
      refine ⟨.lst a, ⟨rfl, vs, h1⟩, fun fr f as' H' μ' l' e' r' g' => ?_⟩
      rw [e2] at g'
      obtain ⟨a', vs', ea, h1', h2'⟩ := sqL_of r' ((h.fr f).xt e') (conv _ _ g')
      cases ea
      refine ⟨⟨vs', h1', h2'.length⟩, fun i x y => ?_, fun i hi => ?_⟩
      · exact h2'.getV (y vs' h1')
      · obtain ⟨v, hv, _⟩ := h2'.get (i := i) (List.getElem?_eq_getElem hi)
        exact ⟨v, vs', h1', hv⟩
def zipG (a b : List D) : List D := List.zipWith (fun x y => .tup [x, y]) a b
def zipQ (d1 d2 : D) (μ : List M) : Option (List D) := match seqG d1 μ, seqG d2 μ with
  | some a, some b => some (zipG a b)
  | _, _ => none
def mIZip (m : AM) : IM := fun δ μ => (m δ μ).bindI fun ds μ => match ds with
  | [d1, d2] => match zipQ d1 d2 μ with
    | some l => .ok l.length (zipQ d1 d2) μ
    | none => .bad
  | _ => .bad
theorem zipQ_some {d1 d2 : D} {μ l} (h : zipQ d1 d2 μ = some l) : ∃ a b, seqG d1 μ = some a ∧ seqG d2 μ = some b ∧ l = zipG a b := by
  unfold zipQ at h
  cases e1 : seqG d1 μ with
  | none => rw [e1] at h; cases h
  | some a => cases e2 : seqG d2 μ with
    | none => rw [e1, e2] at h; cases h
    | some b => rw [e1, e2] at h; cases h; exact ⟨a, b, rfl, rfl, rfl⟩
theorem jok_zip {as H z1 z2 d1 d2 n} (q1 : ZD w as H z1 d1) (q2 : ZD w as H z2 d2) : JOk w (Itq w.K z1 z2) as H n (zipQ d1 d2) where
  go := fun fr f as' H' μ l i e r g hl hi => by
    obtain ⟨a, b, g1, g2, rfl⟩ := zipQ_some g
    have hl : min a.length b.length = n := by simpa [zipG] using hl
    obtain ⟨l1, _, k1⟩ := q1 fr f as' H' μ a e r g1
    obtain ⟨l2, _, k2⟩ := q2 fr f as' H' μ b e r g2
    obtain ⟨x, hx⟩ := k1 i (by omega)
    obtain ⟨y, hy⟩ := k2 i (by omega)
    exact ⟨_, _, x, y, l1, l2, by omega, by omega, hx, hy⟩
  yld := fun fr f as' H' μ l i x H1 e r g hl hi ⟨T, x, y, ex, hT, e1, y1, y2⟩ => by
    subst ex e1
    obtain ⟨a, b, g1, g2, rfl⟩ := zipQ_some g
    obtain ⟨_, k1, _⟩ := q1 fr f as' H' μ a e r g1
    obtain ⟨_, k2, _⟩ := q2 fr f as' H' μ b e r g2
    obtain ⟨u1, h1, n1⟩ := k1 i x y1
    obtain ⟨u2, h2, n2⟩ := k2 i y y2
    exact ⟨.tup [u1, u2], by simp [zipG, List.getElem?_zipWith, h1, h2], Ext.push hT, r.push hT, .tup (r.newF hT) (r.new hT) upd_same ((Dens.cons n1 (.cons n2 .nil)).ext (Ext.push hT))⟩
  stop := fun fr f as' H' μ l e r g hl => by
    obtain ⟨a, b, g1, g2, rfl⟩ := zipQ_some g
    have hl : min a.length b.length = n := by simpa [zipG] using hl
    obtain ⟨l1, _, _⟩ := q1 fr f as' H' μ a e r g1
    obtain ⟨l2, _, _⟩ := q2 fr f as' H' μ b e r g2
    exact ⟨_, _, l1, l2, by omega, by omega, by omega⟩
variable {X : Cx} {W : WX}
theorem i_zip {e e2 : Expr} {m : AM} {p pos tpos : Pos} {elts : List Expr} {kk : Nat} (hg : Gl X "zip") (hm : X.mg "zip" = none) (ha : PA X [e, e2] (rdA w W m)) (hK : w.K = X.K := by rfl)
    (hs : starEach [e, e2] X.env = (false, eval e X.env) :: starEach [e2] X.env := by rfl) (hpl : (backTo pos (starEach [e2] X.env)).any (·.1) = false := by rfl) :
    PI X (.Tuple elts kk tpos) (.Call (.Name "zip" p) [e, e2] [] pos) (rdI w W (mIZip m)) :=
  PI.to (pi_zq hg hm ha hs hpl) fun σ H R ⟨fr, as, δ, μ, h, q⟩ => bAI h q fun vs H1 as1 ds μ1 h1 d1 q1 => by
    match ds, d1, q1 with
    | [u1, u2], .cons n1 (.cons n2 .nil), q1 =>
      have q1 : IOk (w.on fr) W σ as1 H1 (match zipQ u1 u2 μ1 with | some l => .ok l.length (zipQ u1 u2) μ1 | none => .bad) R := q1
      cases z : zipQ u1 u2 μ1 with
      | none => rw [z] at q1; exact q1.elim
      | some l =>
        rw [z] at q1
        obtain ⟨a, b, g1, g2, rfl⟩ := zipQ_some z
        obtain ⟨z1, o1, c1⟩ := zd_of h1.rel n1 g1
        obtain ⟨z2, o2, c2⟩ := zd_of h1.rel n2 g2
        rw [← hK]
        exact ⟨_, _, z1, z2, rfl, o1, o2, q1 _ H1 as1 Ext.refl h1.rel (jok_zip (w := w.on fr) c1 c2)⟩
    | [], _, q1 => exact q1.elim
    | [_], _, q1 => exact q1.elim
    | _ :: _ :: _ :: _, _, q1 => exact q1.elim
end DL

/-! enumerate of lists; tuples that are written. -/
namespace DL
open PySem PySem.Spec PyProof.Rows L2
variable {w : Wd}
def enumG (l : List D) : List D := List.zipWith (fun (i : Nat) x => .tup [.int (i : Int), x]) (List.range l.length) l
theorem enumG_len (l : List D) : (enumG l).length = l.length := by simp [enumG]
theorem enumG_get {l : List D} {i : Nat} : (enumG l)[i]? = (l[i]?).map fun x => .tup [.int (i : Int), x] := by
  unfold enumG
  rw [List.getElem?_zipWith]
  by_cases h : i < l.length
  · rw [List.getElem?_range h, List.getElem?_eq_getElem h]; rfl
  · rw [List.getElem?_eq_none (Nat.le_of_not_lt h)]
    cases (List.range l.length)[i]? <;> rfl
def enumQ (d : D) (μ : List M) : Option (List D) := (lsOf μ d).map enumG
def mIEnum (m : AM) : IM := fun δ μ => (m δ μ).bindI fun ds μ => match ds with
  | [d] => match enumQ d μ with
    | some l => .ok l.length (enumQ d) μ
    | none => .bad
  | _ => .bad
theorem jok_enum {as H a d n} (ha : ∀ fr, (∀ a ∈ fr, a ∈ w.fr ∨ H a = none) → ∀ as' H' μ l, Xt fr as H H' as' → Rel (w.on fr) as' H' μ → lsOf μ d = some l → ∃ vs, SqL w.K H' a vs ∧ Dens (w.on fr) as' H' vs l) : JOk w (Ite w.K a) as H n (enumQ d) where
  go := fun fr f as' H' μ l i e r g hl hi => by
    unfold enumQ at g
    cases z : lsOf μ d with
    | none => rw [z] at g; cases g
    | some l0 =>
      rw [z] at g; cases g
      obtain ⟨vs, h1, h2⟩ := ha fr f as' H' μ l0 e r z
      rw [enumG_len] at hl
      obtain ⟨v, hv, _⟩ := h2.get (i := i) (d := l0[i]'(by omega)) (List.getElem?_eq_getElem _)
      exact ⟨vs, v, h1, hv⟩
  yld := fun fr f as' H' μ l i x H1 e r g hl hi ⟨T, y, ex, hT, e1, yy⟩ => by
    subst ex e1
    unfold enumQ at g
    cases z : lsOf μ d with
    | none => rw [z] at g; cases g
    | some l0 =>
      rw [z] at g; cases g
      obtain ⟨vs, h1, h2⟩ := ha fr f as' H' μ l0 e r z
      obtain ⟨u, hu, n2⟩ := h2.getV (yy vs h1)
      exact ⟨.tup [.int (i : Int), u], by rw [enumG_get, hu]; rfl, Ext.push hT, r.push hT, .tup (r.newF hT) (r.new hT) upd_same ((Dens.cons (.int _) (.cons n2 .nil)).ext (Ext.push hT))⟩
  stop := fun fr f as' H' μ l e r g hl => by
    unfold enumQ at g
    cases z : lsOf μ d with
    | none => rw [z] at g; cases g
    | some l0 =>
      rw [z] at g; cases g
      obtain ⟨vs, h1, h2⟩ := ha fr f as' H' μ l0 e r z
      rw [enumG_len] at hl
      exact ⟨vs, h1, by rw [h2.length, hl]; exact Nat.le_refl _⟩
variable {X : Cx} {W : WX}
theorem i_enum {e : Expr} {m : AM} {p pos tpos : Pos} {elts : List Expr} {kk : Nat} (hg : Gl X "enumerate") (hm : X.mg "enumerate" = none) (ha : PA X [e] (rdA w W m)) (hK : w.K = X.K) (hs : starEach [e] X.env = [(false, eval e X.env)]) :
    PI X (.Tuple elts kk tpos) (.Call (.Name "enumerate" p) [e] [] pos) (rdI w W (mIEnum m)) :=
  PI.to (pi_enum hg hm ha hs) fun σ H R ⟨fr, as, δ, μ, h, q⟩ => bAI h q fun vs H1 as1 ds μ1 h1 d1 q1 => by
    match ds, d1, q1 with
    | [d], .cons n1 .nil, q1 =>
      have q1 : IOk (w.on fr) W σ as1 H1 (match enumQ d μ1 with | some l => .ok l.length (enumQ d) μ1 | none => .bad) R := q1
      cases z0 : lsOf μ1 d with
      | none =>
        rw [show enumQ d μ1 = none from by unfold enumQ; rw [z0]; rfl] at q1; exact q1.elim
      | some l =>
        rw [show enumQ d μ1 = some (enumG l) from by unfold enumQ; rw [z0]; rfl] at q1
        obtain ⟨a, ws, rfl, g1, g2⟩ := sqL_of h1.rel n1 z0
        rw [← hK]
        refine ⟨a, ws, rfl, g1, q1 _ H1 as1 Ext.refl h1.rel (jok_enum (w := w.on fr) fun fr' f as' H' μ' l' e' r' g => ?_)⟩
        obtain ⟨a', vs', ea, h1', h2'⟩ := sqL_of r' ((n1.fr f).xt e') g
        cases ea
        exact ⟨vs', h1', h2'⟩
    | [], _, q1 => exact q1.elim
    | _ :: _ :: _, _, q1 => exact q1.elim
/-! ### written tuples -/
inductive Ka where
  | non | bl (b : Bool) | int (i : Int) | str (s : List Nat)
  deriving DecidableEq
def Ka.d : Ka → D
  | .non => .non
  | .bl b => .bl b
  | .int i => .int i
  | .str s => .str s
def Ka.v : Ka → V
  | .non => .non
  | .bl b => .bl b
  | .int i => .int i
  | .str s => .str ⟨s.toArray⟩
def Ka.is : Ka → Value → Bool
  | .non, .none => true
  | .bl b, .bool c => decide (b = c)
  | .int i, .int j _ => decide (i = j)
  | .str s, .str x _ => decide (x.cps.toList = s)
  | _, _ => false
def kasB : List Ka → List Value → Bool
  | [], [] => true
  | k :: ks, v :: vs => k.is v && kasB ks vs
  | _, _ => false
theorem Ka.rel {k : Ka} {v : Value} (h : k.is v = true) : RelV k.v v := by
  cases k <;> cases v <;> first | (cases h; done) | skip
  · rfl
  · simp [Ka.is] at h; subst h; rfl
  · simp [Ka.is] at h; subst h; exact ⟨_, rfl⟩
  · rename_i s x t
    simp [Ka.is] at h
    subst h
    exact ⟨t, by show Value.str x t = Value.str ⟨x.cps.toList.toArray⟩ t; rw [str_eq]⟩
theorem kas_vals : ∀ {ks : List Ka} {vs : List Value}, kasB ks vs = true → Vals (ks.map Ka.v) vs
  | [], [], _ => .nil
  | [], _ :: _, h => by cases h
  | _ :: _, [], h => by cases h
  | k :: ks, v :: vs, h => by
    obtain ⟨h1, h2⟩ := Bool.and_eq_true_iff.mp (show (k.is v && kasB ks vs) = true from h)
    exact .cons (Ka.rel h1) (kas_vals h2)
theorem kas_dens {as : List Addr} {H : Hp} : ∀ ks : List Ka, Dens w as H (ks.map Ka.v) (ks.map Ka.d)
  | [] => .nil
  | k :: ks => .cons (by cases k <;> constructor) (kas_dens ks)
/-- the written part has this tuple here -/
def tupB (K : PySem.W.Frag) (a : Addr) (ks : List Ka) : Bool := match K.lookup a with
  | some o => decide (o.cls = .type "tuple") && (match o.data with
    | .seq its _ => decide (its.size ≤ 100) && kasB ks its.toList
    | _ => false)
  | none => false
theorem tupB_ok {K : PySem.W.Frag} {a : Addr} {ks : List Ka} (h : tupB K a ks = true) : ∀ H, SqT K H a (ks.map Ka.v) := fun H => by
  unfold tupB at h
  split at h
  · rename_i o e
    obtain ⟨h1, h2⟩ := Bool.and_eq_true_iff.mp h
    split at h2
    · rename_i its n ed
      obtain ⟨h3, h4⟩ := Bool.and_eq_true_iff.mp h2
      exact .inr ⟨o, its, n, e, of_decide_eq_true h1, ed, by have := of_decide_eq_true h3; rw [sizeLine_eq]; omega, kas_vals h4⟩
    · cases h2
  · cases h
theorem d_glT {x : Str} {a : Addr} {ks : List Ka} {pos : Pos} (hg : Gl X x) (hm : X.mg x = some (.ref a)) (h : ∀ H, SqT w.K H a (ks.map Ka.v)) (hd : (x == ("__debug__" : Str)) = false) : PE X (.Name x pos) (rdE w W (mC (.tup (ks.map Ka.d)))) :=
  d_c (pe_glob hg hm (v := .ref a) rfl hd) fun _ _ _ => .tupK h (kas_dens ks)
/-! a display of a dict, as data -/
def mDicD (prs : List (EM × EM)) : EM := fun δ μ => match mPrs prs δ μ with
  | some (l, μ) => if decide (l.length ≤ 15) then .ok (.dic (mergeG l)) μ else .bad
  | none => .bad
theorem d_dicD {pos : Pos} {keys : List (Option Expr)} {values : List Expr} {prs : List (EM × EM)} (h : PPs X pos keys values (prs.map fun p => (rdE w W p.1, rdE w W p.2))) (hall : keys.all (·.isSome) = true) (hl : keys.length = values.length) (h0 : keys ≠ []) (h15 : keys.length ≤ 15) :
    PE X (.Dict keys values pos) (rdE w W (mDicD prs)) :=
  PE.to (pe_disp h hall hl h0 h15) fun σ H Q ⟨fr, as, δ, μ, h, q⟩ => disp_ok h (by
    unfold mDicD at q
    cases z : mPrs prs δ μ with
    | none => rw [z] at q; exact q
    | some pr =>
      obtain ⟨l, μ'⟩ := pr
      rw [z] at q
      dsimp only at q
      cases z2 : decide (l.length ≤ 15) with
      | false => rw [z2] at q; exact q.elim
      | true =>
        rw [z2, if_pos rfl] at q
        exact ⟨of_decide_eq_true z2, fun p H' as' kvs e hp pa pf r' hh ke kd => q (.ref p) H' as' e (Rel.less (fun a m => List.mem_cons_of_mem _ m) r') (.dic pf pa hh ke (Dens.fr (w := w.on (p :: fr)) (fr := fr) (fun a m => .inl (List.mem_cons_of_mem _ m)) kd))⟩)
/-! isinstance of a kept exception, of several classes -/
abbrev rIsXT (K : PySem.W.Frag) : List V → Hp → VK → Prop := fun xs H Q => ∃ (a D : Addr) (d : Option Addr) (fs : List (Str × V)) (tp : Addr) (cs : List V) (us : List Value) (b : Bool), xs = [.ref a, .ref tp] ∧ H a = some (ExV a (.ref D) d) ∧ (∀ dx, d = some dx → H dx = some (.xd fs)) ∧ DLK.EC K D ∧ H tp = some (.tup cs) ∧ Paired ClsV cs us ∧ PySem.W.kitAny K (.ref D) us = some b ∧ Q (.bl b) H
abbrev rIsXK (K : PySem.W.Frag) : List V → Hp → VK → Prop := fun xs H Q => ∃ (a D : Addr) (d : Option Addr) (fs : List (Str × V)) (tp : Addr) (dd : Option Addr) (us : List Value) (n : Nat) (sl : Array (Option Value)) (b : Bool), xs = [.ref a, .ref tp] ∧ H a = some (ExV a (.ref D) d) ∧ (∀ dx, d = some dx → H dx = some (.xd fs)) ∧ DLK.EC K D ∧ K.lookup tp = some ⟨.type "tuple", dd, .seq us.toArray n, sl⟩ ∧ PySem.W.kitAny K (.ref D) us = some b ∧ Q (.bl b) H
section
variable {X : Cx}
theorem call_isXT : CallR X (.builtin "isinstance") (rIsXT X.K) := by
  intro pins s σ H xs us Q I r ⟨a, D, d, fs, tp, cs, ws, b, ex, ha, hd, C, hT, k, hk, q⟩
  subst ex
  obtain ⟨u1, u2, rfl, r1, r2⟩ := vals2 r
  cases (show u1 = Value.ref a from r1)
  cases (show u2 = Value.ref tp from r2)
  obtain ⟨_, its, rv, o, h1, h2, n, h3⟩ := (show ObjOk X.prog X.w H s.heap tp (.tup cs) from I.hok tp _ hT)
  have e3 := ClsV.all k rv
  subst e3
  obtain ⟨oc, od, dt, sl⟩ := o
  simp only at h2 h3
  subst h2 h3
  exact PySem.W.kia_tup (DLK.kit_exc C) I.kIn (exv_inst I ha hd) h1 hk (fun z => nomatch z) fun tk => ⟨.bl b, H, I.tok tk, rfl, q⟩
theorem call_isXK : CallR X (.builtin "isinstance") (rIsXK X.K) := by
  intro pins s σ H xs us Q I r ⟨a, D, d, fs, tp, dd, ws, n, sl, b, ex, ha, hd, C, hT, hk, q⟩
  subst ex
  obtain ⟨u1, u2, rfl, r1, r2⟩ := vals2 r
  cases (show u1 = Value.ref a from r1)
  cases (show u2 = Value.ref tp from r2)
  exact PySem.W.kia_tup (DLK.kit_exc C) I.kIn (exv_inst I ha hd) (I.kIn _ _ hT) hk (fun z => nomatch z) fun tk => ⟨.bl b, H, I.tok tk, rfl, q⟩
end
def clsDs : List D → Option (List (String ⊕ Nat))
  | [] => some []
  | d :: r => match clsD d, clsDs r with
    | some t, some l => some (t :: l)
    | _, _ => none
theorem clsDs_v {as H} : ∀ {vs : List V} {ds : List D} {l : List (String ⊕ Nat)}, Dens w as H vs ds → clsDs ds = some l → Paired ClsV vs (l.map (tv w))
  | _, _, _, .nil, e => by cases e; exact .nil
  | _, d :: r, l, .cons h t, e => by
    unfold clsDs at e
    cases z1 : clsD d with
    | none => simp only [z1] at e; cases e
    | some k =>
      cases z2 : clsDs r with
      | none => simp only [z1, z2] at e; cases e
      | some l' =>
        simp only [z1, z2] at e
        cases e
        exact .cons (clsD_v h z1) (clsDs_v t z2)
def keAny (kk : Nat → String ⊕ Nat → Option Bool) (c : Nat) : List (String ⊕ Nat) → Option Bool
  | [] => some false
  | u :: r => match kk c u with
    | some true => some true
    | some false => keAny kk c r
    | none => none
theorem keAny_ok {kk : Nat → String ⊕ Nat → Option Bool} (hk : KeOk w kk) {c : Nat} : ∀ {l : List (String ⊕ Nat)} {b : Bool}, keAny kk c l = some b → PySem.W.kitAny w.K (.ref (w.ct c)) (l.map (tv w)) = some b
  | [], b, e => by cases e; exact kitAny_nil
  | u :: r, b, e => by
    unfold keAny at e
    cases z : kk c u with
    | none => rw [z] at e; cases e
    | some k =>
      rw [z] at e
      cases k with
      | true => cases e; exact kitAny_cons (hk c u true z).1 (fun q => absurd q (by decide)) fun _ => rfl
      | false => exact kitAny_cons (hk c u false z).1 (fun _ => keAny_ok hk e) fun q => absurd q (by decide)
theorem keAny_ec {kk : Nat → String ⊕ Nat → Option Bool} (hk : KeOk w kk) {c : Nat} {u : String ⊕ Nat} {l : List (String ⊕ Nat)} {b : Bool} (e : keAny kk c (u :: l) = some b) : DLK.EC w.K (w.ct c) := by
  unfold keAny at e
  cases z : kk c u with
  | none => rw [z] at e; cases e
  | some k => exact (hk c u k z).2
def fIsXA (kk : Nat → String ⊕ Nat → Option Bool) (ds : List D) (μ : List M) : ER := match ds with
  | [.exc c _, .tup l] => match clsDs l with
    | some (u :: ts) => match keAny kk c (u :: ts) with
      | some b => .ok (.bl b) μ
      | none => .bad
    | _ => .bad
  | _ => .bad
theorem cd_isXA {kk : Nat → String ⊕ Nat → Option Bool} {K : PySem.W.Frag} (hK : w.K = K) (hk : KeOk w kk) : CallD w (fun xs H Q => rIsXT K xs H Q ∨ rIsXK K xs H Q) (fIsXA kk) := by
  intro W σ as H δ μ ds vs Q h d q
  subst hK
  unfold fIsXA at q
  split at q
  · rename_i c fs l
    cases d with
    | @cons v1 _ _ _ d1 t1 =>
      cases t1 with
      | cons d2 t2 =>
        cases t2
        cases z2 : clsDs l with
        | none => simp only [z2] at q; exact q.elim
        | some ts0 =>
          cases ts0 with
          | nil => simp only [z2] at q; exact q.elim
          | cons u ts =>
            simp only [z2] at q
            cases z3 : keAny kk c (u :: ts) with
            | none => rw [z3] at q; exact q.elim
            | some b =>
              rw [z3] at q
              obtain ⟨a, dd, fs', rfl, ea, ed⟩ : ∃ (a : Addr) (dd : Option Addr) (fs' : List (Str × V)), v1 = .ref a ∧ H a = some (ExV a (.ref (w.ct c)) dd) ∧ ∀ dx, dd = some dx → H dx = some (.xd fs') := by
                cases d1 with
                | exc0 f n r => exact ⟨_, none, [], rfl, r, fun dx z => by cases z⟩
                | excD f n r f2 n2 r2 k q2 => exact ⟨_, _, _, rfl, r, fun dx z => by cases z; exact r2⟩
              cases d2 with
              | tup f n hh k => exact .inl ⟨_, _, _, _, _, _, _, b, rfl, ea, ed, keAny_ec hk z3, hh, clsDs_v k z2, keAny_ok hk z3, q _ H as Ext.refl h.rel (.bl _)⟩
              | tupK hh k =>
                rcases hh (fun _ => none) with z4 | ⟨o, its, n, h1, h2, h3, _, h4⟩
                · rcases z4 with z4 | ⟨o, z4⟩ <;> cases z4
                · have e3 := ClsV.all (clsDs_v k z2) h4
                  obtain ⟨oc, od, dt, sl⟩ := o
                  simp only at h2 h3
                  have h5 : its = ((u :: ts).map (tv w)).toArray := by rw [← e3]
                  subst h2 h3 h5
                  exact .inr ⟨_, _, _, _, _, _, _, _, _, b, rfl, ea, ed, keAny_ec hk z3, h1, keAny_ok hk z3, q _ H as Ext.refl h.rel (.bl _)⟩
  · exact q.elim
end DL

/-! data laid in order: <, <=, >, >=, sorted. -/
namespace DL
open PySem PySem.Spec PyProof.Rows L2
variable {w : Wd}
open PySem.W (alike dataLt AllAlike Sortable dataLe EachIs)
def notNone : PyData → Bool
  | .none => false
  | _ => true
theorem notNone_ne {d : PyData} (h : notNone d = true) : d ≠ .none := by
  rintro rfl; cases h
def rOrdD (g : PyData → PyData → Bool) (K : PySem.W.Frag) : R2 := fun x y H Q => ∃ d e, Dp K H x d ∧ Dp K H y e ∧ alike d e = true ∧ d ≠ .none ∧ min d.depth e.depth ≤ 60 ∧ Q (.bl (g d e)) H
def gLt (a b : PyData) : Bool := dataLt a b
def gLe (a b : PyData) : Bool := !dataLt b a
def gGt (a b : PyData) : Bool := dataLt b a
def gGe (a b : PyData) : Bool := !dataLt a b
section
variable {X : Cx}
theorem op_ltD (hu : X.A.units + 65 < cLine) : OpR X (compareOp .Lt) (rOrdD gLt X.K) := by
  intro pins s σ H x y v u Q I rx ry ⟨d, e, hd, he, al, ne, dep, q⟩
  obtain ⟨as, r1⟩ := Dp.reads I d x v hd rx
  obtain ⟨bs, r2⟩ := Dp.reads I e y u he ry
  exact PySem.W.lt_data r1 r2 al ne (by omega) ⟨.bl _, H, I, rfl, q⟩
theorem op_leD (hu : X.A.units + 65 < cLine) : OpR X (compareOp .LtE) (rOrdD gLe X.K) := by
  intro pins s σ H x y v u Q I rx ry ⟨d, e, hd, he, al, ne, dep, q⟩
  obtain ⟨as, r1⟩ := Dp.reads I d x v hd rx
  obtain ⟨bs, r2⟩ := Dp.reads I e y u he ry
  exact PySem.W.le_data r1 r2 al ne (by omega) ⟨.bl _, H, I, rfl, q⟩
theorem op_gtD (hu : X.A.units + 65 < cLine) : OpR X (compareOp .Gt) (rOrdD gGt X.K) := by
  intro pins s σ H x y v u Q I rx ry ⟨d, e, hd, he, al, ne, dep, q⟩
  obtain ⟨as, r1⟩ := Dp.reads I d x v hd rx
  obtain ⟨bs, r2⟩ := Dp.reads I e y u he ry
  exact PySem.W.gt_data r1 r2 al ne (by omega) ⟨.bl _, H, I, rfl, q⟩
theorem op_geD (hu : X.A.units + 65 < cLine) : OpR X (compareOp .GtE) (rOrdD gGe X.K) := by
  intro pins s σ H x y v u Q I rx ry ⟨d, e, hd, he, al, ne, dep, q⟩
  obtain ⟨as, r1⟩ := Dp.reads I d x v hd rx
  obtain ⟨bs, r2⟩ := Dp.reads I e y u he ry
  exact PySem.W.ge_data r1 r2 al ne (by omega) ⟨.bl _, H, I, rfl, q⟩
end
def fOrd (g : PyData → PyData → Bool) (x y : D) (μ : List M) : ER := match py (top μ x), py (top μ y) with
  | some a, some b => if alike a b && (notNone a && decide (min a.depth b.depth ≤ 60)) then .ok (.bl (g a b)) μ else .bad
  | _, _ => .bad
theorem od_ord {g : PyData → PyData → Bool} {K : PySem.W.Frag} (hK : w.K = K) : OpD w (rOrdD g K) (fOrd g) := by
  intro W σ as H δ μ x y vx vy Q h dx dy q
  unfold fOrd at q
  cases e1 : py (top μ x) with
  | none => rw [e1] at q; exact q.elim
  | some a =>
    cases e2 : py (top μ y) with
    | none => rw [e1, e2] at q; exact q.elim
    | some b =>
      rw [e1, e2] at q
      cases e3 : (alike a b && (notNone a && decide (min a.depth b.depth ≤ 60))) with
      | false => simp only [e3] at q; exact q.elim
      | true =>
        simp only [e3] at q
        obtain ⟨s1, s2⟩ := Bool.and_eq_true_iff.mp e3
        obtain ⟨s2, s3⟩ := Bool.and_eq_true_iff.mp s2
        exact ⟨a, b, top_dp hK h.rel dx e1, top_dp hK h.rel dy e2, s1, notNone_ne s2, of_decide_eq_true s3, q _ H as Ext.refl h.rel (.bl _)⟩
/-! ### sorted -/
def dKey (d : D) : PyData := (py d).getD .none
def dLe (a b : D) : Bool := !dataLt (dKey b) (dKey a)
def isTupK : PyData → Bool
  | .tuple (_ :: _) => true
  | _ => false
def isOthK : PyData → Bool
  | .none => false
  | .tuple _ => false
  | _ => true
def srtOk (l : List D) : Bool := (l.all fun d => (py d).isSome && decide ((dKey d).depth ≤ 60)) && ((l.all fun a => l.all fun b => alike (dKey a) (dKey b)) && ((l.all fun d => isTupK (dKey d)) || (l.all fun d => isOthK (dKey d))))
def rSortD (K : PySem.W.Frag) : List V → Hp → VK → Prop := fun xs H Q => ∃ (p : Addr) (bs : List (V × D)), xs = [.ref p] ∧ SqL K H p (bs.map (·.1)) ∧ (∀ b ∈ bs, Dp K H b.1 (dKey b.2)) ∧ srtOk (bs.map (·.2)) = true ∧ ∀ l, H l = none → Q (.ref l) (upd H l (.lst ((bs.mergeSort fun a b => dLe a.2 b.2).map (·.1))))
theorem each_of_vals : ∀ {bs : List (V × D)} {us : List Value}, Vals (bs.map (·.1)) us → EachIs (fun (v : Value) (b : V × D) => RelV b.1 v ∧ b ∈ bs) us bs := by
  have gen : ∀ (all : List (V × D)) (bs : List (V × D)) (us : List Value), (∀ b ∈ bs, b ∈ all) → Vals (bs.map (·.1)) us → EachIs (fun (v : Value) (b : V × D) => RelV b.1 v ∧ b ∈ all) us bs := fun all bs => by
    induction bs with
    | nil => intro us _ h; cases h; exact .nil
    | cons b bs ih =>
      intro us hm h
      cases h with
      | cons h1 h2 => exact .cons ⟨h1, hm b List.mem_cons_self⟩ (ih _ (fun c hc => hm c (List.mem_cons_of_mem _ hc)) h2)
  intro bs us h
  exact gen bs bs us (fun _ h => h) h
theorem vals_of_each : ∀ {bs : List (V × D)} {us : List Value}, EachIs (fun (v : Value) (b : V × D) => RelV b.1 v) us bs → Vals (bs.map (·.1)) us
  | [], _, .nil => .nil
  | b :: bs, _, .cons h t => .cons h (vals_of_each t)
theorem each_len {β : Type} {R : Value → β → Prop} : ∀ {us : List Value} {bs : List β}, EachIs R us bs → us.length = bs.length
  | _, _, .nil => rfl
  | _, _, .cons h t => by rw [List.length_cons, List.length_cons, each_len t]
section
variable {X : Cx}
theorem call_sortD (hu : X.A.units + 65 < cLine) : CallR X (.builtin "sorted") (rSortD X.K) := by
  intro pins s σ H xs us Q I r ⟨p, bs, ex, hq, hd, hk, q⟩
  subst ex
  obtain ⟨u, rfl, rx⟩ := vals1 r
  cases rx
  obtain ⟨its, r', pl, hz⟩ := I.list hq
  have hlen := r'.length
  rw [List.length_map] at hlen hz
  unfold srtOk at hk
  simp only [Bool.and_eq_true, Bool.or_eq_true, List.all_map, List.all_eq_true, Function.comp] at hk
  obtain ⟨k1, k2, k3⟩ := hk
  have e := each_of_vals r'
  have er : EachIs (fun v (b : V × D) => ∃ as, Reads s.heap v (dKey b.2) as) its bs := e.mono fun v b ⟨h1, h2⟩ => Dp.reads I _ _ _ (hd b h2) h1
  have hal : AllAlike (bs.map fun b => dKey b.2) := by
    intro d hd d' hd'
    obtain ⟨b, hb, rfl⟩ := List.mem_map.mp hd
    obtain ⟨b', hb', rfl⟩ := List.mem_map.mp hd'
    exact k2 b hb b' hb'
  have hsr : Sortable (bs.map fun b => dKey b.2) := by
    rcases k3 with k3 | k3
    · refine .inl fun d hd => ?_
      obtain ⟨b, hb, rfl⟩ := List.mem_map.mp hd
      have := k3 b hb
      revert this
      cases dKey b.2 with
      | tuple l => cases l with
        | nil => intro h; cases h
        | cons x r => intro _; exact ⟨x, r, rfl⟩
      | _ => intro h; cases h
    · refine .inr fun d hd => ?_
      obtain ⟨b, hb, rfl⟩ := List.mem_map.mp hd
      have := k3 b hb
      revert this
      cases dKey b.2 with
      | tuple l => intro h; cases h
      | none => intro h; cases h
      | _ => intro _; exact ⟨fun z => (by cases z), fun xs z => (by cases z)⟩
  refine PySem.W.sorted_data (enc := fun b : V × D => dKey b.2) (R := fun v (b : V × D) => RelV b.1 v) pl.isList (e.mono fun _ _ h => h.1) er hal hsr hz (fun b hb => ?_) fun out ho eo => ?_
  · have := (k1 b hb).2
    have := of_decide_eq_true this
    omega
  · have hf := I.hok.fresh (a := s.heap.objs.size + 1) (Nat.le_succ _)
    obtain ⟨c, hc⟩ := PyProof.Rows.sortedAll_at s.heap its (List.toArray out)
    have I1 : Inv X pins σ (upd H (s.heap.objs.size + 1) (.lst ((bs.mergeSort (dataLe false fun b => dKey b.2)).map (·.1)))) { s with heap := PyProof.Rows.sortedAll s.heap its (List.toArray out) } :=
      I.laid (t' := s.toks) (fun b o e => PyProof.Rows.sortedAll_old e) (Nat.le_succ _) (show ObjOk X.prog X.w _ _ _ (.lst _) from ⟨by rw [List.length_map, ← each_len eo, ho]; exact hz, out, c, vals_of_each eo, hc⟩)
    exact ⟨.ref (s.heap.objs.size + 1), _, I1, rfl, q _ hf⟩
end
def fSorted (ds : List D) (μ : List M) : ER := match ds with
  | [y] => match lsOf μ y with
    | some l => if srtOk l then .ok (.lst (l.mergeSort dLe)) μ else .bad
    | none => .bad
  | _ => .bad
theorem map_zip_fst {α β : Type} : ∀ {a : List α} {b : List β}, a.length = b.length → (a.zip b).map (·.1) = a
  | [], [], _ => rfl
  | x :: a, y :: b, h => by rw [List.zip_cons_cons, List.map_cons, map_zip_fst (by simpa using h)]
theorem map_zip_snd {α β : Type} : ∀ {a : List α} {b : List β}, a.length = b.length → (a.zip b).map (·.2) = b
  | [], [], _ => rfl
  | x :: a, y :: b, h => by rw [List.zip_cons_cons, List.map_cons, map_zip_snd (by simpa using h)]
theorem Dens.zip_mem {as : List Addr} {H : Hp} : ∀ {vs : List V} {ds : List D}, Dens w as H vs ds → ∀ b ∈ vs.zip ds, Den w as H b.1 b.2
  | _, _, .nil, _, hb => by cases hb
  | _, _, .cons h t, b, hb => by
    rw [List.zip_cons_cons] at hb
    rcases List.mem_cons.mp hb with rfl | hb
    · exact h
    · exact Dens.zip_mem t b hb
theorem Dens.of_mem {as : List Addr} {H : Hp} : ∀ {l : List (V × D)}, (∀ b ∈ l, Den w as H b.1 b.2) → Dens w as H (l.map (·.1)) (l.map (·.2))
  | [], _ => .nil
  | b :: l, h => .cons (h b List.mem_cons_self) (Dens.of_mem fun c hc => h c (List.mem_cons_of_mem _ hc))
theorem cd_sortD {K : PySem.W.Frag} (hK : w.K = K) : CallD w (rSortD K) fSorted := by
  intro W σ as H δ μ ds vs Q h d q
  subst hK
  unfold fSorted at q
  split at q
  · rename_i y
    cases d with
    | cons d1 t1 =>
      cases t1
      cases e : lsOf μ y with
      | none => rw [e] at q; exact q.elim
      | some l =>
        rw [e] at q
        dsimp only at q
        cases e2 : srtOk l with
        | false => rw [e2] at q; exact q.elim
        | true =>
          rw [e2, if_pos rfl] at q
          obtain ⟨p, vs, rfl, h1, k1⟩ := sqL_of h.rel d1 e
          have hl := k1.length
          have zm := k1.zip_mem
          refine ⟨p, vs.zip l, rfl, by rw [map_zip_fst hl]; exact h1, fun b hb => ?_, by rw [map_zip_snd hl]; exact e2, fun p' hp => ?_⟩
          · have e2' := e2
            unfold srtOk at e2'
            simp only [Bool.and_eq_true, List.all_eq_true] at e2'
            have hb2 : b.2 ∈ l := by rw [← map_zip_snd hl]; exact List.mem_map.mpr ⟨b, hb, rfl⟩
            obtain ⟨x, hx⟩ := Option.isSome_iff_exists.mp (e2'.1 b.2 hb2).1
            have : dKey b.2 = x := by unfold dKey; rw [hx]; rfl
            rw [this]
            exact py_dp rfl (zm b hb) hx
          · have hs : ((vs.zip l).mergeSort fun a b => dLe a.2 b.2).map (·.2) = l.mergeSort dLe := by
              rw [List.map_mergeSort (s := dLe) (fun a _ b _ => rfl), map_zip_snd hl]
            have hd : Dens w as H (((vs.zip l).mergeSort fun a b => dLe a.2 b.2).map (·.1)) (l.mergeSort dLe) := by
              rw [← hs]
              exact Dens.of_mem fun b hb => zm b (List.mem_mergeSort.mp hb)
            exact q _ _ as (Ext.push hp) (h.rel.push hp) (.lst (h.rel.newF hp) (h.rel.new hp) upd_same (hd.ext (Ext.push hp)))
  · exact q.elim
end DL

/-! a comprehension of two fors. -/
namespace DL
open PySem PySem.Spec PyProof.Rows L2
variable {w : Wd}
section
variable {X : Cx} {W : WX}
def lcGo2 (gm : GM) (tt : TM) (mi1 : IM) (gm1 : GM) (tt1 : TM) (me : EM) (vs1 : List Nat) (g : List M → Option (List D)) (n : Nat) : Nat → Nat → Dv → List M → List D → AR
  | 0, _, _, μ, acc => match g μ with
    | some l => if l.length = n then .ok acc μ else .bad
    | none => .bad
  | k + 1, i, δ, μ, acc => match g μ with
    | some l => if l.length = n then match l[i]? with
      | some d => match gm d μ δ with
        | some δ1 => match tt δ1 μ with
          | .ok true μ1 => match mi1 δ1 μ1 with
            | .ok n1 g1 μ2 => match lcGo gm1 tt1 me g1 n1 n1 0 (wipeD δ1 vs1) μ2 acc with
              | .ok acc2 μ3 => lcGo2 gm tt mi1 gm1 tt1 me vs1 g n k (i + 1) δ μ3 acc2
              | _ => .bad
            | _ => .bad
          | .ok false μ1 => lcGo2 gm tt mi1 gm1 tt1 me vs1 g n k (i + 1) δ μ1 acc
          | _ => .bad
        | none => .bad
      | none => .bad
      else .bad
    | none => .bad
def mLc2A (mi : IM) (gm : GM) (tt : TM) (mi1 : IM) (gm1 : GM) (tt1 : TM) (me : EM) (vs vs1 : List Nat) : AM := fun δ μ => match mi δ μ with
  | .ok n g μ => lcGo2 gm tt mi1 gm1 tt1 me vs1 g n n 0 (wipeD δ vs) μ []
  | .exc c fs μ => .exc c fs μ
  | .bad => .bad
theorem lc2_ok {fr as H σ δ μ} {mi mi1 : IM} {g g1 : TG} {gm gm1 : GM} {tt tt1 : TM} {me : EM} {ts ts1 vs vs1 : List Nat} {Q : VK} (hd : ∀ fr, GD (w.on fr) ts g gm) (hv : ∀ t ∈ ts, t ∈ vs) (hd1 : ∀ fr, GD (w.on fr) ts1 g1 gm1) (hv1 : ∀ t ∈ ts1, t ∈ vs1) (h : Here (w.on fr) as H σ δ μ)
    (q : LcEnd w W fr as H σ (mLc2A mi gm tt mi1 gm1 tt1 me vs vs1 δ μ) Q) : tLc2 (rdI w W mi) g (rdT w W0 tt) (rdI w W0 mi1) g1 (rdT w W0 tt1) (rdE w W0 me) vs vs1 σ H Q := by
  refine ⟨fr, as, δ, μ, h, ?_⟩
  unfold mLc2A at q
  revert q
  cases mi δ μ with
  | bad => exact fun q => q
  | exc c fs μ1 => exact fun q => q
  | ok n gg μ1 =>
    intro q J H1 as1 e1 r1 jo L hL
    have bar : ∀ a ∈ L :: fr, a ∈ (w.on fr).fr ∨ H1 a = none := fun a m => (List.mem_cons.mp m).elim (fun z => .inr (by rw [z]; exact hL)) .inl
    have q : (fun r => LcEnd w W fr as H σ r Q) (lcGo2 gm tt mi1 gm1 tt1 me vs1 gg n n 0 (wipeD δ vs) μ1 []) := q
    obtain ⟨fin, hfin⟩ : ∃ fin, fin = fun r => LcEnd w W fr as H σ r Q := ⟨_, rfl⟩
    have nbad : fin .bad → False := by rw [hfin]; exact fun z => z
    have q : fin (lcGo2 gm tt mi1 gm1 tt1 me vs1 gg n (n - 0) 0 (wipeD δ vs) μ1 []) := by rw [hfin]; exact q
    -- the invariant
    let Inv : Nat → Hp → Prop := fun i H => i ≤ n ∧ ∃ as' μ' acc ws, Ext as1 H1 H as' ∧ Sl (w.on (L :: fr)) as' H (L2.wipe σ vs) (wipeD δ vs) ∧ Rel (w.on (L :: fr)) as' H μ' ∧ H L = some (.lst ws) ∧ L ∉ as' ∧ Dens (w.on (L :: fr)) as' H ws acc ∧ fin (lcGo2 gm tt mi1 gm1 tt1 me vs1 gg n (n - i) i (wipeD δ vs) μ' acc)
    have hLas : L ∉ as1 := r1.new hL
    have hLfr : L ∉ fr := r1.newF hL
    have hm : L ∈ (w.on (L :: fr)).fr := List.mem_cons_self
    refine ⟨fun i m H => m = n - i ∧ Inv i H, ⟨n, by simp, Nat.zero_le _, as1, μ1, [], [], ?_, ?_, r1.bar hL, upd_same, hLas, .nil, q⟩, ?_⟩
    · exact .of ⟨[], by simp⟩ (fun a m n => absurd m n) fun b u e _ => by rw [upd_ne (ne_of_none e hL)]; exact e
    · exact Sl.bar hL ((h.sl.ext e1).wipe vs)
    · rintro i m H2 ⟨rfl, hi, as2, μ2, acc, ws, e2, s2, r2, hL2, nL2, da2, q2⟩
      have r2f : Rel (w.on fr) as2 H2 μ2 := r2.less fun a m => List.mem_cons_of_mem _ m
      by_cases hlt : i < n
      · obtain ⟨k, hk⟩ : ∃ k, n - i = k + 1 := ⟨n - i - 1, by omega⟩
        have ek : n - (i + 1) = k := by omega
        rw [hk] at q2
        unfold lcGo2 at q2
        cases z1 : gg μ2 with
        | none => simp only [z1] at q2; exact (nbad q2).elim
        | some l =>
          simp only [z1] at q2
          by_cases hl : l.length = n
          · rw [if_pos hl] at q2
            refine .inr ⟨jo.go (L :: fr) bar as2 H2 μ2 l i (.of e2) r2 z1 hl hlt, fun H' => Inv (i + 1) H', fun H' p' => ⟨n - (i + 1), by omega, rfl, p'⟩, fun x H3 y => ?_⟩
            obtain ⟨d, hd0, e3, r3, dn⟩ := jo.yld (L :: fr) bar as2 H2 μ2 l i x H3 (.of e2) r2 z1 hl hlt y
            simp only [hd0] at q2
            cases z2 : gm d μ2 (wipeD δ vs) with
            | none => simp only [z2] at q2; exact (nbad q2).elim
            | some δ3 =>
              simp only [z2] at q2
              have hL3 : H3 L = some (.lst ws) := e3.keep _ _ hL2 nL2
              have nL3 : L ∉ as2 := nL2
              have s3 := s2.ext e3
              have da3 := da2.ext e3
              refine hd (L :: fr) as2 H3 (L2.wipe σ vs) (wipeD δ vs) μ2 x d δ3 _ ⟨r3, s3⟩ dn z2 fun σ4 s4 w4 => ?_
              refine ⟨?_, ?_⟩
              · rw [w4 vs hv]
                exact wipe_idem fun v m => m
              · refine ⟨L :: fr, as2, δ3, μ2, ⟨r3, s4⟩, ?_⟩
                cases z3 : tt δ3 μ2 with
                | bad => simp only [z3] at q2; exact (nbad q2).elim
                | exc c fs μ4 => simp only [z3] at q2; exact (nbad q2).elim
                | ok bb μ4 =>
                  intro H4 as4 e4 r4
                  have hL4 : H4 L = some (.lst ws) := e4.keep _ _ hL3 nL3
                  have nL4 : L ∉ as4 := e4.out hL3 nL3
                  have e24 := (e2.trans e3).trans e4
                  cases bb with
                  | false =>
                    simp only [z3] at q2
                    rw [if_neg (by decide)]
                    exact ⟨hlt, as4, μ4, acc, ws, e24, s3.ext e4, r4, hL4, nL4, da3.ext e4, by rw [ek]; exact q2⟩
                  | true =>
                    simp only [z3] at q2
                    rw [if_pos rfl]
                    refine ⟨L :: fr, as4, δ3, μ4, ⟨r4, s4.ext e4⟩, ?_⟩
                    cases z4 : mi1 δ3 μ4 with
                    | bad => simp only [z4] at q2; exact (nbad q2).elim
                    | exc c fs μ5 => simp only [z4] at q2; exact (nbad q2).elim
                    | ok n1 gg1 μ5 =>
                      simp only [z4] at q2
                      intro J1 H5 as5 e5 r5 jo1
                      have hL5 : H5 L = some (.lst ws) := e5.keep _ _ hL4 nL4
                      have nL5 : L ∉ as5 := e5.out hL4 nL4
                      have base : ∀ a ∈ L :: fr, a ∈ (w.on (L :: fr)).fr ∨ H5 a = none := fun a m => .inl m
                      have s5 : Sl (w.on (L :: fr)) as5 H5 σ4 δ3 := (s4.ext e4).ext e5
                      have s5o : Sl (w.on (L :: fr)) as5 H5 (L2.wipe σ vs) (wipeD δ vs) := (s3.ext e4).ext e5
                      let fin1 : AR → Prop := fun r => match r with
                        | .ok acc2 μ3 => fin (lcGo2 gm tt mi1 gm1 tt1 me vs1 gg n k (i + 1) (wipeD δ vs) μ3 acc2)
                        | _ => False
                      have q2 : fin1 (lcGo gm1 tt1 me gg1 n1 (n1 - 0) 0 (wipeD δ3 vs1) μ5 acc) := by
                        rw [Nat.sub_zero]
                        revert q2
                        cases lcGo gm1 tt1 me gg1 n1 n1 0 (wipeD δ3 vs1) μ5 acc with
                        | ok a b => exact fun z => z
                        | exc c fs μ => exact fun z => (nbad z).elim
                        | bad => exact fun z => (nbad z).elim
                      have nbad1 : fin1 .bad → False := fun z => z
                      let Inv1 : Nat → Hp → Prop := fun j H => j ≤ n1 ∧ ∃ as' μ' acc ws, Ext as1 H1 H as' ∧ Xt (L :: fr) as5 H5 H as' ∧ Sl (w.on (L :: fr)) as' H (L2.wipe σ vs) (wipeD δ vs) ∧ Sl (w.on (L :: fr)) as' H (L2.wipe σ4 vs1) (wipeD δ3 vs1) ∧ Rel (w.on (L :: fr)) as' H μ' ∧ H L = some (.lst ws) ∧ L ∉ as' ∧ Dens (w.on (L :: fr)) as' H ws acc ∧ fin1 (lcGo gm1 tt1 me gg1 n1 (n1 - j) j (wipeD δ3 vs1) μ' acc)
                      refine ⟨fun j m H => m = n1 - j ∧ Inv1 j H, ⟨n1, by simp, Nat.zero_le _, as5, μ5, acc, ws, e24.trans e5, .of Ext.refl, s5o, s5.wipe vs1, r5, hL5, nL5, (da3.ext e4).ext e5, q2⟩, ?_⟩
                      rintro j m H6 ⟨rfl, hj, as6, μ6, acc6, ws6, e6, x6, so6, si6, r6, hL6, nL6, da6, q6⟩
                      by_cases hlt1 : j < n1
                      · obtain ⟨k1, hk1⟩ : ∃ k1, n1 - j = k1 + 1 := ⟨n1 - j - 1, by omega⟩
                        have ek1 : n1 - (j + 1) = k1 := by omega
                        rw [hk1] at q6
                        unfold lcGo at q6
                        cases y1 : gg1 μ6 with
                        | none => simp only [y1] at q6; exact (nbad1 q6).elim
                        | some l1 =>
                          simp only [y1] at q6
                          by_cases hl1 : l1.length = n1
                          · rw [if_pos hl1] at q6
                            refine .inr ⟨jo1.go (L :: fr) base as6 H6 μ6 l1 j x6 r6 y1 hl1 hlt1, fun H' => Inv1 (j + 1) H', fun H' p' => ⟨n1 - (j + 1), by omega, rfl, p'⟩, fun x1 H7 yy => ?_⟩
                            obtain ⟨d1, hd1', e7, r7, dn1⟩ := jo1.yld (L :: fr) base as6 H6 μ6 l1 j x1 H7 x6 r6 y1 hl1 hlt1 yy
                            simp only [hd1'] at q6
                            cases y2 : gm1 d1 μ6 (wipeD δ3 vs1) with
                            | none => simp only [y2] at q6; exact (nbad1 q6).elim
                            | some δ7 =>
                              simp only [y2] at q6
                              have hL7 : H7 L = some (.lst ws6) := e7.keep _ _ hL6 nL6
                              have nL7 : L ∉ as6 := nL6
                              refine hd1 (L :: fr) as6 H7 (L2.wipe σ4 vs1) (wipeD δ3 vs1) μ6 x1 d1 δ7 _ ⟨r7, si6.ext e7⟩ dn1 y2 fun σ8 s8 w8 => ?_
                              refine ⟨?_, ?_⟩
                              · rw [w8 vs1 hv1]
                                exact wipe_idem fun v m => m
                              · refine ⟨L :: fr, as6, δ7, μ6, ⟨r7, s8⟩, ?_⟩
                                cases y3 : tt1 δ7 μ6 with
                                | bad => simp only [y3] at q6; exact (nbad1 q6).elim
                                | exc c fs μ4 => simp only [y3] at q6; exact (nbad1 q6).elim
                                | ok b1 μ8 =>
                                  intro H8 as8 e8 r8
                                  have hL8 : H8 L = some (.lst ws6) := e8.keep _ _ hL7 nL7
                                  have nL8 : L ∉ as8 := e8.out hL7 nL7
                                  have e68 := e7.trans e8
                                  cases b1 with
                                  | false =>
                                    simp only [y3] at q6
                                    rw [if_neg (by decide)]
                                    exact ⟨hlt1, as8, μ8, acc6, ws6, e6.trans e68, x6.trans e68, so6.ext e68, si6.ext e68, r8, hL8, nL8, da6.ext e68, by rw [ek1]; exact q6⟩
                                  | true =>
                                    simp only [y3] at q6
                                    rw [if_pos rfl]
                                    refine ⟨L :: fr, as8, δ7, μ8, ⟨r8, s8.ext e8⟩, ?_⟩
                                    cases y4 : me δ7 μ8 with
                                    | bad => simp only [y4] at q6; exact (nbad1 q6).elim
                                    | exc c fs μ5 => simp only [y4] at q6; exact (nbad1 q6).elim
                                    | ok yd μ9 =>
                                      simp only [y4] at q6
                                      intro yv H9 as9 e9 r9 dy
                                      have hL9 : H9 L = some (.lst ws6) := e9.keep _ _ hL8 nL8
                                      have nL9 : L ∉ as9 := e9.out hL8 nL8
                                      have e69 := e68.trans e9
                                      cases y5 : lineOk (acc6.length + 1) with
                                      | false => simp only [y5] at q6; exact (nbad1 (by simp only [Bool.false_eq_true, if_false] at q6; exact q6)).elim
                                      | true =>
                                        simp only [y5, if_true] at q6
                                        refine ⟨ws6, hL9, ?_, ?_⟩
                                        · have := lineOk_line y5
                                          rw [da6.length]; omega
                                        · have e19 := e6.trans e69
                                          exact ⟨hlt1, as9, μ9, acc6 ++ [yd], ws6 ++ [yv], ⟨e19.pre, e19.new, fun b o hb nb => by rw [upd_ne (ne_of_none hb hL)]; exact e19.keep0 b o hb nb⟩, (x6.trans e69).upd List.mem_cons_self, (so6.ext e69).skip hm, (si6.ext e69).skip hm, r9.skip hm, upd_same, nL9, ((da6.ext e69).append (.cons dy .nil)).skip hm, by rw [ek1]; exact q6⟩
                          · rw [if_neg hl1] at q6; exact (nbad1 q6).elim
                      · have en1 : j = n1 := by omega
                        subst en1
                        rw [Nat.sub_self] at q6
                        unfold lcGo at q6
                        cases y1 : gg1 μ6 with
                        | none => simp only [y1] at q6; exact (nbad1 q6).elim
                        | some l1 =>
                          simp only [y1] at q6
                          by_cases hl1 : l1.length = j
                          · rw [if_pos hl1] at q6
                            exact .inl ⟨jo1.stop (L :: fr) base as6 H6 μ6 l1 x6 r6 y1 hl1, hlt, as6, μ6, acc6, ws6, e6, so6, r6, hL6, nL6, da6, by rw [ek]; exact q6⟩
                          · rw [if_neg hl1] at q6; exact (nbad1 q6).elim
          · rw [if_neg hl] at q2; exact (nbad q2).elim
      · have en : i = n := by omega
        subst en
        rw [Nat.sub_self] at q2
        unfold lcGo2 at q2
        cases z1 : gg μ2 with
        | none => simp only [z1] at q2; exact (nbad q2).elim
        | some l =>
          simp only [z1] at q2
          by_cases hl : l.length = i
          · rw [if_pos hl] at q2
            refine .inl ⟨jo.stop (L :: fr) bar as2 H2 μ2 l (.of e2) r2 z1 hl, ?_⟩
            subst hfin
            refine q2 L H2 as2 (e1.trans e2) ⟨ws, hL2, nL2, hLfr, r2, da2⟩ (e1.fresh hL fun m => hLas (e1.mem m))
          · rw [if_neg hl] at q2; exact (nbad q2).elim
/-- its list: data, or a cell -/
def mLc2B (cell : Bool) (mi : IM) (gm : GM) (tt : TM) (mi1 : IM) (gm1 : GM) (tt1 : TM) (me : EM) (vs vs1 : List Nat) : EM := fun δ μ => (mLc2A mi gm tt mi1 gm1 tt1 me vs vs1 δ μ).bindE fun l μ => if cell then .ok (.loc μ.length) (μ ++ [.lst l]) else .ok (.lst l) μ
variable {elt tg iter tg1 iter1 : Expr} {ifs ifs1 : List Expr} {scope : Scope} {own : List (Str × Nat)} {mi mi1 : IM} {g g1 : TG} {gm gm1 : GM} {ts ts1 vs1 : List Nat} {tt tt1 : TM} {me : EM} {cell : Bool} {pos : Pos}
theorem d_lc2 (hc : X.calm = true) (hN : X.N.Nodup) (hi : PI X tg iter (rdI w W mi)) (ok : BlkOk X.N X.env.scope scope own) (hv1 : ∀ i ∈ vs1, i ∈ own.map (·.2))
    (hg : ∀ (s : Shared) (H : Hp) (C : Addr) (cl : List (Str × Addr)) (fp : List Addr), PG (X.blk s H scope (compEnvC scope cl C X.env) fp) tg g) (hd : ∀ fr, GD (w.on fr) ts g gm) (hv : ∀ t ∈ ts, t ∈ own.map (·.2))
    (ht : ∀ (s : Shared) (H : Hp) (C : Addr) (cl : List (Str × Addr)) (fp : List Addr), PTs (X.blk s H scope (compEnvC scope cl C X.env) fp) ifs (rdT w W0 tt))
    (hi1 : ∀ (s : Shared) (H : Hp) (C : Addr) (cl : List (Str × Addr)) (fp : List Addr), PI (X.blk s H scope (compEnvC scope cl C X.env) fp) tg1 iter1 (rdI w W0 mi1))
    (hg1 : ∀ (s : Shared) (H : Hp) (C : Addr) (cl : List (Str × Addr)) (fp : List Addr), PG (X.blk s H scope (compEnvC scope cl C X.env) fp) tg1 g1) (hd1 : ∀ fr, GD (w.on fr) ts1 g1 gm1) (hw1 : ∀ t ∈ ts1, t ∈ vs1)
    (ht1 : ∀ (s : Shared) (H : Hp) (C : Addr) (cl : List (Str × Addr)) (fp : List Addr), PTs (X.blk s H scope (compEnvC scope cl C X.env) fp) ifs1 (rdT w W0 tt1))
    (he : ∀ (s : Shared) (H : Hp) (C : Addr) (cl : List (Str × Addr)) (fp : List Addr), PE (X.blk s H scope (compEnvC scope cl C X.env) fp) elt (rdE w W0 me)) (hs : ∀ x, foldedSetIterable iter X.env x = pure x) (hs1 : ∀ env x, foldedSetIterable iter1 env x = pure x) :
    PE X (.ListComp elt [⟨tg, iter, ifs, 0⟩, ⟨tg1, iter1, ifs1, 0⟩] scope pos) (rdE w W (mLc2B cell mi gm tt mi1 gm1 tt1 me (own.map (·.2)) vs1)) :=
  PE.to (pe_lc2 hc hN hi ok hv1 hg ht hi1 hg1 ht1 he hs hs1) fun σ H Q ⟨fr, as, δ, μ, h, q⟩ => lc2_ok hd hv hd1 hw1 h (by
    have q : EOk (w.on fr) W σ as H ((mLc2A mi gm tt mi1 gm1 tt1 me (own.map (·.2)) vs1 δ μ).bindE fun l μ => if cell then .ok (.loc μ.length) (μ ++ [.lst l]) else .ok (.lst l) μ) Q := q
    revert q
    cases mLc2A mi gm tt mi1 gm1 tt1 me (own.map (·.2)) vs1 δ μ with
    | bad => exact fun q => q
    | exc c fs μ1 => exact fun q => q
    | ok acc μ1 => cases cell with
      | false => exact fun q L H' as' e' m _ => q (.ref L) H' as' e' m.lst.1 m.lst.2
      | true => exact fun q L H' as' e' m n => q (.ref L) H' _ (e'.app n) m.loc.1 m.loc.2)
theorem s_setLc2 {i : Nat} {y : Str} {py spos : Pos} (hc : X.calm = true) (hN : X.N.Nodup) (hy : X.N[i]? = some y) (hyl : X.env.scope.names.lookup y = some .local)
    (hsw : swapsWith (.ListComp elt [⟨tg, iter, ifs, 0⟩, ⟨tg1, iter1, ifs1, 0⟩] scope pos) (some (.Name y py)) spos.line X.env = pure true) (hi : PI X tg iter (rdI w W mi)) (ok : BlkOk X.N X.env.scope scope own) (hv1 : ∀ i ∈ vs1, i ∈ own.map (·.2))
    (hg : ∀ (s : Shared) (H : Hp) (C : Addr) (cl : List (Str × Addr)) (fp : List Addr), PG (X.blk s H scope (compEnvC scope cl C X.env) fp) tg g) (hd : ∀ fr, GD (w.on fr) ts g gm) (hv : ∀ t ∈ ts, t ∈ own.map (·.2))
    (ht : ∀ (s : Shared) (H : Hp) (C : Addr) (cl : List (Str × Addr)) (fp : List Addr), PTs (X.blk s H scope (compEnvC scope cl C X.env) fp) ifs (rdT w W0 tt))
    (hi1 : ∀ (s : Shared) (H : Hp) (C : Addr) (cl : List (Str × Addr)) (fp : List Addr), PI (X.blk s H scope (compEnvC scope cl C X.env) fp) tg1 iter1 (rdI w W0 mi1))
    (hg1 : ∀ (s : Shared) (H : Hp) (C : Addr) (cl : List (Str × Addr)) (fp : List Addr), PG (X.blk s H scope (compEnvC scope cl C X.env) fp) tg1 g1) (hd1 : ∀ fr, GD (w.on fr) ts1 g1 gm1) (hw1 : ∀ t ∈ ts1, t ∈ vs1)
    (ht1 : ∀ (s : Shared) (H : Hp) (C : Addr) (cl : List (Str × Addr)) (fp : List Addr), PTs (X.blk s H scope (compEnvC scope cl C X.env) fp) ifs1 (rdT w W0 tt1))
    (he : ∀ (s : Shared) (H : Hp) (C : Addr) (cl : List (Str × Addr)) (fp : List Addr), PE (X.blk s H scope (compEnvC scope cl C X.env) fp) elt (rdE w W0 me)) (hs : ∀ x, foldedSetIterable iter X.env x = pure x) (hs1 : ∀ env x, foldedSetIterable iter1 env x = pure x) :
    PS X (.Assign [.Name y py] (.ListComp elt [⟨tg, iter, ifs, 0⟩, ⟨tg1, iter1, ifs1, 0⟩] scope pos) spos) (rdS w W (mAsg (mLc2B cell mi gm tt mi1 gm1 tt1 me (own.map (·.2)) vs1) (mgName i))) :=
  PS.to (ps_setLc2 hc hN hy hyl hsw hi ok hv1 hg ht hi1 hg1 ht1 he hs hs1) fun E σ H ⟨fr, as, δ, μ, h, q⟩ => lc2_ok hd hv hd1 hw1 h (by
    have q : SOk (w.on fr) W as H (((mLc2A mi gm tt mi1 gm1 tt1 me (own.map (·.2)) vs1 δ μ).bindE fun l μ => if cell then .ok (.loc μ.length) (μ ++ [.lst l]) else .ok (.lst l) μ).bindS δ fun d μ => .nx (δ.set i (some d)) μ) E := q
    revert q
    cases mLc2A mi gm tt mi1 gm1 tt1 me (own.map (·.2)) vs1 δ μ with
    | bad => exact fun q => q
    | exc c fs μ1 => exact fun q dd H' as' e' r' x => q dd σ H' as' e' (h.ext e' r') x
    | ok acc μ1 => cases cell with
      | false => exact fun q L H' as' e' m _ => q _ H' as' e' ⟨m.lst.1, (h.sl.ext e').set m.lst.2 i⟩
      | true => exact fun q L H' as' e' m n => q _ H' _ (e'.app n) ⟨m.loc.1, (h.sl.ext (e'.app n)).set m.loc.2 i⟩)
end
end DL

/-! Shapes of syntax, looked at by Bools; the rules of calls, made one. -/
namespace DL
open PySem PySem.Spec PyProof.Rows L2
variable {w : Wd}
section
variable {env : Env} {pos : Pos}
def notStar : Expr → Bool
  | .Starred .. => false
  | _ => true
theorem star_cons {e : Expr} {es : List Expr} (h : notStar e = true) : starEach (e :: es) env = (false, eval e env) :: starEach es env := by
  cases e <;> first | rfl | cases h
def plainArgs (es : List Expr) : Bool := es.all notStar
theorem plainArgs_cons {e : Expr} {es : List Expr} (h : plainArgs (e :: es) = true) : notStar e = true ∧ plainArgs es = true := by
  simpa [plainArgs] using h
theorem star_all : ∀ {es : List Expr}, plainArgs es = true → starEach es env = es.map fun e => (false, eval e env)
  | [], _ => rfl
  | e :: es, h => by
    obtain ⟨h1, h2⟩ := plainArgs_cons h
    rw [star_cons h1, star_all h2]; rfl
theorem star_any {es : List Expr} (h : plainArgs es = true) : (backTo pos (starEach es env)).any (·.1) = false := by
  rw [star_all h]
  induction es with
  | nil => rfl
  | cons e es ih =>
    show (false || (backTo pos (es.map fun e => (false, eval e env))).any (·.1)) = false
    rw [Bool.false_or]
    exact ih (plainArgs_cons h).2
theorem star_few {es : List Expr} (h : plainArgs es = true) : (backTo pos (starEach es env)).all (fun x => !x.1) = true := by
  rw [star_all h]
  induction es with
  | nil => rfl
  | cons e es ih =>
    show (!false && (backTo pos (es.map fun e => (false, eval e env))).all (fun x => !x.1)) = true
    rw [Bool.not_false, Bool.true_and]
    exact ih (plainArgs_cons h).2
def kwName : Keyword → Option Str
  | ⟨n, _, _⟩ => n
def plainKw (kws : List Keyword) : Bool := kws.all fun k => (kwName k).isSome
theorem kw_some : ∀ {kws : List Keyword}, plainKw kws = true → (backToKw pos (keywordEach kws env)).all (·.1.isSome) = true
  | [], _ => rfl
  | ⟨n, v, p⟩ :: r, h => by
    have h : (n.isSome && plainKw r) = true := h
    obtain ⟨h1, h2⟩ := Bool.and_eq_true_iff.mp h
    show (n.isSome && (backToKw pos (keywordEach r env)).all (·.1.isSome)) = true
    rw [h1, Bool.true_and]
    exact kw_some h2
theorem kw_none {kws : List Keyword} (h : plainKw kws = true) : (backToKw pos (keywordEach kws env)).any (·.1.isNone) = false := by
  have q := kw_some (pos := pos) (env := env) h
  rw [List.any_eq_false]
  intro x hx
  have z := List.all_eq_true.mp q x hx
  cases e : x.1 with
  | none => rw [e] at z; cases z
  | some _ => simp
def kwNames (kws : List Keyword) : List Str := kws.filterMap kwName
theorem kw_names : ∀ {kws : List Keyword}, (backToKw pos (keywordEach kws env)).filterMap (·.1) = kwNames kws
  | [] => rfl
  | ⟨n, v, p⟩ :: r => by
    cases n with
    | none => exact kw_names (kws := r)
    | some b => exact congrArg (b :: ·) (kw_names (kws := r))
/-- no call of super -/
def plainBase : Expr → Bool
  | .Call (.Name _ _) [] [] _ => false
  | _ => true
theorem base_of {o : Expr} {f : Str} {whole : Sem Value} (h : plainBase o = true) : attributeBase o f env whole = whole := by
  unfold plainBase at h
  unfold attributeBase
  split at h
  · cases h
  · rename_i hn
    split
    · rename_i id p1 p2
      exact absurd rfl (hn id p1 p2)
    · rfl
theorem meth_gen {o : Expr} {name : Str} {args : List Expr} {kws : List Keyword} {apos : Pos} (hb : plainBase o = true) (hl : (apos.endLine == pos.line) = true) (ha : plainArgs args = true) (hk : plainKw kws = true) (hn : args.length + kws.length < 29) :
    eval (.Call (.Attribute o name apos) args kws pos) env = (do
      let ov ← eval o env
      standAt apos.atName
      let (g, first) ← holding [ov] (getMethod ov name (do return (← importBound o env).getD true))
      callWith pos g first (backTo pos (starEach args env)) (backToKw pos (keywordEach kws env))) := by
  have e1 : methodCallForm (args.length + kws.length) (backTo pos (starEach args env)) (backToKw pos (keywordEach kws env)) = true := by
    unfold methodCallForm
    rw [star_few ha, kw_some hk]
    simp only [Bool.true_and, decide_eq_true_eq]
    split <;> omega
  show (do
    let ov ← attributeBase o name env (eval o env)
    standAt apos.atName
    methodCall o name apos pos env ov (args.length + kws.length) (backTo pos (starEach args env)) (backToKw pos (keywordEach kws env))) = _
  rw [base_of hb]
  unfold methodCall methodCallPos calleeOf
  simp only [e1, hl, Bool.not_true, Bool.false_or, if_true, pure_bind]
def plainTest : Expr → Bool
  | .UnaryOp .. => false
  | .BoolOp .. => false
  | .IfExp .. => false
  | .Compare .. => false
  | _ => true
theorem test_of {e : Expr} (h : plainTest e = true) : ∀ whole, isTrue e env whole = (do let v ← whole; standAt e.pos; holding [v] (truthy v)) := by
  intro whole
  cases e <;> first | rfl | cases h
def noSwap : Expr → Bool
  | .ListComp .. => false
  | .SetComp .. => false
  | .DictComp .. => false
  | _ => true
theorem swap_of {e : Expr} {t : Option Expr} {n : Nat} (h : noSwap e = true) : swapsWith e t n env = pure false := by
  cases e <;> first | rfl | cases h
def noSet : Expr → Bool
  | .Set .. => false
  | _ => true
theorem folded_of {e : Expr} (h : noSet e = true) (x : Value) : foldedSetIterable e env x = pure x := by
  cases e <;> first | rfl | cases h
def noSlice : Expr → Bool
  | .Slice .. => false
  | _ => true
theorem plainIx_of {e : Expr} (h : noSlice e = true) : PlainIx e := by
  intro o i
  cases e <;> first | rfl | cases h
theorem noSl_of {e : Expr} (h : noSlice e = true) : NoSl e := by
  intro o i
  cases e <;> first | rfl | cases h
end

/-! ### calls, made one -/
section
variable {X : Cx} {W : WX} {E : XK} {e a b c o : Expr} {es : List Expr} {kws : List Keyword} {pos p apos : Pos} {x mn : Str} {k n np cn : Nat} {f C : Addr} {fd : FuncData} {ps ks : List Str} {m : FD} {W0 : Wd} {qx : Wx → Prop} {sp : Sp}
  {g : List Value → List Value → List Value} {gV : List V → List V → List V} {gD : List D → List D → List D} {ma mb mo : EM} {mr mk : AM}
theorem mB_in {fr as H σ δ μ} {m : EM} {Q : Bool → Hp → Prop} (q : TOk (w.on fr) W σ as H (mB m δ μ) Q) : EOk (w.on fr) W σ as H (m δ μ) (fun v H' => ∃ k, v = .bl k ∧ Q k H') := by
  have q1 : TOk (w.on fr) W σ as H ((m δ μ).bindT fun d μ => match d with | .bl b => .ok b μ | _ => .bad) Q := q
  revert q1
  cases m δ μ with
  | ok d μ1 =>
    intro q1 v H' as' e' r' d'
    cases d' with
    | bl b => exact ⟨b, rfl, q1 H' as' e' r'⟩
    | _ => exact q1.elim
  | exc c fs μ1 => exact fun q => q
  | bad => exact fun q => q
/-- a comparison as a test -/
theorem t_cmpW {op : CmpOp} {r : R2} {m : EM} {ta tb : TE} (ho : OpR X (compareOp op) r) (ha : PE X a ta) (hb : PE X b tb) (hm : behindInMarks op b = false) (hi : ∀ σ H Q, rdE w W m σ H Q → tOp r ta tb σ H Q) : PT X (.Compare a [op] [b] pos) (rdT w W (mB m)) :=
  PT.to (pt_cmpR ho ha hb hm) fun σ H Q ⟨fr, as, δ, μ, h, q⟩ => hi σ H _ ⟨fr, as, δ, μ, h, mB_in q⟩
theorem t_cmp {op : CmpOp} {r : R2} {f : D → D → List M → ER} (ho : OpR X (compareOp op) r) (hf : ∀ fr, OpD (w.on fr) r f) (ha : PE X a (rdE w W ma)) (hb : PE X b (rdE w W mb)) (hm : behindInMarks op b = false) : PT X (.Compare a [op] [b] pos) (rdT w W (mB (mOp f ma mb))) :=
  t_cmpW ho ha hb hm fun σ H Q ⟨fr, as, δ, μ, h, q⟩ => bE2 h q fun as' H' μ' x y vx vy h' dx dy q' => hf fr W σ as' H' δ μ' x y vx vy _ h' dx dy q'
/-- the wish at these slots -/
abbrev WA (W : WX) (σ : L2.St) : XK := fun cls d H => W cls d σ H
theorem EOk.at {σ τ : L2.St} {as : List Addr} {H : Hp} {r : ER} {Q : VK} (q : EOk w W σ as H r Q) : EOk w (WV (WA W σ)) τ as H r Q := match r, q with
  | .ok _ _, q => q
  | .exc _ _ _, q => q
  | .bad, q => q
theorem sp_at {fr as H σ δ μ} {ds : List D} {vs : List V} {Q : VK} (hq : qx w.x) (h : Here (w.on fr) as H σ δ μ) (d : Dens (w.on fr) as H vs ds) (q : EOk (w.on fr) W σ as H (fAr n m ds μ) Q) (hK : w.K = W0.K) (hc : w.ct = W0.ct) : SpD W0 qx n m vs H Q (WA W σ) :=
  sp_okA hq (E := WA W σ) (σ := σ) (δ := δ) h d (EOk.at q) hK hc
section
variable {pins : List (Addr × Obj)} {σ : L2.St} {H : Hp} {s : Shared} {Q : VK} {us ws : List Value} {vs zs : List V}
theorem go_fn (F : FnG X.prog X.w X.K X.mg X.base k f fd ps sp) (hr : RoomG k X.A) (hb : KBn X.K fd ps n ks g gV) (tk : Takes X W) (I : Inv X pins σ H s) (ru : Vals vs us) (rz : Vals zs ws) (l1 : vs.length = n) (l2 : zs.length = ks.length)
    (h : sp (gV vs zs) H Q (WA W σ)) : wpAny (model X.prog X.w) X.A (call (.ref f) us (ks.zip ws)) (EP X pins σ Q) X.xe s := by
  refine wpAny_call (codeAny_mono (F.run X.A X.stack s H ⟨us, ks.zip ws⟩ (g us ws) (gV vs zs) Q (WA W σ) hr I.env0 (hb.to s us ws I.kIn (ru.length.symm.trans l1) (rz.length.symm.trans l2)) (hb.rel ru rz) h) fun r t hq => ?_)
  cases r with
  | error err => exact passAt tk σ pins H s err t I hq
  | ok fl => cases fl with
    | ret u => exact I.after hq
    | _ => exact False.elim hq
theorem go_make (M : Mk X.K C f) (F : FnG X.prog X.w X.K X.mg X.base k f fd ps sp) (hr : RoomG (k + 1) X.A) (hb : KBn X.K fd ps (n + 1) ks g gV) (tk : Takes X W) (I : Inv X pins σ H s) (ru : Vals vs us) (rz : Vals zs ws) (l1 : vs.length = n) (l2 : zs.length = ks.length)
    (h : ∀ x dx, H x = none → H dx = none → dx ≠ x → sp (gV (.ref x :: vs) zs) (upd (upd H dx (.own x)) x (.ins C dx [])) (fun v H2 => v = .non ∧ Q (.ref x) H2) (WA W σ)) :
    wpAny (model X.prog X.w) X.A (call (.ref C) us (ks.zip ws)) (EP X pins σ Q) X.xe s := by
  obtain ⟨N, hN⟩ : ∃ N, N = s.heap.objs.size + 1 := ⟨_, rfl⟩
  have I2 := Inv.made (C := C) I
  rw [← hN] at I2
  have q0 := h N s.heap.objs.size (by rw [hN]; exact I.hok.fresh (Nat.le_succ _)) (I.hok.fresh (Nat.le_refl _)) (by rw [hN]; exact Nat.ne_of_lt (Nat.lt_succ_self _))
  have ru' : Vals (V.ref N :: vs) (Value.ref N :: us) := .cons rfl ru
  have len1 : (Value.ref N :: us).length = n + 1 := ru'.length.symm.trans (congrArg Nat.succ l1)
  subst hN
  refine wpAny_call (make_map (f := f) I.kIn M.makes M.init (beq_iff_eq.mp M.fn) (codeAny_mono (F.run _ X.stack _ _ ⟨Value.ref (s.heap.objs.size + 1) :: us, ks.zip ws⟩ _ _ _ (WA W σ) (hr.make C us (ks.zip ws)) (I2.env0.make C us (ks.zip ws))
    (hb.to _ _ ws I2.kIn len1 (rz.length.symm.trans l2)) (hb.rel ru' rz) q0) fun r t hq => ?_))
  cases r with
  | error err => exact passAt tk σ _ _ _ err t I2 hq
  | ok fl => cases fl with
    | ret u =>
      obtain ⟨v, H', I3, rv, ev, q3⟩ := I2.after hq
      subst ev
      exact ⟨rv, ⟨V.ref (s.heap.objs.size + 1), H', I3, rfl, q3⟩⟩
    | _ => exact False.elim hq
/-- the arguments, the keywords, then the call -/
theorem with_all {fv : Value} {first : List Value} {ta tb : TA} (hk : PySem.W.keepIn X.K fv = true) (pa : plainArgs es = true) (pk : plainKw kws = true) (ha : PA X es ta) (hnil : es = [] → ∀ σ H Q, ta σ H Q → Q [] H) (hkw : PK X kws tb) (I : Inv X pins σ H s) (h : ta σ H fun vs H1 => tb σ H1 fun zs H2 => ∀ us ws s2, Inv X pins σ H2 s2 → Vals vs us → Vals zs ws →
      wpAny (model X.prog X.w) X.A (call fv (first ++ us) ((kwNames kws).zip ws)) (EP X pins σ Q) X.xe s2) :
    wpAny (model X.prog X.w) X.A (callWith pos fv first (backTo pos (starEach es X.env)) (backToKw pos (keywordEach kws X.env))) (EP X pins σ Q) X.xe s := by
  have hpl : ((backTo pos (starEach es X.env)).any (·.1) || (backToKw pos (keywordEach kws X.env)).any (·.1.isNone)) = false := by rw [star_any pa, kw_none pk]; rfl
  cases es with
  | nil =>
    refine PySem.W.callWith_KW0 (h₀ := X.base) I.ok.mod.kin hk (kw_some pk) ?_ hpl
    refine thn (hkw.run pos pins s σ H _ I (hnil rfl _ _ _ h)) fun ws s2 ⟨zs, H2, I2, r2, q2⟩ => ⟨I2.kIn, ?_⟩
    rw [kw_names]
    exact q2 [] ws s2 I2 .nil r2
  | cons e rest =>
    refine PySem.W.callWith_KW (h₀ := X.base) I.ok.mod.kin hk (kw_some pk) ?_ hpl (star_cons (plainArgs_cons pa).1)
    refine thn (ha.run pos pins s σ H _ I h) fun us s1 ⟨vs, H1, I1, r1, q1⟩ => ?_
    refine thn (hkw.run pos pins s1 σ H1 _ I1 q1) fun ws s2 ⟨zs, H2, I2, r2, q2⟩ => ⟨I2.kIn, ?_⟩
    rw [kw_names]
    exact q2 us ws s2 I2 r1 r2
end
end
end DL

/-! Calls of defs, methods, classes: any arguments, any wish. -/
namespace DL
open PySem PySem.Spec PyProof.Rows L2
variable {w : Wd}
section
variable {X : Cx} {W : WX} {E : XK} {e a b c o : Expr} {es : List Expr} {kws : List Keyword} {pos p apos : Pos} {x mn : Str} {k n np cn : Nat} {f C : Addr} {fd : FuncData} {ps ks : List Str} {m : FD} {W0 : Wd} {qx : Wx → Prop} {sp : Sp}
  {g : List Value → List Value → List Value} {gV : List V → List V → List V} {gD : List D → List D → List D} {ma mb mo : EM} {mr mk : AM}
theorem nil_args {σ H Q} (h : rdA w W mNil σ H Q) : Q [] H := by
  obtain ⟨fr, as, δ, μ, h, q⟩ := h
  exact q [] H as Ext.refl h.rel .nil
theorem d_callG (hq : qx w.x) (F : FnG X.prog X.w X.K X.mg X.base k f fd ps (SpD W0 qx n m)) (hr : RoomG k X.A) (hg : Gl X x) (hm : X.mg x = some (.ref f)) (hk : PySem.W.keepIn X.K (.ref f) = true) (hb : KBn X.K fd ps np ks g gV) (hgd : OrdD gV gD) (tk : Takes X W) (pa : plainArgs es = true) (pk : plainKw kws = true)
    (ha : PA X es (rdA w W mr)) (hnil : es = [] → mr = mNil) (hkw : PKd X w W kws mk) (hks : kwNames kws = ks) (hdb : (x == ("__debug__" : Str)) = false) (hK : w.K = W0.K) (hc : w.ct = W0.ct) : PE X (.Call (.Name x p) es kws pos) (rdE w W (mCallK np ks.length (fAr n m) gD mr mk)) := by
  refine ⟨fun pins s σ H Q I ⟨fr, as, δ, μ, h, q⟩ => wpAny_Call_Name_kw (ld_glob I hg hm ?_ hdb)⟩
  refine with_all hk pa pk ha (fun z σ H Q q => by rw [hnil z] at q; exact nil_args q) hkw I ?_
  refine bAEx h q fun vs H1 as1 ds μ1 e1 h1 d1 q1 => bAEx h1 q1 fun zs H2 as2 zd μ2 e2 h2 d2 q2 => ?_
  by_cases hl : ds.length = np ∧ zd.length = ks.length
  · rw [if_pos hl] at q2
    intro us ws s2 I2 ru rz
    rw [hks]
    exact go_fn F hr hb tk I2 ru rz (by rw [d1.length]; exact hl.1) (by rw [d2.length]; exact hl.2) (sp_at hq h2 (hgd _ _ _ _ _ _ _ (d1.ext e2) d2) q2 hK hc)
  · rw [if_neg hl] at q2; exact q2.elim
theorem d_methG (hq : qx w.x) (he : PE X o (rdE w W mo)) (cl : Cls X.K (w.ct cn)) (hm : Meth X.K (w.ct cn) mn f) (F : FnG X.prog X.w X.K X.mg X.base k f fd ps (SpD W0 qx n m)) (hr : RoomG k X.A) (hb : KBn X.K fd ps np ks g gV) (hgd : OrdD gV gD) (tk : Takes X W) (pa : plainArgs es = true) (pk : plainKw kws = true)
    (ha : PA X es (rdA w W mr)) (hnil : es = [] → mr = mNil) (hkw : PKd X w W kws mk) (hks : kwNames kws = ks) (pb : plainBase o = true) (hl : (apos.endLine == pos.line) = true) (hn : es.length + kws.length < 29) (hK : w.K = W0.K) (hc : w.ct = W0.ct) :
    PE X (.Call (.Attribute o mn apos) es kws pos) (rdE w W (mMethK cn mn np ks.length (fAr n m) gD mo mr mk)) := by
  refine ⟨fun pins s σ H Q I ⟨fr, as, δ, μ, h, q⟩ => PySem.W.methodCall_KW ?_ (meth_gen pb hl pa pk hn)⟩
  have q0 : rdE w W mo σ H fun v H1 => ∃ as1 d μ1, Here (w.on fr) as1 H1 σ δ μ1 ∧ Den (w.on fr) as1 H1 v d ∧ EOk (w.on fr) W σ as1 H1 (match objOf μ1 d with
    | some (c, fs) => if c = cn then match fs.lookup mn with
      | none => (mr δ μ1).bindE fun ds μ => (mk δ μ).bindE fun es μ => if ds.length + 1 = np ∧ es.length = ks.length then fAr n m (gD (d :: ds) es) μ else .bad
      | some _ => .bad
      else .bad
    | none => .bad) Q := bEx h q fun v H1 as1 d μ1 e1 h1 d1 q1 => ⟨as1, d, μ1, h1, d1, q1⟩
  refine thn (he.run pins s σ H _ I q0) fun u s1 ⟨v, H1, I1, rx, as1, d, μ1, h1, d1, q1⟩ => ?_
  cases z : objOf μ1 d with
  | none => simp only [z] at q1; exact q1.elim
  | some pr =>
    obtain ⟨c, fs⟩ := pr
    simp only [z] at q1
    by_cases hcn : c = cn
    · rw [if_pos hcn] at q1
      subst hcn
      cases z3 : fs.lookup mn with
      | some y => simp only [z3] at q1; exact q1.elim
      | none =>
        simp only [z3] at q1
        obtain ⟨ad, dx, fvs, rfl, h2, h3, h4⟩ := obj_of h1.rel d1 z
        obtain rfl : u = Value.ref ad := rx
        refine getmeth_ok I1 h2 cl hm ((look_dens mn h3 h4).2 z3) ?_
        refine with_all (first := [.ref ad]) hm.kp pa pk ha (fun z σ H Q q => by rw [hnil z] at q; exact nil_args q) hkw I1 ?_
        refine bAEx h1 q1 fun vs H2 as2 ds μ2 e2 h2 d2 q2 => bAEx h2 q2 fun zs H3 as3 zd μ3 e3 h3 d3 q3 => ?_
        by_cases hl : ds.length + 1 = np ∧ zd.length = ks.length
        · rw [if_pos hl] at q3
          intro us ws s2 I2 ru rz
          rw [hks]
          exact go_fn (us := .ref ad :: us) (vs := .ref ad :: vs) F hr hb tk I2 (.cons rfl ru) rz (by rw [List.length_cons, d2.length]; exact hl.1) (by rw [d3.length]; exact hl.2) (sp_at hq h3 (hgd _ _ _ _ _ _ _ (.cons ((d1.ext e2).ext e3) (d2.ext e3)) d3) q3 hK hc)
        · rw [if_neg hl] at q3; exact q3.elim
    · rw [if_neg hcn] at q1; exact q1.elim
def mMakeG (cn np nk : Nat) (m : FD) (gD : List D → List D → List D) (mr mk : AM) : EM := fun δ μ => (mr δ μ).bindE fun ds μ => (mk δ μ).bindE fun es μ => if ds.length + 1 = np ∧ es.length = nk then finO μ.length cn (m (gD (.loc μ.length :: ds) es) (μ ++ [.obj cn []])) else .bad
theorem d_makeG (hq : qx w.x) (M : Mk X.K (w.ct cn) f) (F : FnG X.prog X.w X.K X.mg X.base k f fd ps (SpD W0 qx n m)) (hr : RoomG (k + 1) X.A) (hg : Gl X x) (hm : X.mg x = some (.ref (w.ct cn))) (hb : KBn X.K fd ps np ks g gV) (hgd : OrdD gV gD) (tk : Takes X W) (pa : plainArgs es = true) (pk : plainKw kws = true)
    (ha : PA X es (rdA w W mr)) (hnil : es = [] → mr = mNil) (hkw : PKd X w W kws mk) (hks : kwNames kws = ks) (hdb : (x == ("__debug__" : Str)) = false) (hnp : np ≠ 0) (hK : w.K = W0.K) (hc : w.ct = W0.ct) : PE X (.Call (.Name x p) es kws pos) (rdE w W (mMakeG cn np ks.length (fAr n m) gD mr mk)) := by
  obtain ⟨nq, rfl⟩ : ∃ nq, np = nq + 1 := ⟨np - 1, by omega⟩
  refine ⟨fun pins s σ H Q I ⟨fr, as, δ, μ, h, q⟩ => wpAny_Call_Name_kw (ld_glob I hg hm ?_ hdb)⟩
  refine with_all M.kp pa pk ha (fun z σ H Q q => by rw [hnil z] at q; exact nil_args q) hkw I ?_
  refine bAEx h q fun vs H1 as1 ds μ1 e1 h1 d1 q1 => bAEx h1 q1 fun zs H2 as2 zd μ2 e2 h2 d2 q2 => ?_
  by_cases hl : ds.length + 1 = nq + 1 ∧ zd.length = ks.length
  · rw [if_pos hl] at q2
    intro us ws s2 I2 ru rz
    rw [hks]
    refine go_make M F hr hb tk I2 ru rz (by rw [d1.length]; omega) (by rw [d2.length]; exact hl.2) fun y dy hy hd ne => ?_
    obtain ⟨e3, r3, d3⟩ := made_new (cn := cn) h2 hy hd ne
    have q3 := finO_ok (E := WA W σ) h2 hy hd ne (EOk.at q2)
    exact sp_okA hq (E := WA W σ) (σ := σ) (δ := δ) ⟨r3, h2.sl.ext e3⟩ (hgd _ _ _ _ _ _ _ (.cons d3 ((d1.ext e2).ext e3)) (d2.ext e3)) q3 hK hc
  · rw [if_neg hl] at q2; exact q2.elim
end

/-! ### what is known of a callee -/
/-- how a callee is named: a def, a class's method, a class -/
inductive EK where
  | fn | me (cn : Nat) | mk (cn : Nat)
  deriving DecidableEq
/-- a callee at one way of being called: np values (self among them), keywords ks -/
structure Ent where
  x : Str
  kd : EK
  n : Nat
  np : Nat
  ks : List Str
  gD : List D → List D → List D
  m : FD
  la : Bool := false
/-- the program's text as it runs; tb: the tables of the defs that hold lambdas -/
structure Ctx where
  P : Program
  wo : World
  mg : Str → Option Value
  base : Heap
  tb : List (Addr × Str)
/-- what a def asks of the world: the tables stand; no function handed in, where it makes a lambda -/
structure Qx (tq : List (Addr × Str)) (la : Bool) (x : Wx) : Prop where
  tb : ∀ p ∈ tq, p ∈ x.T
  un : ∀ p ∈ tq, ∀ q ∈ x.T, q.1 = p.1 → q.2 = p.2
  nl : la = true → x.lam = none
structure EntOk (c : Ctx) (w : Wd) (lvl : Nat) (e : Ent) : Prop where
  ok : ∃ (f : Addr) (fd : FuncData) (k : Nat) (ps : List Str) (g : List Value → List Value → List Value) (gV : List V → List V → List V) (W0 : Wd),
    k + 1 ≤ lvl ∧ FnG c.P c.wo w.K c.mg c.base k f fd ps (SpD W0 (Qx c.tb e.la) e.n e.m) ∧ W0.K = w.K ∧ W0.ct = w.ct ∧ KBn w.K fd ps e.np e.ks g gV ∧ OrdD gV e.gD ∧ match e.kd with
      | .fn => c.mg e.x = some (.ref f) ∧ PySem.W.keepIn w.K (.ref f) = true
      | .me cn => Cls w.K (w.ct cn) ∧ Meth w.K (w.ct cn) e.x f
      | .mk cn => Mk w.K (w.ct cn) f ∧ c.mg e.x = some (.ref (w.ct cn))
end DL

/-! Operators, built-ins, methods of built-ins by their names; lists changed in place. -/
namespace DL
open PySem PySem.Spec PyProof.Rows L2
variable {w : Wd}
/-! ### operators -/
inductive BK where
  | add | sub | mul | mod | div | pow
  deriving DecidableEq
def BK.op : BK → Operator
  | .add => .Add
  | .sub => .Sub
  | .mul => .Mult
  | .mod => .Mod
  | .div => .FloorDiv
  | .pow => .Pow
def BK.f : BK → D → D → List M → ER
  | .add => fAdd
  | .sub => fSub
  | .mul => fMul2
  | .mod => fMod
  | .div => fDiv
  | .pow => fPow
theorem bk_ok {X : Cx} (hK : X.K = w.K) (o : BK) : ∃ r, OpR X (binaryOp o.op) r ∧ ∀ fr, OpD (w.on fr) r o.f := by
  cases o with
  | add => exact ⟨_, op_addAll, fun _ => od_add hK⟩
  | sub => exact ⟨_, op_sub, fun _ => od_I0⟩
  | mul => exact ⟨_, (op_mul.or op_rep).or op_mulS, fun _ => od_mul2⟩
  | mod => exact ⟨_, op_mod, fun _ => od_I fun _ _ h => by simpa [CDiv, CPow] using h⟩
  | div => exact ⟨_, op_fdiv, fun _ => od_I fun _ _ h => by simpa [CDiv, CPow] using h⟩
  | pow => exact ⟨_, op_pow, fun _ => od_I fun _ _ h => by simpa [CDiv, CPow] using h⟩
def fIsB (neg : Bool) (x y : D) (μ : List M) : ER := match x, y with
  | .bl a, .bl b => .ok (.bl (if neg then !decide (a = b) else decide (a = b))) μ
  | _, _ => .bad
theorem od_isB : OpD w (fun x y H Q => ∃ a b, x = .bl a ∧ y = .bl b ∧ Q (.bl (decide (a = b))) H) (fIsB false) := by
  intro W σ as H δ μ x y vx vy Q h dx dy q
  cases dx with
  | bl i =>
    cases dy with
    | bl j => exact ⟨i, j, rfl, rfl, q _ H as Ext.refl h.rel (.bl _)⟩
    | _ => exact q.elim
  | _ => exact q.elim
theorem od_notB : OpD w (fun x y H Q => ∃ a b, x = .bl a ∧ y = .bl b ∧ Q (.bl (!decide (a = b))) H) (fIsB true) := by
  intro W σ as H δ μ x y vx vy Q h dx dy q
  cases dx with
  | bl i =>
    cases dy with
    | bl j => exact ⟨i, j, rfl, rfl, q _ H as Ext.refl h.rel (.bl _)⟩
    | _ => exact q.elim
  | _ => exact q.elim
inductive CK where
  | lt | le | gt | ge | eq | ne | inS | notInS | inD | notInD | isB | notB | ltD | leD | gtD | geD
  deriving DecidableEq
def CK.op : CK → CmpOp
  | .lt => .Lt
  | .le => .LtE
  | .gt => .Gt
  | .ge => .GtE
  | .eq => .Eq
  | .ne => .NotEq
  | .inS => .In
  | .notInS => .NotIn
  | .inD => .In
  | .notInD => .NotIn
  | .isB => .Is
  | .notB => .IsNot
  | .ltD => .Lt
  | .leD => .LtE
  | .gtD => .Gt
  | .geD => .GtE
def CK.f : CK → D → D → List M → ER
  | .lt => fLt
  | .le => fLe
  | .gt => fGt
  | .ge => fGe
  | .eq => fEqD false
  | .ne => fEqD true
  | .inS => fInS false
  | .notInS => fInS true
  | .inD => fInD false
  | .notInD => fInD true
  | .isB => fIsB false
  | .notB => fIsB true
  | .ltD => fOrd gLt
  | .leD => fOrd gLe
  | .gtD => fOrd gGt
  | .geD => fOrd gGe
theorem ck_ok {X : Cx} (hK : X.K = w.K) (hu : X.A.units + 65 < cLine) (o : CK) : ∃ r, OpR X (compareOp o.op) r ∧ ∀ fr, OpD (w.on fr) r o.f := by
  cases o with
  | lt => exact ⟨_, op_lt, fun _ => od_B⟩
  | le => exact ⟨_, op_le, fun _ => od_B⟩
  | gt => exact ⟨_, op_gt, fun _ => od_B⟩
  | ge => exact ⟨_, op_ge, fun _ => od_B⟩
  | eq => exact ⟨_, op_eqD (Nat.lt_of_succ_lt hu), fun _ => od_eqD hK.symm⟩
  | ne => exact ⟨_, op_neD (Nat.lt_of_succ_lt hu), fun _ => od_neD hK.symm⟩
  | inS => exact ⟨_, op_in_sign, fun _ => od_inS⟩
  | notInS => exact ⟨_, op_notIn_sign, fun _ => od_notInS⟩
  | inD => exact ⟨_, op_inD hu, fun _ => od_inD hK.symm⟩
  | notInD => exact ⟨_, op_notInD hu, fun _ => od_notInD hK.symm⟩
  | isB => exact ⟨_, op_is_bl, fun _ => od_isB⟩
  | notB => exact ⟨_, op_isnot_bl, fun _ => od_notB⟩
  | ltD => exact ⟨_, op_ltD hu, fun _ => od_ord hK.symm⟩
  | leD => exact ⟨_, op_leD hu, fun _ => od_ord hK.symm⟩
  | gtD => exact ⟨_, op_gtD hu, fun _ => od_ord hK.symm⟩
  | geD => exact ⟨_, op_geD hu, fun _ => od_ord hK.symm⟩
/-- the comparisons of a chain -/
def CK.g : CK → Option (Int → Int → Bool)
  | .lt => some fun i j => decide (i < j)
  | .le => some fun i j => decide (i ≤ j)
  | .gt => some fun i j => decide (j < i)
  | .ge => some fun i j => decide (j ≤ i)
  | _ => none
theorem ckg_ok {X : Cx} {o : CK} {g : Int → Int → Bool} (h : o.g = some g) : OpR X (compareOp o.op) (rI0 fun i j => .bl (g i j)) := by
  cases o <;> cases h
  · exact op_lt
  · exact op_le
  · exact op_gt
  · exact op_ge
def fNeg (x : D) (μ : List M) : ER := match x with
  | .int i => .ok (.int (-i)) μ
  | _ => .bad
section
variable {X : Cx} {W : WX} {e a b c o : Expr} {es : List Expr} {pos p apos cpos : Pos} {x : Str} {ma mb me : EM} {mr : AM}
theorem d_neg (ha : PE X a (rdE w W ma)) : PE X (.UnaryOp .USub a pos) (rdE w W (mUn fNeg ma)) := by
  refine d_un un_neg (fun fr W σ as H δ μ x vx Q h dx q => ?_) ha
  cases dx with
  | int i => exact ⟨i, rfl, q _ H as Ext.refl h.rel (.int _)⟩
  | _ => exact q.elim

/-! ### repr -/
theorem noDict : ∀ {v : V} {d : PyData} {K : PySem.W.Frag} {H : Hp}, Dp K H v d → d.hasDict = false
  | _, _, _, _, .non => rfl
  | _, _, _, _, .bl _ => rfl
  | _, _, _, _, .int _ => rfl
  | _, _, _, _, .str _ => rfl
  | _, _, _, _, .lst _ k => noDicts k
  | _, _, _, _, .tup _ k => noDicts k
where
  noDicts : ∀ {vs : List V} {ds : List PyData} {K : PySem.W.Frag} {H : Hp}, DpAll K H vs ds → PyData.hasDictAll ds = false
  | _, _, _, _, .nil => rfl
  | _, _, _, _, .cons h t => by
    show (PyData.hasDict _ || PyData.hasDictAll _) = false
    rw [noDict h, noDicts t]; rfl
def rRepr (K : PySem.W.Frag) : List V → Hp → VK → Prop := fun xs H Q => ∃ v d, xs = [v] ∧ Dp K H v d ∧ d.showable = true ∧ d.depth ≤ 100 ∧ d.shown.length ≤ sizeLine ∧ Q (.str d.shown) H
theorem call_reprD (gd : X.A.guards = some []) (hu : X.A.units + 200 < cLine) : CallR X (.builtin "repr") (rRepr X.K) := by
  intro pins s σ H xs us Q I r ⟨v, d, ex, dp, sh, dep, sz, q⟩
  subst ex
  obtain ⟨u, rfl, ru⟩ := vals1 r
  obtain ⟨as, rd⟩ := Dp.reads I d v u dp ru
  have nd := noDict dp
  cases rd with
  | none => exact PySem.P.repr_of_none ⟨.str _, H, I.tok _, ⟨_, rfl⟩, q⟩
  | bool b => exact PySem.P.repr_of_bool ⟨.str _, H, I.tok _, ⟨_, rfl⟩, q⟩
  | int i t =>
    have sh : i.natAbs.log2 < 1920 := of_decide_eq_true sh
    exact PySem.P.repr_of_int sh ⟨.str _, H, I.tok _, ⟨_, rfl⟩, q⟩
  | str x t => exact PySem.P.repr_of_str ⟨.str _, H, I.tok _, ⟨_, rfl⟩, q⟩ sz
  | list h1 h2 h3 h4 => exact repr_of_reads' (.list h1 h2 h3 h4) sh (fun z => by rw [nd] at z; cases z) gd (by omega) (fun _ _ e => e) (fun h' u tk hk => ⟨.str _, H, I.kept hk, ⟨_, rfl⟩, q⟩) sz
  | tuple h1 h2 h3 h4 => exact repr_of_reads' (.tuple h1 h2 h3 h4) sh (fun z => by rw [nd] at z; cases z) gd (by omega) (fun _ _ e => e) (fun h' u tk hk => ⟨.str _, H, I.kept hk, ⟨_, rfl⟩, q⟩) sz
  | dict => cases nd
/-- what repr tells of data, where it may be asked -/
def reprOk (p : PyData) : Bool := p.showable && (decide (p.depth ≤ 100) && lineOk p.shown.length)
def fRepr (ds : List D) (μ : List M) : ER := match ds with
  | [x] => match py (top μ x) with
    | some p => if reprOk p then .ok (.str p.shown.cps.toList) μ else .bad
    | none => .bad
  | _ => .bad
theorem cd_repr {K : PySem.W.Frag} (hK : w.K = K) : CallD w (rRepr K) fRepr := by
  intro W σ as H δ μ ds vs Q h d q
  unfold fRepr at q
  split at q
  · rename_i x
    cases d with
    | cons d1 t1 =>
      cases t1
      cases e : py (top μ x) with
      | none => rw [e] at q; exact q.elim
      | some p =>
        simp only [e] at q
        cases e2 : reprOk p with
        | false => rw [e2] at q; exact q.elim
        | true =>
          rw [e2] at q
          unfold reprOk at e2
          obtain ⟨z1, z2⟩ := Bool.and_eq_true_iff.mp e2
          obtain ⟨z2, z3⟩ := Bool.and_eq_true_iff.mp z2
          exact ⟨_, p, rfl, top_dp hK h.rel d1 e, z1, of_decide_eq_true z2, lineOk_line z3, q _ H as Ext.refl h.rel (.strV _)⟩
  · exact q.elim
/-! list of a text -/
theorem vals_get : ∀ {vs : List V} {us : List Value}, vs.length = us.length → (∀ (j : Nat) v u, vs[j]? = some v → us[j]? = some u → RelV v u) → Vals vs us
  | [], [], _, _ => .nil
  | [], _ :: _, h, _ => by cases h
  | _ :: _, [], h, _ => by cases h
  | v :: vs, u :: us, h, g => .cons (g 0 v u rfl rfl) (vals_get (by simpa using h) fun j a b e1 e2 => g (j + 1) a b (by simpa using e1) (by simpa using e2))
def rListText : List V → Hp → VK → Prop := fun xs H Q => ∃ s : List Nat, xs = [.str ⟨s.toArray⟩] ∧ s.length ≤ sizeLine ∧ ∀ p, H p = none → Q (.ref p) (upd H p (.lst (s.map fun c => V.str ⟨[c].toArray⟩)))
theorem call_list_text {X : Cx} (hcalm : X.calm = true) : CallR X (.type "list") rListText := by
  intro pins s σ H xs us Q I r q
  obtain ⟨t, ex, hz, q⟩ := q
  subst ex
  obtain ⟨u, eu, rx⟩ := vals1 r
  subst eu
  obtain ⟨tk, rfl⟩ := rx
  have hz' : (⟨t.toArray⟩ : Str).cps.size ≤ sizeLine := by simpa using hz
  refine call_list_str (I.ok.hd hcalm) ⟨t.toArray⟩ tk (hn := hz') fun h' tk' acc c' hk hD hacc => ?_
  have hv : Vals (t.map fun c => V.str ⟨[c].toArray⟩) acc.toList := vals_get (by simpa using hacc.1.symm) fun j v u e1 e2 => by
    obtain ⟨c, u', h1, h2⟩ := hacc.2 j u (by rw [← Array.getElem?_toList]; exact e2)
    rw [List.getElem?_map] at e1
    have h3 : t[j]? = some c := by simpa using h1
    rw [h3] at e1
    cases e1
    exact ⟨u', h2⟩
  exact ⟨.ref s.heap.objs.size, upd H s.heap.objs.size (.lst (t.map fun c => V.str ⟨[c].toArray⟩)), I.laid (t' := tk') hk (Nat.le_refl _)
    (show ObjOk X.prog X.w _ _ _ (.lst (t.map fun c => V.str ⟨[c].toArray⟩)) from ⟨by rw [List.length_map]; exact hz, acc.toList, c', hv, by rw [Array.toArray_toList]; exact hD⟩), rfl, q _ (I.hok.fresh (Nat.le_refl _))⟩
theorem dens_signs {as : List Addr} {H : Hp} : ∀ s : List Nat, Dens w as H (s.map fun c => V.str ⟨[c].toArray⟩) (strItems s)
  | [] => .nil
  | c :: s => .cons (.str [c]) (dens_signs s)
def fListX (ds : List D) (μ : List M) : ER := match ds with
  | [.str s] => if lineOk s.length then .ok (.lst (strItems s)) μ else .bad
  | ds => fList ds μ
def fListMX (ds : List D) (μ : List M) : ER := match ds with
  | [.str s] => if lineOk s.length then .ok (.loc μ.length) (μ ++ [.lst (strItems s)]) else .bad
  | ds => fListM ds μ
theorem cd_listX {K : PySem.W.Frag} (hK : w.K = K) : CallD w (fun xs H Q => rListOf K xs H Q ∨ rListText xs H Q) fListX := by
  intro W σ as H δ μ ds vs Q h d q
  unfold fListX at q
  split at q
  · rename_i t
    cases e : lineOk t.length with
    | false => rw [e] at q; exact q.elim
    | true =>
      rw [e] at q
      cases d with
      | cons d1 t1 =>
        cases t1
        cases d1
        exact .inr ⟨t, rfl, lineOk_line e, fun p hp => q _ _ as (Ext.push hp) (h.rel.push hp) (.lst (h.rel.newF hp) (h.rel.new hp) upd_same (dens_signs t))⟩
  · exact .inl (cd_list hK W σ as H δ μ _ vs Q h d q)
theorem cd_listMX {K : PySem.W.Frag} (hK : w.K = K) : CallD w (fun xs H Q => rListOf K xs H Q ∨ rListText xs H Q) fListMX := by
  intro W σ as H δ μ ds vs Q h d q
  unfold fListMX at q
  split at q
  · rename_i t
    cases e : lineOk t.length with
    | false => rw [e] at q; exact q.elim
    | true =>
      rw [e] at q
      cases d with
      | cons d1 t1 =>
        cases t1
        cases d1
        exact .inr ⟨t, rfl, lineOk_line e, fun p hp => let ⟨e', r', n'⟩ := cell_new h.rel hp (dens_signs t); q _ _ _ e' r' n'⟩
  · exact .inl (cd_listM hK W σ as H δ μ _ vs Q h d q)
/-! ### built-ins -/
inductive BI where
  | len | abs | int | min2 | max2 | all | any | list | listM | tuple | isi | repr | sorted
  deriving DecidableEq
def BI.nm : BI → Str
  | .len => "len"
  | .abs => "abs"
  | .int => "int"
  | .min2 => "min"
  | .max2 => "max"
  | .all => "all"
  | .any => "any"
  | .list => "list"
  | .listM => "list"
  | .tuple => "tuple"
  | .isi => "isinstance"
  | .repr => "repr"
  | .sorted => "sorted"
/-- what isinstance tells: of types and classes, of exceptions' classes -/
structure Kks where
  kk : String ⊕ Nat → String ⊕ Nat → Option Bool
  ke : Nat → String ⊕ Nat → Option Bool
def fIs (k : Kks) (ds : List D) (μ : List M) : ER := match ds with
  | [.exc c fs, .tup l] => fIsXA k.ke [.exc c fs, .tup l] μ
  | .exc c fs :: r => fIsX k.ke (.exc c fs :: r) μ
  | ds => fIsG k.kk ds μ
def fMax2 (ds : List D) (μ : List M) : ER := match ds with
  | [.int i, .int j] => .ok (.int (if j > i then j else i)) μ
  | _ => .bad
theorem cd_max2 : CallD w (fun xs H Q => ∃ i j, xs = [.int i, .int j] ∧ Q (.int (if j > i then j else i)) H) fMax2 := by
  intro W σ as H δ μ ds vs Q h d q
  unfold fMax2 at q
  split at q
  · cases d with
    | cons d1 t1 =>
      cases t1 with
      | cons d2 t2 => cases t2; cases d1; cases d2; exact ⟨_, _, rfl, q _ H as Ext.refl h.rel (.int _)⟩
  · exact q.elim
def BI.f (k : Kks) : BI → List D → List M → ER
  | .len => fLen
  | .abs => fAbs
  | .int => fInt
  | .min2 => fMin2
  | .max2 => fMax2
  | .all => fAll
  | .any => fAny
  | .list => fListX
  | .listM => fListMX
  | .tuple => fTuple
  | .isi => fIs k
  | .repr => fRepr
  | .sorted => fSorted
theorem cd_is {k : Kks} {K : PySem.W.Frag} (hK : w.K = K) (h1 : KkOk w k.kk) (h2 : KeOk w k.ke) : CallD w (fun xs H Q => (rIsAll K xs H Q ∨ rIsX K xs H Q) ∨ (rIsXT K xs H Q ∨ rIsXK K xs H Q)) (fIs k) := by
  intro W σ as H δ μ ds vs Q h d q
  unfold fIs at q
  split at q
  · exact .inr (cd_isXA hK h2 W σ as H δ μ _ vs Q h d q)
  · exact .inl (.inr (cd_isX hK h2 W σ as H δ μ _ vs Q h d q))
  · exact .inl (.inl (cd_isG hK h1 W σ as H δ μ _ vs Q h d q))
theorem KkOk.on {kk : String ⊕ Nat → String ⊕ Nat → Option Bool} (h : KkOk w kk) (fr : List Addr) : KkOk (w.on fr) kk := h
theorem KeOk.on {kk : Nat → String ⊕ Nat → Option Bool} (h : KeOk w kk) (fr : List Addr) : KeOk (w.on fr) kk := h
theorem bi_ok {k : Kks} (hcm : X.calm = true) (gd : X.A.guards = some []) (hu : X.A.units + 200 < cLine) (hK : X.K = w.K) (h1 : KkOk w k.kk) (h2 : KeOk w k.ke) (b : BI) (hg : Gl X b.nm) (hm : X.mg b.nm = none) (ha : PA X (e :: es) (rdA w W mr)) (pa : plainArgs (e :: es) = true) :
    PE X (.Call (.Name b.nm p) (e :: es) [] pos) (rdE w W (mCB (b.f k) mr)) := by
  have he : starEach (e :: es) X.env = (false, eval e X.env) :: starEach es X.env := star_cons (plainArgs_cons pa).1
  have hpl : (backTo pos (starEach es X.env)).any (·.1) = false := star_any (plainArgs_cons pa).2
  have hK' : w.K = X.K := hK.symm
  cases b with
  | len => exact d_callB call_len (fun _ => cd_len hK') hg hm PySem.boot_len ha (by decide) (by decide) he hpl
  | abs => exact d_callB call_abs (fun _ => cd_abs) hg hm (by decide +kernel) ha (by decide) (by decide) he hpl
  | int => exact d_callTy call_int1 (fun _ => cd_int) hg hm (by decide +kernel) ha (by decide) (by decide) he hpl
  | min2 => exact d_callB (call_min2 hcm) (fun _ => cd_min2) hg hm (by decide +kernel) ha (by decide) (by decide) he hpl
  | max2 => exact d_callB (call_max2 hcm) (fun _ => cd_max2) hg hm (by decide +kernel) ha (by decide) (by decide) he hpl
  | all => exact d_callB (cr_all hcm) (fun _ => cd_all hK') hg hm (by decide +kernel) ha (by decide) (by decide) he hpl
  | any => exact d_callB (cr_any hcm) (fun _ => cd_any hK') hg hm (by decide +kernel) ha (by decide) (by decide) he hpl
  | list => exact d_callTy (CallR.or call_list_of (call_list_text hcm)) (fun _ => cd_listX hK') hg hm (by decide +kernel) ha (by decide) (by decide) he hpl
  | listM => exact d_callTy (CallR.or call_list_of (call_list_text hcm)) (fun _ => cd_listMX hK') hg hm (by decide +kernel) ha (by decide) (by decide) he hpl
  | tuple => exact d_callTy call_tuple_of (fun _ => cd_tuple hK') hg hm (by decide +kernel) ha (by decide) (by decide) he hpl
  | isi => exact d_callB (CallR.or (CallR.or (CallR.or call_isi (CallR.or call_isiT call_isiK)) call_isX) (CallR.or call_isXT call_isXK)) (fun fr => cd_is (w := w.on fr) hK' (h1.on fr) (h2.on fr)) hg hm (by decide +kernel) ha (by decide) (by decide) he hpl
  | repr => exact d_callB (call_reprD gd hu) (fun _ => cd_repr hK') hg hm (by decide +kernel) ha (by decide) (by decide) he hpl
  | sorted => exact d_callB (call_sortD (by omega)) (fun _ => cd_sortD hK') hg hm (by decide +kernel) ha (by decide) (by decide) he hpl

/-! ### methods of built-ins -/
theorem d_bm0 {T : String} {id : String} {name : Str} {r : V → List V → Hp → VK → Prop} {g : D → List M → Bool} {f : D → List D → List M → ER} (pa : PlainAttrs T) (slot : Slot T name id) (hty : typeOf (.builtin id) = pure (.type "method_descriptor")) (hm : MtR X id r)
    (hg : ∀ fr, TyD (w.on fr) T g) (hf : ∀ fr, MtD (w.on fr) r f) (ho : PE X a (rdE w W ma)) (hK : X.K = w.K) (hbase : attributeBase a name X.env (eval a X.env) = eval a X.env) (hline : (apos.endLine == cpos.line) = true) :
    PE X (.Call (.Attribute a name apos) [] [] cpos) (rdE w W (mM1 g f ma mNil)) := by
  refine PE.to (pe_bm0 pa slot hty hm ho hbase hline) fun σ H Q ⟨fr, as, δ, μ, h, q⟩ => bE h q fun vx H1 as1 x μ1 h1 d1 q1 => ?_
  cases e : g x μ1 with
  | false => simp only [e] at q1; exact q1.elim
  | true =>
    simp only [e] at q1
    exact ⟨hK ▸ hg fr as1 H1 σ δ μ1 x vx h1 d1 e, hf fr W σ as1 H1 δ μ1 x [] vx [] Q h1 d1 .nil q1⟩
def isLst (x : D) (μ : List M) : Bool := (lsOf μ x).isSome
theorem ty_lst : TyD w "list" isLst := by
  intro as H σ δ μ x vx h d e
  unfold isLst at e
  cases z : lsOf μ x with
  | none => rw [z] at e; cases e
  | some l =>
    obtain ⟨p, vs, rfl, h1, k1⟩ := sqL_of h.rel d z
    exact .inl ⟨rfl, _, h1⟩
def fAppend (x : D) (ds : List D) (μ : List M) : ER := match x, ds with
  | .loc n, [d] => match μ[n]? with
    | some (.lst l) => if lineOk (l.length + 1) then .ok .non (μ.set n (.lst (l ++ [d]))) else .bad
    | _ => .bad
  | _, _ => .bad
theorem md_append : MtD w rAppend fAppend := by
  intro W σ as H δ μ x ds vx vs Q h dx dv q
  unfold fAppend at q
  split at q
  · rename_i n d
    cases dx with
    | @loc ad n hn =>
      cases dv with
      | @cons v _ _ _ d1 t1 =>
        cases t1
        split at q
        · rename_i l z
          obtain ⟨ws, h1, h2⟩ := h.rel.cell n ad _ hn z
          cases e : lineOk (l.length + 1) with
          | false => rw [e] at q; exact q.elim
          | true =>
            rw [e] at q
            have hl := lineOk_line e
            refine ⟨ad, ws, _, rfl, rfl, h1, by rw [h2.length]; omega, ?_⟩
            have ew : Ext as H (upd H ad (.lst (ws ++ [v]))) as := Ext.write (List.mem_of_getElem? hn)
            exact q .non _ as ew (h.rel.write hn ⟨_, upd_same, (h2.append (.cons d1 .nil)).ext ew⟩) .non
        · exact q.elim
  · exact q.elim
def fPop (x : D) (ds : List D) (μ : List M) : ER := match x, ds with
  | .loc n, [] => match μ[n]? with
    | some (.lst l) => match l[l.length - 1]? with
      | some d => .ok d (μ.set n (.lst l.dropLast))
      | none => .bad
    | _ => .bad
  | _, _ => .bad
theorem Dens.dropLast {as H} {vs : List V} {ds : List D} (h : Dens w as H vs ds) : Dens w as H vs.dropLast ds.dropLast := by
  rw [List.dropLast_eq_take, List.dropLast_eq_take, h.length]
  exact h.take _
theorem md_pop : MtD w rPop fPop := by
  intro W σ as H δ μ x ds vx vs Q h dx dv q
  unfold fPop at q
  split at q
  · rename_i n
    cases dx with
    | @loc ad n hn =>
      cases dv
      split at q
      · rename_i l z
        obtain ⟨ws, h1, h2⟩ := h.rel.cell n ad _ hn z
        split at q
        · rename_i d e
          obtain ⟨v, e2, dn⟩ := h2.get e
          refine ⟨ad, ws, v, rfl, rfl, h1, by rw [h2.length]; exact e2, ?_⟩
          have ew : Ext as H (upd H ad (.lst ws.dropLast)) as := Ext.write (List.mem_of_getElem? hn)
          exact q v _ as ew (h.rel.write hn ⟨_, upd_same, h2.dropLast.ext ew⟩) (dn.ext ew)
        · exact q.elim
      · exact q.elim
  · exact q.elim
inductive BM where
  | swapcase | join0 | abIndex | append | pop
  deriving DecidableEq
def BM.nm : BM → Str
  | .swapcase => "swapcase"
  | .join0 => "join"
  | .abIndex => "index"
  | .append => "append"
  | .pop => "pop"
def BM.g : BM → D → List M → Bool
  | .swapcase => isStr
  | .join0 => isStr
  | .abIndex => isStr
  | .append => isLst
  | .pop => isLst
def BM.f : BM → D → List D → List M → ER
  | .swapcase => fun x ds μ => if ds.isEmpty then fSwap x μ else .bad
  | .join0 => fJoin0
  | .abIndex => fAbIndex
  | .append => fAppend
  | .pop => fPop
/-- what a method is -/
structure BmOk (X : Cx) (w : Wd) (b : BM) : Prop where
  ok : ∃ (T id : String) (r : V → List V → Hp → VK → Prop), PlainAttrs T ∧ Slot T b.nm id ∧ typeOf (.builtin id) = pure (.type "method_descriptor") ∧ MtR X id r ∧ (∀ fr, TyD (w.on fr) T b.g) ∧ ∀ fr, MtD (w.on fr) r b.f
theorem bm_ok (hcm : X.calm = true) (hK : X.K = w.K) (b : BM) : BmOk X w b := by
  cases b with
  | swapcase =>
    refine ⟨_, _, _, F.plainAttrs_str, F.slot_str_swapcase, F.type_str_swapcase, mt_swapcase, fun _ => ty_str, fun fr W σ as H δ μ x ds vx vs Q h dx dvs q => ?_⟩
    cases dvs with
    | cons d1 t1 => exact q.elim
    | nil =>
      have q1 : EOk (w.on fr) W σ as H (fSwap x μ) Q := q
      cases dx with
      | str s =>
        have q1 : EOk (w.on fr) W σ as H (if s.all isL && lineOk s.length then .ok (.str (s.map swL)) μ else .bad) Q := q1
        cases e : (s.all isL && lineOk s.length) with
        | false => rw [e] at q1; exact q1.elim
        | true =>
          rw [e] at q1
          obtain ⟨e1, e2⟩ := Bool.and_eq_true_iff.mp e
          exact ⟨s, rfl, rfl, e1, of_decide_eq_true e2, q1 _ H as Ext.refl h.rel (.str _)⟩
      | _ => exact q1.elim
  | join0 =>
    refine ⟨_, _, _, F.plainAttrs_str, F.slot_str_join, F.type_str_join, mt_join, fun _ => ty_str, fun fr W σ as H δ μ x ds vx vs Q h dx dvs q => ?_⟩
    change EOk (w.on fr) W σ as H (fJoin0 x ds μ) Q at q
    unfold fJoin0 at q
    split at q
    · rename_i y
      cases dx
      cases dvs with
      | cons d1 t1 =>
        cases t1
        cases e1 : sqOf μ y with
        | none => rw [e1] at q; exact q.elim
        | some l =>
          simp only [e1] at q
          cases e2 : strsOf l with
          | none => rw [e2] at q; exact q.elim
          | some ts =>
            simp only [e2] at q
            cases e3 : lineOk (ts.map List.length).sum with
            | false => rw [e3] at q; exact q.elim
            | true =>
              rw [e3] at q
              obtain ⟨p, ws, rfl, h1, k1⟩ := sq_of h.rel d1 e1
              have e4 := strs_dens k1 e2
              subst e4
              refine ⟨_, p, ts.map fun s => (⟨s.toArray⟩ : Str), rfl, rfl, ?_, ?_, ?_⟩
              · rw [hK]; exact h1
              · have z : ((ts.map fun s => (⟨s.toArray⟩ : Str)).map (·.length)) = ts.map List.length := by
                  rw [List.map_map]
                  apply List.map_congr_left
                  intro s _
                  exact str_len s
                rw [z, str_len]
                have := of_decide_eq_true e3
                simpa using this
              · rw [join_empty]
                exact q _ H as Ext.refl h.rel (.str _)
    · exact q.elim
  | abIndex =>
    refine ⟨_, _, _, F.plainAttrs_str, F.slot_str_index, F.type_str_index, mt_abIndex hcm, fun _ => ty_str, fun fr W σ as H δ μ x ds vx vs Q h dx dvs q => ?_⟩
    change EOk (w.on fr) W σ as H (fAbIndex x ds μ) Q at q
    unfold fAbIndex at q
    split at q
    · rename_i c
      cases dx
      cases dvs with
      | cons d1 t1 =>
        cases t1
        cases d1
        cases e : abIx c with
        | none => rw [e] at q; exact q.elim
        | some k =>
          rw [e] at q
          exact ⟨c, k, rfl, rfl, e, q _ H as Ext.refl h.rel (.int _)⟩
    · exact q.elim
  | append => exact ⟨_, _, _, F.plainAttrs_list, F.slot_list_append, F.type_list_append, mt_append, fun _ => ty_lst, fun _ => md_append⟩
  | pop => exact ⟨_, _, _, F.plainAttrs_list, F.slot_list_pop, F.type_list_pop, mt_pop, fun _ => ty_lst, fun _ => md_pop⟩
theorem d_bmG (hcm : X.calm = true) (hK : X.K = w.K) (b : BM) (ho : PE X a (rdE w W ma)) (ha : PA X es (rdA w W mr)) (hnil : es = [] → mr = mNil) (pb : plainBase a = true) (pa : plainArgs es = true) (hn : es.length < 29) (hline : (apos.endLine == cpos.line) = true) : PE X (.Call (.Attribute a b.nm apos) es [] cpos) (rdE w W (mM1 b.g b.f ma mr)) := by
  obtain ⟨T, id, r, h1, h2, h3, h4, h5, h6⟩ := (bm_ok (w := w) hcm hK b).ok
  cases es with
  | nil =>
    rw [hnil rfl]
    exact d_bm0 h1 h2 h3 h4 h5 h6 ho hK (base_of pb) hline
  | cons e es =>
    refine d_bm h1 h2 h3 h4 h5 h6 ho ha hK (base_of pb) ?_ hline (star_cons (plainArgs_cons pa).1) (star_any (plainArgs_cons pa).2)
    show ((backTo cpos (starEach (e :: es) X.env)).all (fun x => !x.1) && (backToKw cpos (keywordEach [] X.env)).all (fun x => x.1.isSome) && decide ((e :: es).length + ([] : List Keyword).length + (if ([] : List Keyword).isEmpty then 0 else 1) < 30)) = true
    rw [star_few pa, kw_some (kws := []) rfl]
    simp only [List.isEmpty_nil, if_true, Bool.true_and, List.length_nil, Nat.add_zero]
    exact decide_eq_true (by omega)
end
end DL

/-! The core: expressions as data, what they reckon, when a piece of syntax is one. -/
namespace DL
open PySem PySem.Spec PyProof.Rows L2

inductive Kc where
  | non | bl (b : Bool) | int (i : Int) | str (s : List Nat) | ty (n : String) | cls (c : Nat) | tup (l : List Ka)
  deriving DecidableEq
def Kc.d : Kc → D
  | .non => .non
  | .bl b => .bl b
  | .int i => .int i
  | .str s => .str s
  | .ty n => .ty n
  | .cls c => .cls c
  | .tup l => .tup (l.map Ka.d)

mutual
inductive CE where
  | v (i : Nat)
  | k (c : Kc)
  | bin (o : BK) (a b : CE)
  | neg (a : CE)
  | cmp (o : CK) (a b : CE)
  | chn (o o' : CK) (a b c : CE)
  | isN (neg : Bool) (a : CE)
  | eqO (neg : Bool) (i : Nat) (a b : CE)
  | and (as : CA)
  | or (as : CA)
  | not (a : CE)
  | ite (t : CT) (a b : CE)
  | tup (as : CA)
  | lst (as : CA)
  | lstM (as : CA)
  | ix (a b : CE)
  | dget (a b : CE)
  | sl (a : CE) (lo hi : CO)
  | rev (a : CE)
  | bi (b : BI) (as : CA)
  | lenO (i : Nat) (a : CE)
  | bm (m : BM) (o : CE) (as : CA)
  | call (i : Nat) (as ks : CA)
  | meth (i : Nat) (o : CE) (as ks : CA)
  | mk (i : Nat) (as ks : CA)
  | fld (cs : List Nat) (f : Str) (o : CE)
  | fldX (cs : List Nat) (f : Str) (o : CE)
  | lc (cell : Bool) (it : CI) (g : CG) (t : CT) (e : CE) (own : List (Str × Nat))
  | lc2 (cell : Bool) (it : CI) (g : CG) (t : CT) (it1 : CI) (g1 : CG) (t1 : CT) (e : CE) (own : List (Str × Nat)) (vs1 : List Nat)
  | ask (i : Nat)
  | lam (g : Nat) (b : CE)
  | dnew (cell : Bool)
  | dicM (ps : CP)
  | dicD (ps : CP)
  | no
inductive CA where
  | nil
  | cons (a : CE) (r : CA)
inductive CO where
  | no
  | som (a : CE)
inductive CP where
  | nil
  | cons (k v : CE) (r : CP)
inductive CT where
  | yes
  | val (a : CE)
  | isN (neg : Bool) (a : CE)
  | eqO (neg : Bool) (i : Nat) (a b : CE)
  | cmp (o : CK) (a b : CE)
  | chn (o o' : CK) (a b c : CE)
  | and (ts : CTs)
  | or (ts : CTs)
  | not (t : CT)
inductive CTs where
  | one (t : CT)
  | cons (t : CT) (r : CTs)
inductive CI where
  | seq (a : CE)
  | rng1 (a : CE)
  | rng2 (a b : CE)
  | zip (a b : CE)
  | enum (a : CE)
inductive CG where
  | nm (i : Nat)
  | tup (gs : CGs)
inductive CGs where
  | nil
  | cons (g : CG) (r : CGs)
end
def CGs.len : CGs → Nat
  | .nil => 0
  | .cons _ r => r.len + 1
mutual
def CG.ts : CG → List Nat
  | .nm i => [i]
  | .tup gs => gs.ts
def CGs.ts : CGs → List Nat
  | .nil => []
  | .cons g r => g.ts ++ r.ts
end
def CT.isYes : CT → Bool
  | .yes => true
  | _ => false
def CA.len : CA → Nat
  | .nil => 0
  | .cons _ r => r.len + 1

/-- a lambda that is handed to a def: the def's name, what it is called there, its slots, its body; the lambda's parameters, scope -/
structure LamI where
  x : Str
  a : Str
  N : List Str
  st : Stmt
  mb : (List M → ER) → SM
/-- what a def's text leans on -/
structure Gam where
  N : List Str
  ents : List Ent
  gl : List (Str × Kc)
  free : List Str
  fld : List (Nat × Str)
  fldX : List (Nat × Str)
  kks : Kks
  nf : Nat → String ⊕ Nat → Bool
  askN : Option Str
  ask : List M → ER
  lams : List LamI
  rs : List (Str × Nat × Str)
  cat : List (Str × List (Nat × Bool))
  lvl : Nat
  /-- lists and objects that are given back stay cells -/
  keep : Bool := false
def Gam.ent (Γ : Gam) (i : Nat) (k : Ent → EM) : EM := match Γ.ents[i]? with
  | some e => k e
  | none => fun _ _ => .bad
def Ent.cn (e : Ent) : Nat := match e.kd with
  | .fn => 0
  | .me c => c
  | .mk c => c
def mDNew (cell : Bool) : EM := fun _ μ => if cell then .ok (.loc μ.length) (μ ++ [.dic []]) else .ok (.dic []) μ

mutual
def evE (Γ : Gam) : CE → EM
  | .v i => mVar i
  | .k c => mC c.d
  | .bin o a b => mOp o.f (evE Γ a) (evE Γ b)
  | .neg a => mUn fNeg (evE Γ a)
  | .cmp o a b => mOp o.f (evE Γ a) (evE Γ b)
  | .chn o o' a b c => match o.g, o'.g with
    | some g, some g' => mChain g g' (evE Γ a) (evE Γ b) (evE Γ c)
    | _, _ => fun _ _ => .bad
  | .isN neg a => mUn (fun x μ => .ok (.bl (if neg then !isNon x else isNon x)) μ) (evE Γ a)
  | .eqO neg i a b => Γ.ent i fun e => mOp (fOwn e.cn (Γ.nf e.cn) (fAr e.n e.m) neg) (evE Γ a) (evE Γ b)
  | .and as => evAnd Γ as
  | .or as => evOr Γ as
  | .not a => mNotV (evE Γ a)
  | .ite t a b => mIf (evT Γ t) (evE Γ a) (evE Γ b)
  | .tup as => mTup (evA Γ as)
  | .lst as => mLst (evA Γ as)
  | .lstM as => mLstM (evA Γ as)
  | .ix a b => mOp fIx (evE Γ a) (evE Γ b)
  | .dget a b => mOp fDGet (evE Γ a) (evE Γ b)
  | .sl a lo hi => mSl (evE Γ a) (evP Γ lo) (evP Γ hi)
  | .rev a => mM0 fRev (evE Γ a)
  | .bi b as => mCB (b.f Γ.kks) (evA Γ as)
  | .lenO i a => Γ.ent i fun e => mLenO e.cn (fAr e.n e.m) (evE Γ a)
  | .bm m o as => mM1 m.g m.f (evE Γ o) (evA Γ as)
  | .call i as ks => Γ.ent i fun e => mCallK e.np e.ks.length (fAr e.n e.m) e.gD (evA Γ as) (evA Γ ks)
  | .meth i o as ks => Γ.ent i fun e => mMethK e.cn e.x e.np e.ks.length (fAr e.n e.m) e.gD (evE Γ o) (evA Γ as) (evA Γ ks)
  | .mk i as ks => Γ.ent i fun e => mMakeG e.cn e.np e.ks.length (fAr e.n e.m) e.gD (evA Γ as) (evA Γ ks)
  | .fld cs f o => mFld cs f (evE Γ o)
  | .fldX cs f o => mFldX cs f (evE Γ o)
  | .lc cell it g t e own => mLcB cell (evI Γ it) (evG g) (evT Γ t) (evE Γ e) (own.map (·.2))
  | .lc2 cell it g t it1 g1 t1 e own vs1 => mLc2B cell (evI Γ it) (evG g) (evT Γ t) (evI Γ it1) (evG g1) (evT Γ t1) (evE Γ e) (own.map (·.2)) vs1
  | .ask i => mAsk i Γ.ask
  | .lam g b => match Γ.lams[g]? with
    | some l => fun δ μ => fLam l.N.length l.mb (fun μ => evE Γ b δ μ) μ
    | none => fun _ _ => .bad
  | .dnew cell => mDNew cell
  | .dicM ps => mDicM (evPs Γ ps)
  | .dicD ps => mDicD (evPs Γ ps)
  | .no => fun _ _ => .bad
/-- a part of a slice -/
def evP (Γ : Gam) : CO → EM
  | .no => mNoPart
  | .som a => mPart (evE Γ a)
def evA (Γ : Gam) : CA → AM
  | .nil => mNil
  | .cons a r => mCons (evE Γ a) (evA Γ r)
def evPs (Γ : Gam) : CP → List (EM × EM)
  | .nil => []
  | .cons k v r => (evE Γ k, evE Γ v) :: evPs Γ r
def evAnd (Γ : Gam) : CA → EM
  | .nil => fun _ _ => .bad
  | .cons a .nil => evE Γ a
  | .cons a r => mAndV (evE Γ a) (evAnd Γ r)
def evOr (Γ : Gam) : CA → EM
  | .nil => fun _ _ => .bad
  | .cons a .nil => evE Γ a
  | .cons a r => mOrV (evE Γ a) (evOr Γ r)
def evT (Γ : Gam) : CT → TM
  | .yes => mYes
  | .val a => mB (evE Γ a)
  | .isN neg a => mB (mUn (fun x μ => .ok (.bl (if neg then !isNon x else isNon x)) μ) (evE Γ a))
  | .eqO neg i a b => mB (Γ.ent i fun e => mOp (fOwn e.cn (Γ.nf e.cn) (fAr e.n e.m) neg) (evE Γ a) (evE Γ b))
  | .cmp o a b => mB (mOp o.f (evE Γ a) (evE Γ b))
  | .chn o o' a b c => match o.g, o'.g with
    | some g, some g' => mB (mChain g g' (evE Γ a) (evE Γ b) (evE Γ c))
    | _, _ => fun _ _ => .bad
  | .and ts => evTAnd Γ ts
  | .or ts => evTOr Γ ts
  | .not t => mNotT (evT Γ t)
def evTAnd (Γ : Gam) : CTs → TM
  | .one t => evT Γ t
  | .cons t r => mAndT (evT Γ t) (evTAnd Γ r)
def evTOr (Γ : Gam) : CTs → TM
  | .one t => evT Γ t
  | .cons t r => mOrT (evT Γ t) (evTOr Γ r)
def evI (Γ : Gam) : CI → IM
  | .seq a => mISeq (evE Γ a)
  | .rng1 a => mIRng1 (mCons (evE Γ a) mNil)
  | .rng2 a b => mIRng2 (mCons (evE Γ a) (mCons (evE Γ b) mNil))
  | .zip a b => mIZip (mCons (evE Γ a) (mCons (evE Γ b) mNil))
  | .enum a => mIEnum (mCons (evE Γ a) mNil)
def evG : CG → GM
  | .nm i => mgName i
  | .tup gs => mgTup gs.len (evGs gs)
def evGs : CGs → GsM
  | .nil => mgNil
  | .cons g r => mgCons (evG g) (evGs r)
end
def CP.len : CP → Nat
  | .nil => 0
  | .cons _ _ r => r.len + 1
/-- where the text stands: the scope; a comprehension's own one -/
structure Lv where
  sc : Scope
  bs : Option Scope
  tr : Bool := false
  la : Bool := false
def Lv.kd (L : Lv) (x : Str) : Option NameKind := L.sc.names.lookup x
def Lv.vis (L : Lv) (x : Str) : Bool := match L.kd x with
  | some .local => true
  | some .cell => true
  | some .free => true
  | _ => false
def Lv.gl (L : Lv) (x : Str) : Bool := match L.kd x with
  | some .globalImplicit => true
  | _ => false
def Lv.fnB (L : Lv) (x : Str) : Bool := match L.bs with
  | none => true
  | some s => s.names.lookup x == some .cell
/-- a name that may be stored -/
def Lv.sto (L : Lv) (x : Str) : Bool := match L.kd x with
  | some .local => true
  | some .cell => L.fnB x
  | _ => false
def Lv.blk (L : Lv) (scope : Scope) : Lv := ⟨relS scope L.sc, some scope, false, L.la⟩
def dbg (x : Str) : Bool := !(x == ("__debug__" : Str)) && !(x == ("__classdict__" : Str)) && !(x == ("__name__" : Str))
def Gam.isFree (Γ : Gam) (L : Lv) (x : Str) : Bool := L.gl x && Γ.free.contains x
def ckK (Γ : Gam) (L : Lv) (c : Kc) (e : Expr) : Bool := match e with
  | .Constant (.int i) _ _ => decide (c = .int i)
  | .Constant (.bool b) _ _ => decide (c = .bl b)
  | .Constant .none _ _ => decide (c = .non)
  | .Constant (.str x) _ _ => decide (c = .str x.cps.toList)
  | .Name x _ => L.gl x && (dbg x && (match c with
    | .ty n => Γ.free.contains x && decide (bootBuiltins x = some (.type n))
    | _ => decide (Γ.gl.lookup x = some c)))
  | _ => false
/-- a callee of this kind -/
def Gam.entB (Γ : Gam) (L : Lv) (i : Nat) (k : Ent → Bool) : Bool := match Γ.ents[i]? with
  | some e => (!e.la || L.la) && k e
  | none => false
def Ent.isFn (e : Ent) : Bool := match e.kd with
  | .fn => true
  | _ => false
def Ent.isMe (e : Ent) : Bool := match e.kd with
  | .me _ => true
  | _ => false
def Ent.isMk (e : Ent) : Bool := match e.kd with
  | .mk _ => e.np != 0
  | _ => false
def kwVals (ks : List Keyword) : List Expr := ks.map fun k => k.value
def isInt : Expr → Bool
  | .Constant (.int _) _ _ => true
  | _ => false
/-- a lambda's parameters: each with an int as its default -/
def lamPar (p : Arguments) (scope : Scope) : Bool := p.posonlyargs.isEmpty && (p.vararg.isNone && (p.kwonlyargs.isEmpty && (p.kw_defaults.isEmpty && (p.kwarg.isNone && (decide (p.args.length = p.defaults.length) && (decide (p.args.length ≤ 3) && (decide (p.args.map (·.arg)).Nodup && ((p.args.all fun a => scope.names.lookup a.arg == some .local) && p.defaults.all isInt))))))))
mutual
def ckE (Γ : Gam) (L : Lv) : CE → Expr → Bool
  | .v i, e => match e with
    | .Name x _ => decide (Γ.N[i]? = some x) && (L.vis x && dbg x)
    | _ => false
  | .k c, e => ckK Γ L c e
  | .bin o a b, e => match e with
    | .BinOp x op y _ => decide (op = o.op) && (ckE Γ L a x && ckE Γ L b y)
    | _ => false
  | .neg a, e => match e with
    | .UnaryOp .USub x _ => ckE Γ L a x
    | _ => false
  | .cmp o a b, e => match e with
    | .Compare x [op] [y] _ => decide (op = o.op) && (!behindInMarks o.op y && (ckE Γ L a x && ckE Γ L b y))
    | _ => false
  | .chn o o' a b c, e => match e with
    | .Compare x [op, op'] [y, z] _ => decide (op = o.op) && (decide (op' = o'.op) && (!lastMarks [o.op, o'.op] [y, z] && (ckE Γ L a x && (ckE Γ L b y && ckE Γ L c z))))
    | _ => false
  | .isN neg a, e => match e with
    | .Compare x [op] [.Constant .none _ _] _ => decide (op = if neg then .IsNot else .Is) && ckE Γ L a x
    | _ => false
  | .eqO neg i a b, e => match e with
    | .Compare x [op] [y] _ => !L.tr && (decide (op = if neg then .NotEq else .Eq) && (Γ.entB L i (fun t => t.isMe && decide (t.x = (("__eq__" : Str)))) && (ckE Γ L a x && ckE Γ L b y)))
    | _ => false
  | .and as, e => match e with
    | .BoolOp .And es _ => ckA Γ L as es && !es.isEmpty
    | _ => false
  | .or as, e => match e with
    | .BoolOp .Or es _ => ckA Γ L as es && !es.isEmpty
    | _ => false
  | .not a, e => match e with
    | .UnaryOp .Not x _ => ckE Γ L a x
    | _ => false
  | .ite t a b, e => match e with
    | .IfExp c x y _ => ckT Γ L t c && (ckE Γ L a x && ckE Γ L b y)
    | _ => false
  | .tup as, e => match e with
    | .Tuple es _ _ => plainArgs es && ckA Γ L as es
    | _ => false
  | .lst as, e => match e with
    | .List es _ => plainArgs es && ckA Γ L as es
    | _ => false
  | .lstM as, e => match e with
    | .List es _ => plainArgs es && ckA Γ L as es
    | _ => false
  | .ix a b, e => match e with
    | .Subscript x y _ => noSlice y && (ckE Γ L a x && ckE Γ L b y)
    | _ => false
  | .dget a b, e => match e with
    | .Subscript x y _ => noSlice y && (ckE Γ L a x && ckE Γ L b y)
    | _ => false
  | .sl a lo hi, e => match e with
    | .Subscript x (.Slice l h none _) _ => ckE Γ L a x && (ckP Γ L lo l && ckP Γ L hi h)
    | _ => false
  | .rev a, e => match e with
    | .Subscript x (.Slice none none (some (.UnaryOp .USub (.Constant (.int 1) _ _) _)) _) _ => ckE Γ L a x
    | _ => false
  | .bi b as, e => match e with
    | .Call (.Name x _) es [] _ => decide (x = b.nm) && (Γ.isFree L x && (!es.isEmpty && (plainArgs es && ckA Γ L as es)))
    | _ => false
  | .lenO i a, e => match e with
    | .Call (.Name x _) [y] [] _ => !L.tr && (decide (x = "len") && (Γ.isFree L x && (notStar y && (Γ.entB L i (fun t => t.isMe && decide (t.x = (("__len__" : Str)))) && ckE Γ L a y))))
    | _ => false
  | .bm m o as, e => match e with
    | .Call (.Attribute x f ap) es [] pos => decide (f = m.nm) && (plainBase x && (plainArgs es && (decide (es.length < 29) && ((ap.endLine == pos.line) && (ckE Γ L o x && ckA Γ L as es)))))
    | _ => false
  | .call i as ks, e => match e with
    | .Call (.Name x _) es kws _ => Γ.entB L i (fun t => t.isFn && (decide (t.x = x) && decide (kwNames kws = t.ks))) && (L.gl x && (dbg x && (plainArgs es && (plainKw kws && (ckA Γ L as es && ckA Γ L ks (kwVals kws))))))
    | _ => false
  | .meth i o as ks, e => match e with
    | .Call (.Attribute x f ap) es kws pos => Γ.entB L i (fun t => t.isMe && (decide (t.x = f) && decide (kwNames kws = t.ks))) && (plainBase x && ((ap.endLine == pos.line) && (decide (es.length + kws.length < 29) && (plainArgs es && (plainKw kws && (ckE Γ L o x && (ckA Γ L as es && ckA Γ L ks (kwVals kws))))))))
    | _ => false
  | .mk i as ks, e => match e with
    | .Call (.Name x _) es kws _ => Γ.entB L i (fun t => t.isMk && (decide (t.x = x) && decide (kwNames kws = t.ks))) && (L.gl x && (dbg x && (plainArgs es && (plainKw kws && (ckA Γ L as es && ckA Γ L ks (kwVals kws))))))
    | _ => false
  | .fld cs f o, e => match e with
    | .Attribute x g _ => decide (g = f) && (plainBase x && ((cs.all fun c => Γ.fld.contains (c, f)) && ckE Γ L o x))
    | _ => false
  | .fldX cs f o, e => match e with
    | .Attribute x g _ => decide (g = f) && (plainBase x && ((cs.all fun c => Γ.fldX.contains (c, f)) && ckE Γ L o x))
    | _ => false
  | .lc cell it g t el own, e => match e with
    | .ListComp x [⟨tg, iter, ifs, 0⟩] scope _ => ckI Γ L it tg iter && (noSet iter && (blkC Γ.N L.sc scope own && (ckG Γ (L.blk scope) g tg && ((g.ts.all fun t => (own.map (·.2)).contains t) && ((if t.isYes then ifs.isEmpty else match ifs with | [e] => ckT Γ (L.blk scope) t e | _ => false) && ckE Γ (L.blk scope) el x)))))
    | _ => false
  | .lc2 cell it g t it1 g1 t1 el own vs1, e => match e with
    | .ListComp x [⟨tg, iter, ifs, 0⟩, ⟨tg1, iter1, ifs1, 0⟩] scope _ => ckI Γ L it tg iter && (noSet iter && (blkC Γ.N L.sc scope own && (ckG Γ (L.blk scope) g tg && ((g.ts.all fun t => (own.map (·.2)).contains t) && ((if t.isYes then ifs.isEmpty else match ifs with | [e] => ckT Γ (L.blk scope) t e | _ => false) && (ckE Γ (L.blk scope) el x &&
      (ckI Γ (L.blk scope) it1 tg1 iter1 && (noSet iter1 && (ckG Γ (L.blk scope) g1 tg1 && ((g1.ts.all fun t => vs1.contains t) && ((vs1.all fun t => (own.map (·.2)).contains t) && (if t1.isYes then ifs1.isEmpty else match ifs1 with | [e] => ckT Γ (L.blk scope) t1 e | _ => false))))))))))))
    | _ => false
  | .ask i, e => match e with
    | .Call (.Name x _) [] [] _ => decide (i = 0) && (decide (Γ.askN = some x) && L.bs.isNone)
    | _ => false
  | .lam g b, e => match e with
    | .Call (.Name x _) [.Lambda params body scope _] [] _ => !L.tr && (L.la && (L.bs.isNone && ((match Γ.lams[g]? with | some l => decide (l.x = x) | none => false) && (L.gl x && (dbg x && (DLM.lmB Γ.N L.sc scope && (lamPar params scope && ckE Γ ⟨scope, some scope, false, false⟩ b body)))))))
    | _ => false
  | .dnew _, e => match e with
    | .Dict [] [] _ => true
    | _ => false
  | .dicM ps, e => match e with
    | .Dict ks vs _ => decide (ks.length ≤ 15) && (!ks.isEmpty && ckPs Γ L ps ks vs)
    | _ => false
  | .dicD ps, e => match e with
    | .Dict ks vs _ => decide (ks.length ≤ 15) && (!ks.isEmpty && ckPs Γ L ps ks vs)
    | _ => false
  | .no, _ => false
def ckP (Γ : Gam) (L : Lv) : CO → Option Expr → Bool
  | .no, o => o.isNone
  | .som c, o => match o with
    | some e => ckE Γ L c e
    | none => false
def ckA (Γ : Gam) (L : Lv) : CA → List Expr → Bool
  | .nil, es => es.isEmpty
  | .cons a r, es => match es with
    | e :: es => ckE Γ L a e && ckA Γ L r es
    | [] => false
def ckPs (Γ : Gam) (L : Lv) : CP → List (Option Expr) → List Expr → Bool
  | .nil, ks, vs => ks.isEmpty && vs.isEmpty
  | .cons k v r, ks, vs => match ks, vs with
    | some x :: ks, y :: vs => ckE Γ L k x && (ckE Γ L v y && ckPs Γ L r ks vs)
    | _, _ => false
def ckT (Γ : Gam) (L : Lv) : CT → Expr → Bool
  | .yes, _ => false
  | .val a, e => plainTest e && ckE Γ L a e
  | .isN neg a, e => match e with
    | .Compare x [op] [.Constant .none _ _] _ => decide (op = if neg then .IsNot else .Is) && ckE Γ L a x
    | _ => false
  | .eqO neg i a b, e => match e with
    | .Compare x [op] [y] _ => !L.tr && (decide (op = if neg then .NotEq else .Eq) && (Γ.entB L i (fun t => t.isMe && decide (t.x = (("__eq__" : Str)))) && (ckE Γ L a x && ckE Γ L b y)))
    | _ => false
  | .cmp o a b, e => match e with
    | .Compare x [op] [y] _ => decide (op = o.op) && (!behindInMarks o.op y && (ckE Γ L a x && ckE Γ L b y))
    | _ => false
  | .chn o o' a b c, e => match e with
    | .Compare x [op, op'] [y, z] _ => decide (op = o.op) && (decide (op' = o'.op) && (!lastMarks [o.op, o'.op] [y, z] && (ckE Γ L a x && (ckE Γ L b y && ckE Γ L c z))))
    | _ => false
  | .and ts, e => match e with
    | .BoolOp .And es _ => ckTl Γ L ts es
    | _ => false
  | .or ts, e => match e with
    | .BoolOp .Or es _ => ckTl Γ L ts es
    | _ => false
  | .not t, e => match e with
    | .UnaryOp .Not x _ => ckT Γ L t x
    | _ => false
def ckTl (Γ : Gam) (L : Lv) : CTs → List Expr → Bool
  | .one t, es => match es with
    | [e] => ckT Γ L t e
    | _ => false
  | .cons t r, es => match es with
    | e :: e2 :: es => ckT Γ L t e && ckTl Γ L r (e2 :: es)
    | _ => false
def ckI (Γ : Gam) (L : Lv) : CI → Expr → Expr → Bool
  | .seq a, _, e => ckE Γ L a e
  | .rng1 a, _, e => match e with
    | .Call (.Name x _) [y] [] _ => decide (x = "range") && (Γ.isFree L x && (notStar y && ckE Γ L a y))
    | _ => false
  | .rng2 a b, _, e => match e with
    | .Call (.Name x _) [y, z] [] _ => decide (x = "range") && (Γ.isFree L x && (notStar y && (notStar z && (ckE Γ L a y && ckE Γ L b z))))
    | _ => false
  | .zip a b, tg, e => match tg, e with
    | .Tuple _ _ _, .Call (.Name x _) [y, z] [] _ => decide (x = "zip") && (Γ.isFree L x && (notStar y && (notStar z && (ckE Γ L a y && ckE Γ L b z))))
    | _, _ => false
  | .enum a, tg, e => match tg, e with
    | .Tuple _ _ _, .Call (.Name x _) [y] [] _ => decide (x = "enumerate") && (Γ.isFree L x && (notStar y && ckE Γ L a y))
    | _, _ => false
def ckG (Γ : Gam) (L : Lv) : CG → Expr → Bool
  | .nm i, e => match e with
    | .Name x _ => decide (Γ.N[i]? = some x) && L.sto x
    | _ => false
  | .tup gs, e => match e with
    | .Tuple es _ _ => plainArgs es && ckGs Γ L gs es
    | _ => false
def ckGs (Γ : Gam) (L : Lv) : CGs → List Expr → Bool
  | .nil, es => es.isEmpty
  | .cons g r, es => match es with
    | e :: es => ckG Γ L g e && ckGs Γ L r es
    | [] => false
end
end DL

/-! The core is sound: expressions. -/
namespace DL
open PySem PySem.Spec PyProof.Rows L2

def GlOk (C : Ctx) (w : Wd) (x : Str) : Kc → Prop
  | .int i => ∃ t, C.mg x = some (.int i t)
  | .str s => ∃ (y : Str) (t : Tok), C.mg x = some (.str y t) ∧ y.cps.toList = s
  | .cls c => C.mg x = some (.ref (w.ct c))
  | .tup l => ∃ a, C.mg x = some (.ref a) ∧ ∀ H, SqT w.K H a (l.map Ka.v)
  | _ => False
/-- a callee's class has its own == and len; what goes with it -/
structure OwnOk (C : Ctx) (w : Wd) (Γ : Gam) (e : Ent) : Prop where
  ok : ∃ (f : Addr) (fd : FuncData) (k : Nat) (ps : List Str) (W0 : Wd), k + 1 ≤ Γ.lvl ∧ FnG C.P C.wo w.K C.mg C.base k f fd ps (SpD W0 (Qx C.tb e.la) e.n e.m) ∧ W0.K = w.K ∧ W0.ct = w.ct ∧ Binds w.K fd ps [] ∧
    PySem.W.findIn w.K (.ref (w.ct e.cn)) e.x = some (some (.ref f)) ∧ PySem.W.isFn w.K (.ref f) = true
  ne : e.x = ("__eq__" : Str) → PySem.W.findIn w.K (.ref (w.ct e.cn)) "__ne__" = some (some (.builtin "object.__ne__")) ∧ PySem.W.mroIn w.K (w.ct e.cn) (.type "object") = some true ∧ NF w e.cn (Γ.nf e.cn)
/-- a def that is handed lambdas -/
structure LamOk (C : Ctx) (w : Wd) (lvl : Nat) (l : LamI) : Prop where
  ok : ∃ (g : Addr) (fdg : FuncData), L2.Fun w.K l.x l.x l.st g fdg ∧ FnScope l.N [l.a] (defScope l.st) ∧ C.mg l.x = some (.ref g) ∧ Binds w.K fdg [l.a] [] ∧ Vis (defScope l.st) l.a ∧ l.N[0]? = some l.a ∧ dbg l.a = true ∧
    ∀ (w' : Wd) (cdv : Value) (A : Around) (outer : List Env) (s : Shared) (H : Hp) (E : XK) (ask : List M → ER), w'.K = w.K → w'.ct = w.ct → Qx C.tb false w'.x → RoomG (lvl + 1) (A.deeper (envOfC l.x (defScope l.st) s.heap.objs.size g cdv)) →
      Act (cxOf (L2.CX C.P C.wo) C.P C.wo w.K C.mg C.base l.N l.x (defScope l.st) g cdv A outer s H E) l.a w' ask → PSs (cxOf (L2.CX C.P C.wo) C.P C.wo w.K C.mg C.base l.N l.x (defScope l.st) g cdv A outer s H E) (defBody l.st) (rdS w' (WV E) (l.mb ask))
structure GamOk (C : Ctx) (w : Wd) (Γ : Gam) : Prop where
  ents : ∀ e ∈ Γ.ents, EntOk C w Γ.lvl e
  own : ∀ e ∈ Γ.ents, e.isMe = true → e.x = ("__eq__" : Str) ∨ e.x = ("__len__" : Str) → OwnOk C w Γ e
  gl : ∀ p ∈ Γ.gl, GlOk C w p.1 p.2
  free : ∀ x ∈ Γ.free, C.mg x = none
  kk : KkOk w Γ.kks.kk
  ke : KeOk w Γ.kks.ke
  fld : ∀ p ∈ Γ.fld, Cls w.K (w.ct p.1) ∧ NoAttr w.K (w.ct p.1) p.2
  fldX : ∀ p ∈ Γ.fldX, XfC w.K (w.ct p.1) ∧ PySem.W.findIn w.K (.ref (w.ct p.1)) p.2 = some none
  nd : Γ.N.Nodup
  lams : ∀ l ∈ Γ.lams, LamOk C w Γ.lvl l
  rs : ∀ p ∈ Γ.rs, ∃ (fI : Addr) (file : Str), DSX.SupC w.K (w.ct p.2.1) fI p.2.2 file ∧ C.mg p.1 = some (.ref (w.ct p.2.1)) ∧ PrOk C.P file ∧ p.2.2 ≠ "self" ∧ (p.2.2 == ("__debug__" : Str)) = false
  cat : ∀ p ∈ Γ.cat, ∃ cv, C.mg p.1 = some cv ∧ ∀ q ∈ p.2, PySem.W.exmOne w.K (.ref (w.ct q.1)) cv = some q.2
/-- a place in the run of a def of the text -/
structure XOk (C : Ctx) (w : Wd) (Γ : Gam) (L : Lv) (X : Cx) : Prop where
  P : X.prog = C.P
  wo : X.w = C.wo
  K : X.K = w.K
  mg : X.mg = C.mg
  base : X.base = C.base
  N : X.N = Γ.N
  sc : X.env.scope = L.sc
  calm : X.calm = true
  room : RoomG Γ.lvl X.A
  fn : ∀ x, L.fnB x = true → X.fn x = true
  qx : Qx C.tb L.la w.x
  lamX : L.la = true → L.bs = none → ∃ (c P : Addr), LamX.TabB X.base X.mg c P ∧ X.env.code = .ref c ∧ (P, X.env.qual ++ "<lambda>") ∈ C.tb ∧ RoomG (Γ.lvl + 2) X.A
  ask : ∀ a, Γ.askN = some a → L.bs = none → ∀ (W : WX) (pn : List (Addr × Obj)) (xe : Value → Shared → Prop) (p1 p2 : Pos), Takes (X.tr pn xe) W → PE (X.tr pn xe) (.Call (.Name a p1) [] [] p2) (rdE w W (mAsk 0 Γ.ask))
theorem pairB {a b : Bool} (h : (a && b) = true) : a = true ∧ b = true := Bool.and_eq_true_iff.mp h
theorem lookup_in {κ α : Type} [BEq κ] [LawfulBEq κ] {x : κ} {c : α} : ∀ {l : List (κ × α)}, l.lookup x = some c → (x, c) ∈ l
  | [], h => by cases h
  | (y, d) :: r, h => by
    cases q : (x == y) with
    | true => rw [List.lookup_cons, q] at h; cases h; rw [beq_iff_eq.mp q]; exact List.mem_cons_self
    | false => rw [List.lookup_cons, q] at h; exact List.mem_cons_of_mem _ (lookup_in h)
section
variable {C : Ctx} {w : Wd} {Γ : Gam} {L : Lv} {X : Cx}
theorem vis_of (hX : XOk C w Γ L X) {x : Str} (h : L.vis x = true) : Vis X.env.scope x := by
  unfold Vis; rw [hX.sc]
  unfold Lv.vis Lv.kd at h
  split at h
  · rename_i e; exact .inl e
  · rename_i e; exact .inr (.inl e)
  · rename_i e; exact .inr (.inr e)
  · cases h
theorem gl_of (hX : XOk C w Γ L X) {x : Str} (h : L.gl x = true) : Gl X x := by
  show X.env.scope.names.lookup x = _
  rw [hX.sc]
  unfold Lv.gl Lv.kd at h
  split at h
  · rename_i e; exact e
  · cases h
theorem sto_of (hX : XOk C w Γ L X) {x : Str} (h : L.sto x = true) : L2.Loc X.env.scope x ∧ (X.fn x = true ∨ X.env.scope.names.lookup x = some .local) := by
  unfold L2.Loc; rw [hX.sc]
  unfold Lv.sto Lv.kd at h
  split at h
  · rename_i e; exact ⟨.inl e, .inr e⟩
  · rename_i e; exact ⟨.inr e, .inl (hX.fn x h)⟩
  · cases h
theorem dbg_of {x : Str} (h : dbg x = true) : (x == ("__debug__" : Str)) = false ∧ (x == ("__classdict__" : Str)) = false ∧ x ≠ "__name__" := by
  unfold dbg at h
  obtain ⟨h1, h2⟩ := pairB h
  obtain ⟨h3, h4⟩ := pairB h1
  refine ⟨by simpa using h3, by simpa using h4, by simpa using h2⟩
theorem free_of (hX : XOk C w Γ L X) (hG : GamOk C w Γ) {x : Str} (h : Γ.isFree L x = true) : Gl X x ∧ X.mg x = none := by
  obtain ⟨h1, h2⟩ := pairB h
  exact ⟨gl_of hX h1, by rw [hX.mg]; exact hG.free x (by simpa using h2)⟩
theorem units_of (hX : XOk C w Γ L X) : X.A.units + 65 < cLine := by have := hX.room.un; omega
theorem XOk.blkX (hX : XOk C w Γ L X) (s : Shared) (H : Hp) (scope : Scope) (cl : List (Str × Addr)) (Ca : Addr) (fp : List Addr) : XOk C w Γ (L.blk scope) (X.blk s H scope (compEnvC scope cl Ca X.env) fp) :=
  ⟨hX.P, hX.wo, hX.K, hX.mg, hX.base, hX.N, by
    show relS scope X.env.scope = relS scope L.sc
    rw [hX.sc], hX.calm, hX.room, fun x h => h, hX.qx, (fun _ h => by cases h), fun a _ h => by cases h⟩
theorem takes_blk {s : Shared} {H : Hp} {scope : Scope} {ce : Env} {fp : List Addr} : Takes (X.blk s H scope ce fp) W0 := fun u s' ⟨a, B, sI, pins, σ, H, cls, d, _, _, _, _, _, _, _, _, h⟩ => h.elim
theorem ent_of {i : Nat} {k : Ent → Bool} (h : Γ.entB L i k = true) : ∃ e, Γ.ents[i]? = some e ∧ e ∈ Γ.ents ∧ k e = true ∧ (e.la = true → L.la = true) := by
  unfold Gam.entB at h
  split at h
  · rename_i e z
    obtain ⟨h1, h2⟩ := pairB h
    exact ⟨e, z, List.mem_of_getElem? z, h2, fun q => by rw [q] at h1; simpa using h1⟩
  · cases h
theorem qx_of {la la' : Bool} {x : Wx} (q : Qx C.tb la x) (h : la' = true → la = true) : Qx C.tb la' x := ⟨q.tb, q.un, fun z => q.nl (h z)⟩

variable (hG : GamOk C w Γ)
include hG
theorem sK (hX : XOk C w Γ L X) {W : WX} {c : Kc} {e : Expr} (h : ckK Γ L c e = true) : PE X e (rdE w W (mC c.d)) := by
  unfold ckK at h
  split at h
  · cases of_decide_eq_true h; exact d_int
  · cases of_decide_eq_true h; exact d_bl
  · cases of_decide_eq_true h; exact d_non
  · cases of_decide_eq_true h; exact d_str
  · rename_i x _
    obtain ⟨h1, h2⟩ := pairB h
    obtain ⟨h2, h3⟩ := pairB h2
    have g := gl_of hX h1
    obtain ⟨d1, d2, d3⟩ := dbg_of h2
    cases c with
    | ty n =>
      obtain ⟨h4, h5⟩ := pairB h3
      exact d_ty g (by rw [hX.mg]; exact hG.free x (by simpa using h4)) (of_decide_eq_true h5) d3 d1
    | int i =>
      obtain ⟨t, q⟩ := hG.gl _ (lookup_in (of_decide_eq_true h3))
      exact d_glI g (by rw [hX.mg]; exact q) d1
    | str s =>
      obtain ⟨y, t, q, r⟩ := hG.gl _ (lookup_in (of_decide_eq_true h3))
      exact d_glS g (by rw [hX.mg]; exact q) r d1
    | cls n =>
      have q : C.mg x = some (.ref (w.ct n)) := hG.gl _ (lookup_in (of_decide_eq_true h3))
      exact d_cls g (by rw [hX.mg]; exact q) d1
    | tup l =>
      obtain ⟨a, q, r⟩ := hG.gl _ (lookup_in (of_decide_eq_true h3))
      exact d_glT g (by rw [hX.mg]; exact q) r d1
    | non => exact (hG.gl _ (lookup_in (of_decide_eq_true h3))).elim
    | bl b => exact (hG.gl _ (lookup_in (of_decide_eq_true h3))).elim
  · cases h
theorem s_call (hX : XOk C w Γ L X) {W : WX} (tk : Takes X W) {i : Nat} {x : Str} {es : List Expr} {kws : List Keyword} {p pos : Pos} {mr mk : AM} (h : Γ.entB L i (fun t => t.isFn && (decide (t.x = x) && decide (kwNames kws = t.ks))) = true) (hg : L.gl x = true) (hd : dbg x = true) (pa : plainArgs es = true) (pk : plainKw kws = true)
    (ha : PA X es (rdA w W mr)) (hnil : es = [] → mr = mNil) (hkw : PKd X w W kws mk) : PE X (.Call (.Name x p) es kws pos) (rdE w W (Γ.ent i fun e => mCallK e.np e.ks.length (fAr e.n e.m) e.gD mr mk)) := by
  obtain ⟨e, e1, e2, e3, e4⟩ := ent_of h
  obtain ⟨k1, k2⟩ := pairB e3
  obtain ⟨k2, k3⟩ := pairB k2
  obtain ⟨f, fd, k, ps, g, gV, W1, hk, F, wK, wC, hb, hgd, hkd⟩ := (hG.ents e e2).ok
  unfold Ent.isFn at k1
  unfold Gam.ent
  rw [e1]
  cases z : e.kd with
  | fn =>
    rw [z] at hkd
    obtain ⟨m1, m2⟩ := hkd
    have hq := qx_of hX.qx e4
    obtain ⟨P0, w0, mg0, b0, tb0⟩ := C
    obtain ⟨eP, eW, eK, eM, eB, eN, eS, eC, eR, _, _, _, _⟩ := hX
    dsimp only at eP eW eM eB F m1
    subst eP eW eM eB
    rw [← eK] at F m2 hb
    cases of_decide_eq_true k2
    have ek : kwNames kws = e.ks := of_decide_eq_true k3
    show PE X _ (rdE w W (mCallK e.np e.ks.length (fAr e.n e.m) e.gD mr mk))
    rw [← ek] at hb ⊢
    exact d_callG hq F (eR.mono (by omega)) (by show X.env.scope.names.lookup _ = _; rw [eS]; unfold Lv.gl Lv.kd at hg; split at hg; assumption; cases hg) m1 m2 hb hgd tk pa pk ha hnil hkw rfl (dbg_of hd).1 wK.symm wC.symm
  | me c => rw [z] at k1; cases k1
  | mk c => rw [z] at k1; cases k1
theorem s_meth (hX : XOk C w Γ L X) {W : WX} (tk : Takes X W) {i : Nat} {f : Str} {o : Expr} {es : List Expr} {kws : List Keyword} {ap pos : Pos} {mo : EM} {mr mk : AM} (h : Γ.entB L i (fun t => t.isMe && (decide (t.x = f) && decide (kwNames kws = t.ks))) = true) (pb : plainBase o = true) (hl : (ap.endLine == pos.line) = true) (hn : es.length + kws.length < 29) (pa : plainArgs es = true) (pk : plainKw kws = true)
    (ho : PE X o (rdE w W mo)) (ha : PA X es (rdA w W mr)) (hnil : es = [] → mr = mNil) (hkw : PKd X w W kws mk) : PE X (.Call (.Attribute o f ap) es kws pos) (rdE w W (Γ.ent i fun e => mMethK e.cn e.x e.np e.ks.length (fAr e.n e.m) e.gD mo mr mk)) := by
  obtain ⟨e, e1, e2, e3, e4⟩ := ent_of h
  obtain ⟨k1, k2⟩ := pairB e3
  obtain ⟨k2, k3⟩ := pairB k2
  obtain ⟨fa, fd, k, ps, g, gV, W1, hk, F, wK, wC, hb, hgd, hkd⟩ := (hG.ents e e2).ok
  unfold Ent.isMe at k1
  unfold Gam.ent
  rw [e1]
  cases z : e.kd with
  | me c =>
    rw [z] at hkd
    obtain ⟨m1, m2⟩ := hkd
    have hq := qx_of hX.qx e4
    obtain ⟨P0, w0, mg0, b0, tb0⟩ := C
    obtain ⟨eP, eW, eK, eM, eB, eN, eS, eC, eR, _, _, _, _⟩ := hX
    dsimp only at eP eW eM eB F
    subst eP eW eM eB
    rw [← eK] at F m1 m2 hb
    cases of_decide_eq_true k2
    have ek : kwNames kws = e.ks := of_decide_eq_true k3
    have ec : e.cn = c := by unfold Ent.cn; rw [z]
    show PE X _ (rdE w W (mMethK e.cn e.x e.np e.ks.length (fAr e.n e.m) e.gD mo mr mk))
    rw [← ek] at hb ⊢
    rw [ec]
    exact d_methG hq ho m1 m2 F (eR.mono (by omega)) hb hgd tk pa pk ha hnil hkw rfl pb hl hn wK.symm wC.symm
  | fn => rw [z] at k1; cases k1
  | mk c => rw [z] at k1; cases k1
theorem s_make (hX : XOk C w Γ L X) {W : WX} (tk : Takes X W) {i : Nat} {x : Str} {es : List Expr} {kws : List Keyword} {p pos : Pos} {mr mk : AM} (h : Γ.entB L i (fun t => t.isMk && (decide (t.x = x) && decide (kwNames kws = t.ks))) = true) (hg : L.gl x = true) (hd : dbg x = true) (pa : plainArgs es = true) (pk : plainKw kws = true)
    (ha : PA X es (rdA w W mr)) (hnil : es = [] → mr = mNil) (hkw : PKd X w W kws mk) : PE X (.Call (.Name x p) es kws pos) (rdE w W (Γ.ent i fun e => mMakeG e.cn e.np e.ks.length (fAr e.n e.m) e.gD mr mk)) := by
  obtain ⟨e, e1, e2, e3, e4⟩ := ent_of h
  obtain ⟨k1, k2⟩ := pairB e3
  obtain ⟨k2, k3⟩ := pairB k2
  obtain ⟨f, fd, k, ps, g, gV, W1, hk, F, wK, wC, hb, hgd, hkd⟩ := (hG.ents e e2).ok
  unfold Ent.isMk at k1
  unfold Gam.ent
  rw [e1]
  cases z : e.kd with
  | mk c =>
    rw [z] at hkd k1
    obtain ⟨m1, m2⟩ := hkd
    have hq := qx_of hX.qx e4
    obtain ⟨P0, w0, mg0, b0, tb0⟩ := C
    obtain ⟨eP, eW, eK, eM, eB, eN, eS, eC, eR, _, _, _, _⟩ := hX
    dsimp only at eP eW eM eB F m2
    subst eP eW eM eB
    rw [← eK] at F m1 hb
    cases of_decide_eq_true k2
    have ek : kwNames kws = e.ks := of_decide_eq_true k3
    have ec : e.cn = c := by unfold Ent.cn; rw [z]
    show PE X _ (rdE w W (mMakeG e.cn e.np e.ks.length (fAr e.n e.m) e.gD mr mk))
    rw [← ek] at hb ⊢
    rw [ec]
    exact d_makeG hq m1 F (eR.mono (by omega)) (by show X.env.scope.names.lookup _ = _; rw [eS]; unfold Lv.gl Lv.kd at hg; split at hg; assumption; cases hg) m2 hb hgd tk pa pk ha hnil hkw rfl (dbg_of hd).1 (by simpa using k1) wK.symm wC.symm
  | fn => rw [z] at k1; cases k1
  | me c => rw [z] at k1; cases k1
end
theorem k_of {X : Cx} {w : Wd} {W : WX} {nm : Option Str} {e : Expr} {p : Pos} {kws : List Keyword} {ma : EM} {mr : AM} (ha : PE X e (rdE w W ma)) (hr : PKd X w W kws mr) : PKd X w W (⟨nm, e, p⟩ :: kws) (mCons ma mr) := k_cons ha hr
end DL

/-! The core is sound: expressions, by recursion. -/
namespace DL
open PySem PySem.Spec PyProof.Rows L2
variable {C : Ctx} {w : Wd} {Γ : Gam}
theorem w0_wv : ∃ E, W0 = WV E := ⟨fun _ _ _ => False, rfl⟩
section
variable {L : Lv} {X : Cx} {W : WX} {E : XK} {e a b : Expr} {pos p : Pos} {i : Nat} {ma mb : EM}
theorem own_of (hG : GamOk C w Γ) {nm : Str} (hn : nm = ("__eq__" : Str) ∨ nm = ("__len__" : Str)) (h : Γ.entB L i (fun t => t.isMe && decide (t.x = nm)) = true) : ∃ e, Γ.ents[i]? = some e ∧ e.x = nm ∧ OwnOk C w Γ e ∧ (e.la = true → L.la = true) := by
  obtain ⟨e, e1, e2, e3, e4⟩ := ent_of h
  obtain ⟨k1, k2⟩ := pairB e3
  have k3 : e.x = nm := of_decide_eq_true k2
  exact ⟨e, e1, k3, hG.own e e2 k1 (by rw [k3]; exact hn), e4⟩
theorem s_eqO (hG : GamOk C w Γ) (hX : XOk C w Γ L X) (tk : Takes X (WV E)) {neg : Bool} {op : CmpOp} (ho : op = if neg then .NotEq else .Eq) (h : Γ.entB L i (fun t => t.isMe && decide (t.x = ("__eq__" : Str))) = true) (ha : PE X a (rdE w (WV E) ma)) (hb : PE X b (rdE w (WV E) mb)) :
    PE X (.Compare a [op] [b] pos) (rdE w (WV E) (Γ.ent i fun e => mOp (fOwn e.cn (Γ.nf e.cn) (fAr e.n e.m) neg) ma mb)) := by
  obtain ⟨e, e1, e2, O, e4⟩ := own_of hG (.inl rfl) h
  obtain ⟨f, fd, k, ps, W1, hk, F, wK, wC, bd, hs, hf⟩ := O.ok
  obtain ⟨n1, n2, n3⟩ := O.ne e2
  unfold Gam.ent
  rw [e1]
  have hq := qx_of hX.qx e4
  obtain ⟨P0, w0, mg0, b0, tb0⟩ := C
  obtain ⟨eP, eW, eK, eM, eB, eN, eS, eC, eR, _, _, _, _⟩ := hX
  dsimp only at eP eW eM eB F
  subst eP eW eM eB
  rw [← eK] at F bd hs hf n1 n2
  rw [e2] at hs
  show PE X _ (rdE w (WV E) (mOp (fOwn e.cn (Γ.nf e.cn) (fAr e.n e.m) neg) ma mb))
  cases neg with
  | false =>
    rw [ho]
    exact d_eqO hq F (eR.mono (by omega)) bd tk hs hf n3 ha hb wK.symm wC.symm eK.symm
  | true =>
    rw [ho]
    exact d_neO hq F (eR.mono (by omega)) bd tk hs hf n1 n2 n3 ha hb wK.symm wC.symm eK.symm
theorem s_eqOT (hG : GamOk C w Γ) (hX : XOk C w Γ L X) (tk : Takes X (WV E)) {neg : Bool} {op : CmpOp} (ho : op = if neg then .NotEq else .Eq) (h : Γ.entB L i (fun t => t.isMe && decide (t.x = ("__eq__" : Str))) = true) (ha : PE X a (rdE w (WV E) ma)) (hb : PE X b (rdE w (WV E) mb)) :
    PT X (.Compare a [op] [b] pos) (rdT w (WV E) (mB (Γ.ent i fun e => mOp (fOwn e.cn (Γ.nf e.cn) (fAr e.n e.m) neg) ma mb))) := by
  obtain ⟨e, e1, e2, O, e4⟩ := own_of hG (.inl rfl) h
  obtain ⟨f, fd, k, ps, W1, hk, F, wK, wC, bd, hs, hf⟩ := O.ok
  obtain ⟨n1, n2, n3⟩ := O.ne e2
  unfold Gam.ent
  rw [e1]
  have hq := qx_of hX.qx e4
  obtain ⟨P0, w0, mg0, b0, tb0⟩ := C
  obtain ⟨eP, eW, eK, eM, eB, eN, eS, eC, eR, _, _, _, _⟩ := hX
  dsimp only at eP eW eM eB F
  subst eP eW eM eB
  rw [← eK] at F bd hs hf n1 n2
  rw [e2] at hs
  show PT X _ (rdT w (WV E) (mB (mOp (fOwn e.cn (Γ.nf e.cn) (fAr e.n e.m) neg) ma mb)))
  cases neg with
  | false =>
    rw [ho]
    exact t_cmpW (op_own (C := w.ct e.cn) F (eR.mono (by omega)) bd (passes_call (W := WV E) tk fun _ _ _ _ h => h) hs hf) ha hb (nomark _) fun σ H Q ⟨fr, as, δ, μ, h, q⟩ => bE2 h q fun as H μ x y vx vy h dx dy q => od_own hq wK.symm wC.symm eK.symm n3 h dx dy q
  | true =>
    rw [ho]
    exact t_cmpW (op_ownN (C := w.ct e.cn) F (eR.mono (by omega)) bd (passes_call (W := WV E) tk fun _ _ _ _ h => h) hs hf n1 n2) ha hb (nomark _) fun σ H Q ⟨fr, as, δ, μ, h, q⟩ => bE2 h q fun as H μ x y vx vy h dx dy q => od_own hq wK.symm wC.symm eK.symm n3 h dx dy q
theorem t_isNn {neg : Bool} {op : CmpOp} {j : Nat} {q : Pos} (ho : op = if neg then .IsNot else .Is) (ha : PE X a (rdE w W ma)) : PT X (.Compare a [op] [.Constant .none j q] pos) (rdT w W (mB (mUn (fun x μ => .ok (.bl (if neg then !isNon x else isNon x)) μ) ma))) := by
  subst ho
  cases neg with
  | false => exact t_cmpW op_isN ha pe_non (nomark _) fun σ H Q ⟨fr, as, δ, μ, h, q⟩ => bE h q fun vx H1 as1 x μ1 h1 d1 q1 => ⟨rfl, by rw [den_non d1]; exact q1 _ H1 as1 Ext.refl h1.rel (.bl _)⟩
  | true => exact t_cmpW op_notN ha pe_non (nomark _) fun σ H Q ⟨fr, as, δ, μ, h, q⟩ => bE h q fun vx H1 as1 x μ1 h1 d1 q1 => ⟨rfl, by rw [den_non d1]; exact q1 _ H1 as1 Ext.refl h1.rel (.bl _)⟩
theorem s_lenO (hG : GamOk C w Γ) (hX : XOk C w Γ L X) (tk : Takes X (WV E)) (hfr : Γ.isFree L "len" = true) (ns : notStar a = true) (h : Γ.entB L i (fun t => t.isMe && decide (t.x = ("__len__" : Str))) = true) (ha : PE X a (rdE w (WV E) ma)) :
    PE X (.Call (.Name "len" p) [a] [] pos) (rdE w (WV E) (Γ.ent i fun e => mLenO e.cn (fAr e.n e.m) ma)) := by
  obtain ⟨e, e1, e2, O, e4⟩ := own_of hG (.inr rfl) h
  obtain ⟨f, fd, k, ps, W1, hk, F, wK, wC, bd, hs, hf⟩ := O.ok
  obtain ⟨g1, g2⟩ := free_of hX hG hfr
  unfold Gam.ent
  rw [e1]
  have hq := qx_of hX.qx e4
  obtain ⟨P0, w0, mg0, b0, tb0⟩ := C
  obtain ⟨eP, eW, eK, eM, eB, eN, eS, eC, eR, _, _, _, _⟩ := hX
  dsimp only at eP eW eM eB F
  subst eP eW eM eB
  rw [← eK] at F bd hs hf
  rw [e2] at hs
  exact d_lenO hq F (eR.mono (by omega)) bd tk hs hf g1 g2 ha wK.symm wC.symm (star_cons ns) rfl
theorem d_isNn {neg : Bool} {op : CmpOp} {j : Nat} {q : Pos} (ho : op = if neg then .IsNot else .Is) (ha : PE X a (rdE w W ma)) : PE X (.Compare a [op] [.Constant .none j q] pos) (rdE w W (mUn (fun x μ => .ok (.bl (if neg then !isNon x else isNon x)) μ) ma)) := by
  subst ho
  cases neg with
  | false => exact d_isN ha
  | true => exact d_notN ha
theorem d_dnew {cell : Bool} : PE X (.Dict [] [] pos) (rdE w W (mDNew cell)) := by
  refine PE.to pe_dnewK fun σ H Q ⟨fr, as, δ, μ, h, q⟩ d hd => ?_
  cases cell with
  | false => exact q (.ref d) _ as (Ext.push hd) (h.rel.push hd) (.dic (kvs := []) (h.rel.newF hd) (h.rel.new hd) upd_same rfl .nil)
  | true =>
    refine q (.ref d) _ (as ++ [d]) (Ext.cell hd) (h.rel.cellNew hd ⟨[], upd_same, rfl, .nil⟩) (.loc ?_)
    rw [← h.rel.len, List.getElem?_append_right (Nat.le_refl _)]
    simp
end
theorem GamOk.wx {w' : Wd} (h : GamOk C w Γ) (hK : w'.K = w.K) (hc : w'.ct = w.ct) : GamOk C w' Γ := by
  obtain ⟨K, ct, fr, x⟩ := w
  obtain ⟨K', ct', fr', x'⟩ := w'
  cases hK; cases hc
  exact ⟨fun e he => ⟨(h.ents e he).ok⟩, fun e he k1 k2 => ⟨(h.own e he k1 k2).ok, (h.own e he k1 k2).ne⟩, h.gl, h.free, h.kk, h.ke, h.fld, h.fldX, h.nd, fun l hl => ⟨(h.lams l hl).ok⟩, h.rs, h.cat⟩
/-! a lambda handed over -/
def intOf : Expr → Int × Nat × Pos
  | .Constant (.int i) k p => (i, k, p)
  | _ => (0, 0, ⟨0, 0, 0, 0⟩)
theorem ints_each {env : Env} : ∀ {l : List Expr}, l.all isInt = true → evalEach l env = (l.map intOf).map (DLM.cst env)
  | [], _ => rfl
  | e :: l, h => by
    rw [List.all_cons] at h
    obtain ⟨h1, h2⟩ := pairB h
    unfold isInt at h1
    split at h1
    · rename_i i k p
      show eval (.Constant (.int i) k p) env :: evalEach l env = _ :: _
      rw [ints_each h2]
      rfl
    · cases h1
theorem lamPar_of {p : Arguments} {scope : Scope} (h : lamPar p scope = true) : ∃ as dfl, p = ⟨[], as, none, [], [], none, dfl⟩ ∧ as.length = dfl.length ∧ as.length ≤ 3 ∧ (as.map (·.arg)).Nodup ∧ (∀ n ∈ as.map (·.arg), scope.names.lookup n = some .local) ∧ dfl.all isInt = true := by
  obtain ⟨po, as, va, ko, kd, kw, dfl⟩ := p
  unfold lamPar at h
  obtain ⟨h1, h⟩ := pairB h
  obtain ⟨h2, h⟩ := pairB h
  obtain ⟨h3, h⟩ := pairB h
  obtain ⟨h4, h⟩ := pairB h
  obtain ⟨h5, h⟩ := pairB h
  obtain ⟨h6, h⟩ := pairB h
  obtain ⟨h7, h⟩ := pairB h
  obtain ⟨h8, h⟩ := pairB h
  obtain ⟨h9, h10⟩ := pairB h
  cases List.isEmpty_iff.mp h1
  cases List.isEmpty_iff.mp h3
  cases List.isEmpty_iff.mp h4
  cases Option.isNone_iff_eq_none.mp h2
  cases Option.isNone_iff_eq_none.mp h5
  refine ⟨as, dfl, rfl, of_decide_eq_true h6, of_decide_eq_true h7, of_decide_eq_true h8, fun n hn => ?_, h10⟩
  obtain ⟨a, ha, rfl⟩ := List.mem_map.mp hn
  exact beq_iff_eq.mp (List.all_eq_true.mp h9 a ha)
theorem lam_b0 {as : List Arg} {dfl : List Expr} {q : Str} {body : Expr} {scope : Scope} {cl : List (Str × Addr)} {pm cv ctv : Value} (h : as = []) : bindArgs (DLM.lfn q ⟨[], as, none, [], [], none, dfl⟩ body scope cl .none pm cv ctv) ⟨[], []⟩ = pure ((as.map (·.arg)).zip []) := by
  subst h; rfl
theorem lam_b1 {as : List Arg} {dfl : List Expr} {q : Str} {body : Expr} {scope : Scope} {cl : List (Str × Addr)} {T : Addr} {pm cv ctv : Value} {us : List Value} (h3 : as.length ≤ 3) (nd : (as.map (·.arg)).Nodup) (hl : us.length = as.length) :
    ∃ kk, bindArgs (DLM.lfn q ⟨[], as, none, [], [], none, dfl⟩ body scope cl (.ref T) pm cv ctv) ⟨[], []⟩ = seqItems? (.ref T) >>= kk ∧ kk (some us.toArray) = pure ((as.map (·.arg)).zip us) := by
  refine ⟨_, rfl, ?_⟩
  match as, us, hl with
  | [], [], _ => simp
  | [a], [u], _ => simp [List.lookup]
  | [a, b], [u, v], _ =>
    have h : (b.arg == a.arg) = false := by
      simp only [List.map_cons, List.map_nil, List.nodup_cons, List.mem_cons, List.not_mem_nil, or_false] at nd
      exact beq_eq_false_iff_ne.mpr (Ne.symm nd.1)
    simp [List.lookup, h]
  | [a, b, c], [u, v, t], _ =>
    simp only [List.map_cons, List.map_nil, List.nodup_cons, List.mem_cons, List.not_mem_nil, or_false, not_or] at nd
    have h1 : (b.arg == a.arg) = false := beq_eq_false_iff_ne.mpr (Ne.symm nd.1.1)
    have h2 : (c.arg == a.arg) = false := beq_eq_false_iff_ne.mpr (Ne.symm nd.1.2)
    have h4 : (c.arg == b.arg) = false := beq_eq_false_iff_ne.mpr (Ne.symm nd.2.1)
    simp [List.lookup, h1, h2, h4]
  | _ :: _ :: _ :: _ :: _, _, _ => simp at h3
section
variable {L : Lv} {X : Cx} {E : XK} {pos p : Pos}
theorem s_lam (hG : GamOk C w Γ) (hX : XOk C w Γ L X) (tk : Takes X (WV E)) {g : Nat} {l : LamI} {params : Arguments} {body : Expr} {scope : Scope} {lpos : Pos} {m : EM} (hl : Γ.lams[g]? = some l) (la : L.la = true) (bs : L.bs = none) (hg : L.gl l.x = true) (hd : dbg l.x = true) (hB : DLM.lmB Γ.N L.sc scope = true) (hP : lamPar params scope = true)
    (hbody : ∀ (w' : Wd) (A : Around) (outer : List Env) (s : Shared) (H : Hp) (E : XK) (f c' : Addr), w'.K = w.K → w'.ct = w.ct → XOk C w' Γ ⟨scope, some scope, false, false⟩ (LamX.lamCx X A outer s H E scope f c') → Takes (LamX.lamCx X A outer s H E scope f c') (WV E) → PE (LamX.lamCx X A outer s H E scope f c') body (rdE w' (WV E) m)) :
    PE X (.Call (.Name l.x p) [.Lambda params body scope lpos] [] pos) (rdE w (WV E) fun δ μ => fLam l.N.length l.mb (fun μ => m δ μ) μ) := by
  obtain ⟨ga, fdg, k1, k2, k3, k4, k5, k6, k7, k8⟩ := (hG.lams l (List.mem_of_getElem? hl)).ok
  obtain ⟨c, P, t1, t2, t3, t4⟩ := hX.lamX la bs
  obtain ⟨as, dfl, rfl, p1, p2, p3, p4, p5⟩ := lamPar_of hP
  have hq := hX.qx
  have hS := DLM.lmS_by (N := X.N) (sc := X.env.scope) (scope := scope) (by rw [hX.N, hX.sc]; exact hB)
  have hgX : Gl X l.x := gl_of hX hg
  obtain ⟨d1, d2, d3⟩ := dbg_of hd
  obtain ⟨d4, d5, d6⟩ := dbg_of k7
  have hbs : ∀ (w' : Wd) (A : Around) (outer : List Env) (s : Shared) (H : Hp) (E : XK) (f c' : Addr), w'.K = w.K → w'.ct = w.ct → w'.x.T = w.x.T → RoomG Γ.lvl (A.deeper (LamX.lamEnv X scope s.heap.objs.size f c')) → XOk C w' Γ ⟨scope, some scope, false, false⟩ (LamX.lamCx X A outer s H E scope f c') := fun w' A outer s H E f c' wK wC wT hr =>
    ⟨hX.P, hX.wo, by show X.K = w'.K; rw [wK]; exact hX.K, hX.mg, hX.base, hX.N, rfl, rfl, hr, fun x hx => by
      have hx : (scope.names.lookup x == some .cell) = true := hx
      exact absurd rfl (hS.cell _ (PySem.mem_of_lookup (beq_iff_eq.mp hx))), ⟨fun p hp => by rw [wT]; exact hq.tb p hp, fun p hp => by rw [wT]; exact hq.un p hp, fun z => by cases z⟩, (fun z => by cases z), fun a _ z => by cases z⟩
  have rest := hX
  obtain ⟨P0, w0, mg0, b0, tb0⟩ := C
  obtain ⟨eP, eW, eK, eM, eB, eN, eS, eC, eR, _, _, _, _⟩ := rest
  dsimp only at eP eW eM eB k3 k8 t3 hq
  subst eP eW eM eB
  have hT : (P, X.env.qual ++ "<lambda>") ∈ w.x.T := hq.tb _ t3
  refine d_lamcall (hq.nl la) (by rw [eK]; exact k1) k2 hgX k3 (by rw [eK]; exact k4) k5 k6 (k := Γ.lvl) (mb := l.mb) (fun w' cdv s H ask wK wC wT hr hA => ?_) t1 t2 hT (fun p hp e => hq.un _ t3 p hp e) t4 hS (cs := dfl.map intOf) (nms := as.map (·.arg)) ?_ rfl p4 ?_ ?_ (fun w' A outer s H E f c' wK wC wT hr => ?_) tk d1 d4 d5
  · have z := k8 w' cdv X.A X.stack s H E ask wK wC ⟨fun p hp => by rw [wT]; exact hq.tb p hp, fun p hp => by rw [wT]; exact hq.un p hp, fun z => by cases z⟩ hr (by rw [← eK]; exact hA)
    rw [← eK] at z
    exact z
  · show (evalEach dfl X.env, evalEachOpt [] X.env) = _
    rw [ints_each p5]; rfl
  · intro q cl pm cv ctv h0
    have e0 : as = [] := by
      rw [List.length_map, ← p1] at h0
      exact List.length_eq_zero_iff.mp h0
    exact lam_b0 e0
  · intro q cl T pm cv ctv us hu
    exact lam_b1 p2 p3 (by rw [hu, List.length_map, p1])
  · exact hbody w' A outer s H E f c' wK wC (hbs w' A outer s H E f c' wK wC wT hr) (takes_of rfl rfl rfl rfl)
end
theorem assign_tup {env : Env} : ∀ {es : List Expr}, plainArgs es = true → (assignEach es env).length = es.length ∧ (assignEach es env).findIdx? (·.1) = none
  | [], _ => ⟨rfl, rfl⟩
  | e :: es, h => by
    obtain ⟨h1, h2⟩ := plainArgs_cons h
    have z : assignEach (e :: es) env = (false, assign e env) :: assignEach es env := by cases e <;> first | rfl | cases h1
    obtain ⟨k1, k2⟩ := assign_tup (env := env) h2
    rw [z]
    refine ⟨by rw [List.length_cons, List.length_cons, k1], ?_⟩
    rw [List.findIdx?_cons]
    simp [k2]
theorem assign_cons {env : Env} {e : Expr} {es : List Expr} (h : notStar e = true) : (assignEach (e :: es) env).map (·.2) = assign e env :: (assignEach es env).map (·.2) := by
  cases e <;> first | rfl | cases h
theorem gs_len {L : Lv} : ∀ {gs : CGs} {es : List Expr}, ckGs Γ L gs es = true → es.length = gs.len
  | .nil, es, h => by
    have h : es.isEmpty = true := by simpa only [ckGs] using h
    cases es with
    | nil => rfl
    | cons _ _ => cases h
  | .cons g r, [], h => by simp only [ckGs] at h; cases h
  | .cons g r, e :: es, h => by
    simp only [ckGs] at h
    rw [List.length_cons, gs_len (pairB h).2]; rfl
mutual
def tgG (K : PySem.W.Frag) : CG → TG
  | .nm i => gName i
  | .tup gs => gSeq K gs.len (tgGs K gs)
def tgGs (K : PySem.W.Frag) : CGs → TGs
  | .nil => gNil
  | .cons g r => gCons (tgG K g) (tgGs K r)
end
mutual
theorem sG {L : Lv} {X : Cx} (hG : GamOk C w Γ) (hX : XOk C w Γ L X) : ∀ (c : CG) {e : Expr}, ckG Γ L c e = true → PG X e (tgG w.K c)
  | .nm i, e, h => by
    simp only [ckG] at h
    split at h
    · obtain ⟨h1, h2⟩ := pairB h
      obtain ⟨s1, s2⟩ := sto_of hX h2
      exact pg_name (by rw [hX.N]; exact hG.nd) (by rw [hX.N]; exact of_decide_eq_true h1) s1 s2
    · cases h
  | .tup gs, e, h => by
    simp only [ckG] at h
    split at h
    · rename_i es kk pp
      obtain ⟨h1, h2⟩ := pairB h
      have k1 := sGs hG hX gs h1 h2
      obtain ⟨a1, a2⟩ := assign_tup (env := X.env) h1
      have z := pg_seq (k := kk) (pos := pp) hX.calm k1 rfl a2
      rw [a1, gs_len h2, hX.K] at z
      exact z
    · cases h
theorem sGs {L : Lv} {X : Cx} (hG : GamOk C w Γ) (hX : XOk C w Γ L X) : ∀ (c : CGs) {es : List Expr}, plainArgs es = true → ckGs Γ L c es = true → PGs X es (tgGs w.K c)
  | .nil, es, _, h => by
    simp only [ckGs] at h
    cases es with
    | nil => exact pgs_nil
    | cons _ _ => cases h
  | .cons g r, [], _, h => by simp only [ckGs] at h; cases h
  | .cons g r, e :: es, ns, h => by
    simp only [ckGs] at h
    obtain ⟨h1, h2⟩ := pairB h
    obtain ⟨n1, n2⟩ := plainArgs_cons ns
    exact pgs_cons (sG hG hX g h1) (sGs hG hX r n2 h2) (assign_cons n1)
end
mutual
theorem gdG (fr : List Addr) : ∀ c : CG, GD (w.on fr) c.ts (tgG w.K c) (evG c)
  | .nm i => gd_name
  | .tup gs => gd_tup (w := w.on fr) rfl (gdGs fr gs)
theorem gdGs (fr : List Addr) : ∀ c : CGs, GsD (w.on fr) c.ts (tgGs w.K c) (evGs c)
  | .nil => gd_nil
  | .cons g r => gd_cons (gdG fr g) (gdGs fr r)
end
end DL

/-! The core is sound: expressions, by recursion. -/
namespace DL
open PySem PySem.Spec PyProof.Rows L2
variable {C : Ctx} {Γ : Gam}
theorem op_eq {a b : CmpOp} (h : decide (a = b) = true) : a = b := of_decide_eq_true h
theorem not_true {b : Bool} (h : (!b) = true) : b = false := by cases b <;> first | rfl | cases h
theorem chn_of {w : Wd} {Γ : Gam} {L : Lv} {X : Cx} {W : WX} {o o' : CK} {x y z : Expr} {pos : Pos} {ma mb mc : EM} (hK : X.K = w.K) (hm : lastMarks [o.op, o'.op] [y, z] = false) (ha : PE X x (rdE w W ma)) (hb : PE X y (rdE w W mb)) (hc : PE X z (rdE w W mc)) :
    PE X (.Compare x [o.op, o'.op] [y, z] pos) (rdE w W (match o.g, o'.g with | some g, some g' => mChain g g' ma mb mc | _, _ => fun _ _ => .bad)) ∧
    PT X (.Compare x [o.op, o'.op] [y, z] pos) (rdT w W (match o.g, o'.g with | some g, some g' => mB (mChain g g' ma mb mc) | _, _ => fun _ _ => .bad)) := by
  cases e1 : o.g with
  | none => exact ⟨PE.to (t := fun _ _ _ => False) ⟨fun _ _ _ _ _ _ q => q.elim⟩ fun σ H Q ⟨_, _, _, _, _, q⟩ => q, PT.to (t := fun _ _ _ => False) ⟨fun _ _ _ _ _ _ q => q.elim⟩ fun σ H Q ⟨_, _, _, _, _, q⟩ => q⟩
  | some g =>
    cases e2 : o'.g with
    | none => exact ⟨PE.to (t := fun _ _ _ => False) ⟨fun _ _ _ _ _ _ q => q.elim⟩ fun σ H Q ⟨_, _, _, _, _, q⟩ => q, PT.to (t := fun _ _ _ => False) ⟨fun _ _ _ _ _ _ q => q.elim⟩ fun σ H Q ⟨_, _, _, _, _, q⟩ => q⟩
    | some g' => exact ⟨d_chain (ckg_ok e1) (ckg_ok e2) ha hb hc hm, t_chain (ckg_ok e1) (ckg_ok e2) ha hb hc hm⟩
mutual
theorem sE {w : Wd} (hG : GamOk C w Γ) {L : Lv} {X : Cx} (hX : XOk C w Γ L X) {W : WX} (hW : L.tr = false → ∃ E, W = WV E) (tk : Takes X W) : ∀ (c : CE) {e : Expr}, ckE Γ L c e = true → PE X e (rdE w W (evE Γ c))
  | .v i, e, h => by
    simp only [ckE] at h
    split at h
    · obtain ⟨h1, h2⟩ := pairB h
      obtain ⟨h2, h3⟩ := pairB h2
      obtain ⟨d1, d2, _⟩ := dbg_of h3
      exact d_var (by rw [hX.N]; exact of_decide_eq_true h1) (vis_of hX h2) d1 d2
    · cases h
  | .k c, e, h => by simp only [ckE] at h; exact sK hG hX h
  | .bin o a b, e, h => by
    simp only [ckE] at h
    split at h
    · obtain ⟨h1, h2⟩ := pairB h
      obtain ⟨h2, h3⟩ := pairB h2
      cases of_decide_eq_true h1
      obtain ⟨r, k1, k2⟩ := bk_ok (w := w) hX.K o
      exact d_op k1 k2 (sE hG hX hW tk a h2) (sE hG hX hW tk b h3)
    · cases h
  | .neg a, e, h => by
    simp only [ckE] at h
    split at h
    · exact d_neg (sE hG hX hW tk a h)
    · cases h
  | .cmp o a b, e, h => by
    simp only [ckE] at h
    split at h
    · obtain ⟨h1, h2⟩ := pairB h
      obtain ⟨h2, h3⟩ := pairB h2
      obtain ⟨h3, h4⟩ := pairB h3
      cases op_eq h1
      obtain ⟨r, k1, k2⟩ := ck_ok (w := w) hX.K (units_of hX) o
      exact d_cmp k1 k2 (sE hG hX hW tk a h3) (sE hG hX hW tk b h4) (not_true h2)
    · cases h
  | .chn o o' a b c, e, h => by
    simp only [ckE] at h
    split at h
    · obtain ⟨h1, h2⟩ := pairB h
      obtain ⟨h2, h3⟩ := pairB h2
      obtain ⟨h3, h4⟩ := pairB h3
      obtain ⟨h4, h5⟩ := pairB h4
      obtain ⟨h5, h6⟩ := pairB h5
      cases op_eq h1
      cases op_eq h2
      exact (chn_of (Γ := Γ) (L := L) hX.K (not_true h3) (sE hG hX hW tk a h4) (sE hG hX hW tk b h5) (sE hG hX hW tk c h6)).1
    · cases h
  | .isN neg a, e, h => by
    simp only [ckE] at h
    split at h
    · obtain ⟨h1, h2⟩ := pairB h
      exact d_isNn (op_eq h1) (sE hG hX hW tk a h2)
    · cases h
  | .eqO neg i a b, e, h => by
    simp only [ckE] at h
    split at h
    · obtain ⟨h0, h⟩ := pairB h
      obtain ⟨h1, h2⟩ := pairB h
      obtain ⟨h2, h3⟩ := pairB h2
      obtain ⟨h3, h4⟩ := pairB h3
      obtain ⟨E, rfl⟩ := hW (not_true h0)
      exact s_eqO hG hX tk (op_eq h1) h2 (sE hG hX hW tk a h3) (sE hG hX hW tk b h4)
    · cases h
  | .and as, e, h => by
    simp only [ckE] at h
    split at h
    · obtain ⟨h1, h2⟩ := pairB h
      exact sAnd hG hX hW tk as h1 (by intro z; subst z; cases h2)
    · cases h
  | .or as, e, h => by
    simp only [ckE] at h
    split at h
    · obtain ⟨h1, h2⟩ := pairB h
      exact sOr hG hX hW tk as h1 (by intro z; subst z; cases h2)
    · cases h
  | .not a, e, h => by
    simp only [ckE] at h
    split at h
    · exact d_not (sE hG hX hW tk a h)
    · cases h
  | .ite t a b, e, h => by
    simp only [ckE] at h
    split at h
    · obtain ⟨h1, h2⟩ := pairB h
      obtain ⟨h2, h3⟩ := pairB h2
      exact d_if (sT hG hX hW tk t h1) (sE hG hX hW tk a h2) (sE hG hX hW tk b h3)
    · cases h
  | .tup as, e, h => by
    simp only [ckE] at h
    split at h
    · obtain ⟨h1, h2⟩ := pairB h
      exact d_tup (sA hG hX hW tk as h1 h2)
    · cases h
  | .lst as, e, h => by
    simp only [ckE] at h
    split at h
    · obtain ⟨h1, h2⟩ := pairB h
      exact d_lst (sA hG hX hW tk as h1 h2)
    · cases h
  | .lstM as, e, h => by
    simp only [ckE] at h
    split at h
    · obtain ⟨h1, h2⟩ := pairB h
      exact d_lstM (sA hG hX hW tk as h1 h2)
    · cases h
  | .ix a b, e, h => by
    simp only [ckE] at h
    split at h
    · obtain ⟨h1, h2⟩ := pairB h
      obtain ⟨h2, h3⟩ := pairB h2
      exact d_ix (sE hG hX hW tk a h2) (sE hG hX hW tk b h3) (plainIx_of h1) hX.K.symm
    · cases h
  | .dget a b, e, h => by
    simp only [ckE] at h
    split at h
    · obtain ⟨h1, h2⟩ := pairB h
      obtain ⟨h2, h3⟩ := pairB h2
      exact d_dget (by have := units_of hX; omega) (sE hG hX hW tk a h2) (sE hG hX hW tk b h3) (noSl_of h1)
    · cases h
  | .sl a lo hi, e, h => by
    simp only [ckE] at h
    split at h
    · obtain ⟨h1, h2⟩ := pairB h
      obtain ⟨h2, h3⟩ := pairB h2
      exact d_slice (sE hG hX hW tk a h1) (sP hG hX hW tk lo h2) (sP hG hX hW tk hi h3) hX.K.symm
    · cases h
  | .rev a, e, h => by
    simp only [ckE] at h
    split at h
    · exact d_rev (sE hG hX hW tk a h) hX.K
    · cases h
  | .bi b as, e, h => by
    simp only [ckE] at h
    split at h
    · rename_i x q es pos
      obtain ⟨h1, h2⟩ := pairB h
      obtain ⟨h2, h3⟩ := pairB h2
      obtain ⟨h3, h4⟩ := pairB h3
      obtain ⟨h4, h5⟩ := pairB h4
      cases of_decide_eq_true h1
      obtain ⟨g1, g2⟩ := free_of hX hG h2
      cases es with
      | nil => cases h3
      | cons y ys => exact bi_ok hX.calm hX.room.gd (by have := hX.room.un; omega) hX.K hG.kk hG.ke b g1 g2 (sA hG hX hW tk as h4 h5) h4
    · cases h
  | .lenO i a, e, h => by
    simp only [ckE] at h
    split at h
    · obtain ⟨h0, h⟩ := pairB h
      obtain ⟨h1, h2⟩ := pairB h
      obtain ⟨h2, h3⟩ := pairB h2
      obtain ⟨h3, h4⟩ := pairB h3
      obtain ⟨h4, h5⟩ := pairB h4
      cases of_decide_eq_true h1
      obtain ⟨E, rfl⟩ := hW (not_true h0)
      exact s_lenO hG hX tk h2 h3 h4 (sE hG hX hW tk a h5)
    · cases h
  | .bm m o as, e, h => by
    simp only [ckE] at h
    split at h
    · obtain ⟨h1, h2⟩ := pairB h
      obtain ⟨h2, h3⟩ := pairB h2
      obtain ⟨h3, h4⟩ := pairB h3
      obtain ⟨h4, h5⟩ := pairB h4
      obtain ⟨h5, h6⟩ := pairB h5
      obtain ⟨h6, h7⟩ := pairB h6
      cases of_decide_eq_true h1
      exact d_bmG hX.calm hX.K m (sE hG hX hW tk o h6) (sA hG hX hW tk as h3 h7) (fun z => by
        subst z
        cases as with
        | nil => rfl
        | cons _ _ => simp only [ckA] at h7; cases h7) h2 h3 (of_decide_eq_true h4) h5
    · cases h
  | .call i as ks, e, h => by
    simp only [ckE] at h
    split at h
    · obtain ⟨h1, h2⟩ := pairB h
      obtain ⟨h2, h3⟩ := pairB h2
      obtain ⟨h3, h4⟩ := pairB h3
      obtain ⟨h4, h5⟩ := pairB h4
      obtain ⟨h5, h6⟩ := pairB h5
      obtain ⟨h6, h7⟩ := pairB h6
      exact s_call hG hX tk h1 h2 h3 h4 h5 (sA hG hX hW tk as h4 h6) (fun z => by
        subst z
        cases as with
        | nil => rfl
        | cons _ _ => simp only [ckA] at h6; cases h6) (sKw hG hX hW tk ks h7)
    · cases h
  | .meth i o as ks, e, h => by
    simp only [ckE] at h
    split at h
    · obtain ⟨h1, h2⟩ := pairB h
      obtain ⟨h2, h3⟩ := pairB h2
      obtain ⟨h3, h4⟩ := pairB h3
      obtain ⟨h4, h5⟩ := pairB h4
      obtain ⟨h5, h6⟩ := pairB h5
      obtain ⟨h6, h7⟩ := pairB h6
      obtain ⟨h7, h8⟩ := pairB h7
      obtain ⟨h8, h9⟩ := pairB h8
      exact s_meth hG hX tk h1 h2 h3 (of_decide_eq_true h4) h5 h6 (sE hG hX hW tk o h7) (sA hG hX hW tk as h5 h8) (fun z => by
        subst z
        cases as with
        | nil => rfl
        | cons _ _ => simp only [ckA] at h8; cases h8) (sKw hG hX hW tk ks h9)
    · cases h
  | .mk i as ks, e, h => by
    simp only [ckE] at h
    split at h
    · obtain ⟨h1, h2⟩ := pairB h
      obtain ⟨h2, h3⟩ := pairB h2
      obtain ⟨h3, h4⟩ := pairB h3
      obtain ⟨h4, h5⟩ := pairB h4
      obtain ⟨h5, h6⟩ := pairB h5
      obtain ⟨h6, h7⟩ := pairB h6
      exact s_make hG hX tk h1 h2 h3 h4 h5 (sA hG hX hW tk as h4 h6) (fun z => by
        subst z
        cases as with
        | nil => rfl
        | cons _ _ => simp only [ckA] at h6; cases h6) (sKw hG hX hW tk ks h7)
    · cases h
  | .fld cs f o, e, h => by
    simp only [ckE] at h
    split at h
    · obtain ⟨h1, h2⟩ := pairB h
      obtain ⟨h2, h3⟩ := pairB h2
      obtain ⟨h3, h4⟩ := pairB h3
      cases of_decide_eq_true h1
      exact d_fld (sE hG hX hW tk o h4) (fun c hc => by
        have z := hG.fld (c, f) (by simpa using List.all_eq_true.mp h3 c hc)
        rw [hX.K]; exact z) (base_of h2)
    · cases h
  | .fldX cs f o, e, h => by
    simp only [ckE] at h
    split at h
    · obtain ⟨h1, h2⟩ := pairB h
      obtain ⟨h2, h3⟩ := pairB h2
      obtain ⟨h3, h4⟩ := pairB h3
      cases of_decide_eq_true h1
      exact d_fldX (sE hG hX hW tk o h4) (fun c hc => by
        have z := hG.fldX (c, f) (by simpa using List.all_eq_true.mp h3 c hc)
        rw [hX.K]; exact z) (base_of h2)
    · cases h
  | .lc cell it g t el own, e, h => by
    simp only [ckE] at h
    split at h
    · rename_i x tg iter ifs scope pos
      obtain ⟨h1, h2⟩ := pairB h
      obtain ⟨h2, h3⟩ := pairB h2
      obtain ⟨h3, h4⟩ := pairB h3
      obtain ⟨h4, h5⟩ := pairB h4
      obtain ⟨h5, h6⟩ := pairB h5
      obtain ⟨h6, h7⟩ := pairB h6
      have bx : ∀ (s : Shared) (H : Hp) (Ca : Addr) (cl : List (Str × Addr)) (fp : List Addr), XOk C w Γ (L.blk scope) (X.blk s H scope (compEnvC scope cl Ca X.env) fp) := fun s H Ca cl fp => hX.blkX s H scope cl Ca fp
      exact d_lc hX.calm (by rw [hX.N]; exact hG.nd) (sI hG hX hW tk it h1) (by rw [hX.N, hX.sc]; exact blkOk_by h3) (fun s H Ca cl fp => sG hG (bx s H Ca cl fp) g h4) (fun fr => gdG fr g)
        (fun t ht => by simpa using List.all_eq_true.mp h5 t ht)
        (fun s H Ca cl fp => by
          cases hy : t.isYes with
          | true =>
            rw [hy, if_pos rfl] at h6
            cases ifs with
            | nil =>
              have ey : t = .yes := by cases t <;> first | rfl | cases hy
              subst ey
              exact tests_nil
            | cons _ _ => cases h6
          | false =>
            rw [hy, if_neg (by decide)] at h6
            split at h6
            · exact tests_one (sT hG (bx s H Ca cl fp) (fun _ => w0_wv) takes_blk t h6)
            · cases h6)
        (fun s H Ca cl fp => sE hG (bx s H Ca cl fp) (fun _ => w0_wv) takes_blk el h7) (folded_of h2)
    · cases h
  | .lc2 cell it g t it1 g1 t1 el own vs1, e, h => by
    simp only [ckE] at h
    split at h
    · rename_i x tg iter ifs tg1 iter1 ifs1 scope pos
      obtain ⟨h1, h2⟩ := pairB h
      obtain ⟨h2, h3⟩ := pairB h2
      obtain ⟨h3, h4⟩ := pairB h3
      obtain ⟨h4, h5⟩ := pairB h4
      obtain ⟨h5, h6⟩ := pairB h5
      obtain ⟨h6, h7⟩ := pairB h6
      obtain ⟨h7, h8⟩ := pairB h7
      obtain ⟨h8, h9⟩ := pairB h8
      obtain ⟨h9, h10⟩ := pairB h9
      obtain ⟨h10, h11⟩ := pairB h10
      obtain ⟨h11, h12⟩ := pairB h11
      obtain ⟨h12, h13⟩ := pairB h12
      have bx : ∀ (s : Shared) (H : Hp) (Ca : Addr) (cl : List (Str × Addr)) (fp : List Addr), XOk C w Γ (L.blk scope) (X.blk s H scope (compEnvC scope cl Ca X.env) fp) := fun s H Ca cl fp => hX.blkX s H scope cl Ca fp
      exact d_lc2 hX.calm (by rw [hX.N]; exact hG.nd) (sI hG hX hW tk it h1) (by rw [hX.N, hX.sc]; exact blkOk_by h3) (fun t ht => by simpa using List.all_eq_true.mp h12 t ht) (fun s H Ca cl fp => sG hG (bx s H Ca cl fp) g h4) (fun fr => gdG fr g)
        (fun t ht => by simpa using List.all_eq_true.mp h5 t ht)
        (fun s H Ca cl fp => by
          cases hy : t.isYes with
          | true =>
            rw [hy, if_pos rfl] at h6
            cases ifs with
            | nil =>
              have ey : t = .yes := by cases t <;> first | rfl | cases hy
              subst ey
              exact tests_nil
            | cons _ _ => cases h6
          | false =>
            rw [hy, if_neg (by decide)] at h6
            split at h6
            · exact tests_one (sT hG (bx s H Ca cl fp) (fun _ => w0_wv) takes_blk t h6)
            · cases h6)
        (fun s H Ca cl fp => sI hG (bx s H Ca cl fp) (fun _ => w0_wv) takes_blk it1 h8)
        (fun s H Ca cl fp => sG hG (bx s H Ca cl fp) g1 h10) (fun fr => gdG fr g1)
        (fun t ht => by simpa using List.all_eq_true.mp h11 t ht)
        (fun s H Ca cl fp => by
          cases hy : t1.isYes with
          | true =>
            rw [hy, if_pos rfl] at h13
            cases ifs1 with
            | nil =>
              have ey : t1 = .yes := by cases t1 <;> first | rfl | cases hy
              subst ey
              exact tests_nil
            | cons _ _ => cases h13
          | false =>
            rw [hy, if_neg (by decide)] at h13
            split at h13
            · exact tests_one (sT hG (bx s H Ca cl fp) (fun _ => w0_wv) takes_blk t1 h13)
            · cases h13)
        (fun s H Ca cl fp => sE hG (bx s H Ca cl fp) (fun _ => w0_wv) takes_blk el h7) (folded_of h2) (fun env x => folded_of h9 x)
    · cases h
  | .ask i, e, h => by
    simp only [ckE] at h
    split at h
    · obtain ⟨h1, h2⟩ := pairB h
      obtain ⟨h2, h3⟩ := pairB h2
      cases of_decide_eq_true h1
      exact hX.ask _ (of_decide_eq_true h2) (by simpa using h3) W X.pn X.xe _ _ tk
    · cases h
  | .lam g b, e, h => by
    simp only [ckE] at h
    split at h
    · rename_i x p1 params body scope p2 p3
      obtain ⟨a0, b0⟩ := pairB h
      obtain ⟨a1, b1⟩ := pairB b0
      obtain ⟨a2, b2⟩ := pairB b1
      obtain ⟨a3, b3⟩ := pairB b2
      obtain ⟨a4, b4⟩ := pairB b3
      obtain ⟨a5, b5⟩ := pairB b4
      obtain ⟨a6, b6⟩ := pairB b5
      obtain ⟨a7, a8⟩ := pairB b6
      obtain ⟨E, rfl⟩ := hW (not_true a0)
      split at a3
      · rename_i l hl
        have ex := of_decide_eq_true a3
        subst ex
        have z := s_lam (p := p1) (lpos := p2) (pos := p3) (m := evE Γ b) hG hX tk hl a1 (Option.isNone_iff_eq_none.mp a2) a4 a5 a6 a7 (fun w' A outer s H E f c' wK wC hx tk' => sE (GamOk.wx hG wK wC) hx (fun _ => ⟨_, rfl⟩) tk' b a8)
        simp only [evE, hl]
        exact z
      · cases a3
    · cases h
  | .dnew cell, e, h => by
    simp only [ckE] at h
    split at h
    · exact d_dnew
    · cases h
  | .dicM ps, e, h => by
    simp only [ckE] at h
    split at h
    · obtain ⟨h1, h2⟩ := pairB h
      obtain ⟨h2, h3⟩ := pairB h2
      obtain ⟨k1, k2, k3⟩ := sPs hG hX hW tk ps h3
      exact d_dicM k1 k2 k3 (by intro z; subst z; cases h2) (of_decide_eq_true h1)
    · cases h
  | .dicD ps, e, h => by
    simp only [ckE] at h
    split at h
    · obtain ⟨h1, h2⟩ := pairB h
      obtain ⟨h2, h3⟩ := pairB h2
      obtain ⟨k1, k2, k3⟩ := sPs hG hX hW tk ps h3
      exact d_dicD k1 k2 k3 (by intro z; subst z; cases h2) (of_decide_eq_true h1)
    · cases h
  | .no, e, h => by simp only [ckE] at h; cases h
theorem sP {w : Wd} (hG : GamOk C w Γ) {L : Lv} {X : Cx} (hX : XOk C w Γ L X) {W : WX} (hW : L.tr = false → ∃ E, W = WV E) (tk : Takes X W) : ∀ (c : CO) {e : Option Expr}, ckP Γ L c e = true → PO X e (rdO w W (evP Γ c))
  | .no, e, h => by
    simp only [ckP] at h
    cases e with
    | none => exact o_none
    | some _ => cases h
  | .som c, e, h => by
    simp only [ckP] at h
    split at h
    · exact o_some (sE hG hX hW tk c h)
    · cases h
theorem sA {w : Wd} (hG : GamOk C w Γ) {L : Lv} {X : Cx} (hX : XOk C w Γ L X) {W : WX} (hW : L.tr = false → ∃ E, W = WV E) (tk : Takes X W) : ∀ (c : CA) {es : List Expr}, plainArgs es = true → ckA Γ L c es = true → PA X es (rdA w W (evA Γ c))
  | .nil, es, _, h => by
    simp only [ckA] at h
    cases es with
    | nil => exact a_nil
    | cons _ _ => cases h
  | .cons a r, [], _, h => by simp only [ckA] at h; cases h
  | .cons a r, e :: es, ns, h => by
    simp only [ckA] at h
    obtain ⟨h1, h2⟩ := pairB h
    obtain ⟨n1, n2⟩ := plainArgs_cons ns
    exact a_cons (sE hG hX hW tk a h1) (sA hG hX hW tk r n2 h2) (star_cons n1)
theorem sKw {w : Wd} (hG : GamOk C w Γ) {L : Lv} {X : Cx} (hX : XOk C w Γ L X) {W : WX} (hW : L.tr = false → ∃ E, W = WV E) (tk : Takes X W) : ∀ (c : CA) {kws : List Keyword}, ckA Γ L c (kwVals kws) = true → PKd X w W kws (evA Γ c)
  | .nil, kws, h => by
    simp only [ckA] at h
    cases kws with
    | nil => exact k_nil
    | cons _ _ => cases h
  | .cons a r, [], h => by simp only [ckA, kwVals, List.map_nil] at h; cases h
  | .cons a r, ⟨n, e, p⟩ :: kws, h => by
    simp only [ckA, kwVals, List.map_cons] at h
    obtain ⟨h1, h2⟩ := pairB h
    exact k_cons (sE hG hX hW tk a h1) (sKw hG hX hW tk r h2)
theorem sPs {w : Wd} (hG : GamOk C w Γ) {L : Lv} {X : Cx} (hX : XOk C w Γ L X) {W : WX} (hW : L.tr = false → ∃ E, W = WV E) (tk : Takes X W) {pos : Pos} : ∀ (c : CP) {ks : List (Option Expr)} {vs : List Expr}, ckPs Γ L c ks vs = true →
    PPs X pos ks vs ((evPs Γ c).map fun p => (rdE w W p.1, rdE w W p.2)) ∧ ks.all (·.isSome) = true ∧ ks.length = vs.length
  | .nil, ks, vs, h => by
    simp only [ckPs] at h
    obtain ⟨h1, h2⟩ := pairB h
    cases ks with
    | nil =>
      cases vs with
      | nil => exact ⟨pps_nil, rfl, rfl⟩
      | cons _ _ => cases h2
    | cons _ _ => cases h1
  | .cons k v r, ks, vs, h => by
    simp only [ckPs] at h
    split at h
    · obtain ⟨h1, h2⟩ := pairB h
      obtain ⟨h2, h3⟩ := pairB h2
      obtain ⟨k1, k2, k3⟩ := sPs hG hX hW tk (pos := pos) r h3
      refine ⟨?_, ?_, ?_⟩
      · show PPs X pos _ _ ((rdE w W (evE Γ k), rdE w W (evE Γ v)) :: (evPs Γ r).map fun p => (rdE w W p.1, rdE w W p.2))
        exact pps_cons (sE hG hX hW tk k h1) (sE hG hX hW tk v h2) k1
      · rw [List.all_cons, k2]; rfl
      · rw [List.length_cons, List.length_cons, k3]
    · cases h
theorem sAnd {w : Wd} (hG : GamOk C w Γ) {L : Lv} {X : Cx} (hX : XOk C w Γ L X) {W : WX} (hW : L.tr = false → ∃ E, W = WV E) (tk : Takes X W) {pos : Pos} : ∀ (c : CA) {es : List Expr}, ckA Γ L c es = true → es ≠ [] → PE X (.BoolOp .And es pos) (rdE w W (evAnd Γ c))
  | .nil, es, h, n => by
    simp only [ckA] at h
    cases es with
    | nil => exact absurd rfl n
    | cons _ _ => cases h
  | .cons a r, [], h, n => absurd rfl n
  | .cons a .nil, e :: es, h, _ => by
    simp only [ckA] at h
    obtain ⟨h1, h2⟩ := pairB h
    cases es with
    | nil => exact d_one (sE hG hX hW tk a h1)
    | cons _ _ => cases h2
  | .cons a (.cons b r), e :: es, h, _ => by
    simp only [ckA] at h
    obtain ⟨h1, h2⟩ := pairB h
    cases es with
    | nil => cases h2
    | cons e2 es =>
      have z := sAnd hG hX hW tk (pos := pos) (.cons b r) (es := e2 :: es) (by simp only [ckA]; exact h2) (by simp)
      exact d_and (sE hG hX hW tk a h1) z
theorem sOr {w : Wd} (hG : GamOk C w Γ) {L : Lv} {X : Cx} (hX : XOk C w Γ L X) {W : WX} (hW : L.tr = false → ∃ E, W = WV E) (tk : Takes X W) {pos : Pos} : ∀ (c : CA) {es : List Expr}, ckA Γ L c es = true → es ≠ [] → PE X (.BoolOp .Or es pos) (rdE w W (evOr Γ c))
  | .nil, es, h, n => by
    simp only [ckA] at h
    cases es with
    | nil => exact absurd rfl n
    | cons _ _ => cases h
  | .cons a r, [], h, n => absurd rfl n
  | .cons a .nil, e :: es, h, _ => by
    simp only [ckA] at h
    obtain ⟨h1, h2⟩ := pairB h
    cases es with
    | nil => exact d_one (sE hG hX hW tk a h1)
    | cons _ _ => cases h2
  | .cons a (.cons b r), e :: es, h, _ => by
    simp only [ckA] at h
    obtain ⟨h1, h2⟩ := pairB h
    cases es with
    | nil => cases h2
    | cons e2 es =>
      have z := sOr hG hX hW tk (pos := pos) (.cons b r) (es := e2 :: es) (by simp only [ckA]; exact h2) (by simp)
      exact d_or (sE hG hX hW tk a h1) z
theorem sT {w : Wd} (hG : GamOk C w Γ) {L : Lv} {X : Cx} (hX : XOk C w Γ L X) {W : WX} (hW : L.tr = false → ∃ E, W = WV E) (tk : Takes X W) : ∀ (c : CT) {e : Expr}, ckT Γ L c e = true → PT X e (rdT w W (evT Γ c))
  | .yes, e, h => by simp only [ckT] at h; cases h
  | .val a, e, h => by
    simp only [ckT] at h
    obtain ⟨h1, h2⟩ := pairB h
    exact t_val (sE hG hX hW tk a h2) (test_of h1)
  | .isN neg a, e, h => by
    simp only [ckT] at h
    split at h
    · obtain ⟨h1, h2⟩ := pairB h
      exact t_isNn (op_eq h1) (sE hG hX hW tk a h2)
    · cases h
  | .eqO neg i a b, e, h => by
    simp only [ckT] at h
    split at h
    · obtain ⟨h0, h⟩ := pairB h
      obtain ⟨h1, h2⟩ := pairB h
      obtain ⟨h2, h3⟩ := pairB h2
      obtain ⟨h3, h4⟩ := pairB h3
      obtain ⟨E, rfl⟩ := hW (not_true h0)
      exact s_eqOT hG hX tk (op_eq h1) h2 (sE hG hX hW tk a h3) (sE hG hX hW tk b h4)
    · cases h
  | .cmp o a b, e, h => by
    simp only [ckT] at h
    split at h
    · obtain ⟨h1, h2⟩ := pairB h
      obtain ⟨h2, h3⟩ := pairB h2
      obtain ⟨h3, h4⟩ := pairB h3
      cases op_eq h1
      obtain ⟨r, k1, k2⟩ := ck_ok (w := w) hX.K (units_of hX) o
      exact t_cmp k1 k2 (sE hG hX hW tk a h3) (sE hG hX hW tk b h4) (not_true h2)
    · cases h
  | .chn o o' a b c, e, h => by
    simp only [ckT] at h
    split at h
    · obtain ⟨h1, h2⟩ := pairB h
      obtain ⟨h2, h3⟩ := pairB h2
      obtain ⟨h3, h4⟩ := pairB h3
      obtain ⟨h4, h5⟩ := pairB h4
      obtain ⟨h5, h6⟩ := pairB h5
      cases op_eq h1
      cases op_eq h2
      exact (chn_of (Γ := Γ) (L := L) hX.K (not_true h3) (sE hG hX hW tk a h4) (sE hG hX hW tk b h5) (sE hG hX hW tk c h6)).2
    · cases h
  | .and ts, e, h => by
    simp only [ckT] at h
    split at h
    · exact t_pw (sTAnd hG hX hW tk ts h)
    · cases h
  | .or ts, e, h => by
    simp only [ckT] at h
    split at h
    · exact t_pw (sTOr hG hX hW tk ts h)
    · cases h
  | .not t, e, h => by
    simp only [ckT] at h
    split at h
    · exact t_not (sT hG hX hW tk t h)
    · cases h
theorem sTAnd {w : Wd} (hG : GamOk C w Γ) {L : Lv} {X : Cx} (hX : XOk C w Γ L X) {W : WX} (hW : L.tr = false → ∃ E, W = WV E) (tk : Takes X W) {pos : Pos} : ∀ (c : CTs) {es : List Expr}, ckTl Γ L c es = true → PW X (.BoolOp .And es pos) (rdT w W (evTAnd Γ c))
  | .one t, es, h => by
    simp only [ckTl] at h
    split at h
    · exact w_and1 (sT hG hX hW tk t h)
    · cases h
  | .cons t r, es, h => by
    simp only [ckTl] at h
    split at h
    · obtain ⟨h1, h2⟩ := pairB h
      exact w_and (sT hG hX hW tk t h1) (sTAnd hG hX hW tk r h2)
    · cases h
theorem sTOr {w : Wd} (hG : GamOk C w Γ) {L : Lv} {X : Cx} (hX : XOk C w Γ L X) {W : WX} (hW : L.tr = false → ∃ E, W = WV E) (tk : Takes X W) {pos : Pos} : ∀ (c : CTs) {es : List Expr}, ckTl Γ L c es = true → PW X (.BoolOp .Or es pos) (rdT w W (evTOr Γ c))
  | .one t, es, h => by
    simp only [ckTl] at h
    split at h
    · exact w_or1 (sT hG hX hW tk t h)
    · cases h
  | .cons t r, es, h => by
    simp only [ckTl] at h
    split at h
    · obtain ⟨h1, h2⟩ := pairB h
      exact w_or (sT hG hX hW tk t h1) (sTOr hG hX hW tk r h2)
    · cases h
theorem sI {w : Wd} (hG : GamOk C w Γ) {L : Lv} {X : Cx} (hX : XOk C w Γ L X) {W : WX} (hW : L.tr = false → ∃ E, W = WV E) (tk : Takes X W) : ∀ (c : CI) {tg e : Expr}, ckI Γ L c tg e = true → PI X tg e (rdI w W (evI Γ c))
  | .seq a, tg, e, h => by
    simp only [ckI] at h
    exact i_seq (sE hG hX hW tk a h) hX.K.symm
  | .rng1 a, tg, e, h => by
    simp only [ckI] at h
    split at h
    · obtain ⟨h1, h2⟩ := pairB h
      obtain ⟨h2, h3⟩ := pairB h2
      obtain ⟨h3, h4⟩ := pairB h3
      cases of_decide_eq_true h1
      obtain ⟨g1, g2⟩ := free_of hX hG h2
      exact i_range1 g1 g2 (a_cons (sE hG hX hW tk a h4) a_nil (star_cons h3)) (star_cons h3)
    · cases h
  | .rng2 a b, tg, e, h => by
    simp only [ckI] at h
    split at h
    · obtain ⟨h1, h2⟩ := pairB h
      obtain ⟨h2, h3⟩ := pairB h2
      obtain ⟨h3, h4⟩ := pairB h3
      obtain ⟨h4, h5⟩ := pairB h4
      obtain ⟨h5, h6⟩ := pairB h5
      cases of_decide_eq_true h1
      obtain ⟨g1, g2⟩ := free_of hX hG h2
      exact i_range2 g1 g2 (a_cons (sE hG hX hW tk a h5) (a_cons (sE hG hX hW tk b h6) a_nil (star_cons h4)) (star_cons h3)) (by rw [star_cons h3, star_cons h4]; rfl) (star_cons h4)
    · cases h
  | .zip a b, tg, e, h => by
    simp only [ckI] at h
    split at h
    · obtain ⟨h1, h2⟩ := pairB h
      obtain ⟨h2, h3⟩ := pairB h2
      obtain ⟨h3, h4⟩ := pairB h3
      obtain ⟨h4, h5⟩ := pairB h4
      obtain ⟨h5, h6⟩ := pairB h5
      cases of_decide_eq_true h1
      obtain ⟨g1, g2⟩ := free_of hX hG h2
      exact i_zip g1 g2 (a_cons (sE hG hX hW tk a h5) (a_cons (sE hG hX hW tk b h6) a_nil (star_cons h4)) (star_cons h3)) hX.K.symm (star_cons h3) (by
        rw [star_cons h4]; rfl)
    · cases h
  | .enum a, tg, e, h => by
    simp only [ckI] at h
    split at h
    · obtain ⟨h1, h2⟩ := pairB h
      obtain ⟨h2, h3⟩ := pairB h2
      obtain ⟨h3, h4⟩ := pairB h3
      cases of_decide_eq_true h1
      obtain ⟨g1, g2⟩ := free_of hX hG h2
      exact i_enum g1 g2 (a_cons (sE hG hX hW tk a h4) a_nil (star_cons h3)) hX.K.symm (star_cons h3)
    · cases h
end
end DL

/-! Statements: more rules on data; stores that are exchanged. -/
namespace DL
open PySem PySem.Spec PyProof.Rows L2
variable {w : Wd}
section
variable {X : Cx} {W : WX} {E : XK} {e a b c o i value : Expr} {es : List Expr} {pos pos' p : Pos} {ma mb me mo mk : EM} {mr : AM}
/-- x += e -/
def mAug (f : D → D → List M → ER) (i : Nat) (m : EM) : SM := fun δ μ => match δ[i]? with
  | some (some x) => (m δ μ).bindS δ fun y μ => (f x y μ).bindS δ fun z μ => .nx (δ.set i (some z)) μ
  | _ => .bad
def fAddI (x y : D) (μ : List M) : ER := match x, y with
  | .int i, .int j => .ok (.int (i + j)) μ
  | _, _ => .bad
def fSubI (x y : D) (μ : List M) : ER := match x, y with
  | .int i, .int j => .ok (.int (i - j)) μ
  | _, _ => .bad
theorem s_augI {i : Nat} {x : Str} {op : Operator} {g : Int → Int → Int} {f : D → D → List M → ER} (hf2 : ∀ x y μ, f x y μ = match x, y with | .int i, .int j => .ok (.int (g i j)) μ | _, _ => .bad) (hN : X.N.Nodup) (hi : X.N[i]? = some x) (hx : L2.Loc X.env.scope x) (he : PE X e (rdE w W me)) (ho : PIp X op (ipI g)) (hf : X.fn x = true ∨ X.env.scope.names.lookup x = some .local) :
    PS X (.AugAssign (.Name x pos') op e pos) (rdS w W (mAug f i me)) :=
  PS.to (ps_aug hN hi hx he ho hf) fun D σ H ⟨fr, as, δ, μ, h, q⟩ => by
    unfold mAug at q
    cases z : δ[i]? with
    | none => rw [z] at q; exact q.elim
    | some o =>
      cases o with
      | none => rw [z] at q; exact q.elim
      | some d =>
        rw [z] at q
        obtain ⟨v, hv, hd⟩ := h.sl.get i d z
        refine ⟨v, hv, bESx h q fun vy H1 as1 y μ1 e1 h1 d1 q1 => ?_⟩
        have hd1 := hd.ext e1
        rw [hf2] at q1
        cases hd1 with
        | int n =>
          cases d1 with
          | int k => exact ⟨n, k, rfl, rfl, q1 _ H1 as1 Ext.refl ⟨h1.rel, h1.sl.set (.int _) i⟩⟩
          | _ => exact q1.elim
        | _ => exact q1.elim
/-- l[k] = e, l a cell -/
def mLPut (mo mk me : EM) : SM := fun δ μ => (me δ μ).bindS δ fun d μ => (mo δ μ).bindS δ fun o μ => (mk δ μ).bindS δ fun k μ => match o, k with
  | .loc n, .int k => match μ[n]? with
    | some (.lst l) => match ixN l.length k with
      | some j => .nx δ (μ.set n (.lst (l.set j d)))
      | none => .bad
    | _ => .bad
  | _, _ => .bad
theorem s_lput (ho : PE X o (rdE w W mo)) (hi : PE X i (rdE w W mk)) (hv : PE X value (rdE w W me)) (hsl : noSlice i = true) (hs : swapsWith value (some (.Subscript o i pos')) pos.line X.env = pure false) : PS X (.Assign [.Subscript o i pos'] value pos) (rdS w W (mLPut mo mk me)) := by
  refine PS.to (ps_asg hv (pg_sub ho hi set_list fun v => ?_) hs (by rfl) (by rfl)) fun E σ H ⟨fr, as, δ, μ, h, q⟩ => bESx h q fun v H1 as1 d μ1 _ h1 d1 q1 => bESx h1 q1 fun ov H2 as2 o μ2 e2 h2 o2 q2 => bESx h2 q2 fun kv H3 as3 k μ3 e3 h3 k3 q3 => ?_
  · cases i <;> first | rfl | cases hsl
  · have o3 := o2.ext e3
    cases o3 with
    | @loc a n hn =>
      cases k3 with
      | int kk =>
        dsimp only at q3
        cases z2 : μ3[n]? with
        | none => rw [z2] at q3; exact q3.elim
        | some m =>
          cases m with
          | lst l =>
            simp only [z2] at q3
            cases z3 : ixN l.length kk with
            | none => simp only [z3] at q3; exact q3.elim
            | some j =>
              simp only [z3] at q3
              obtain ⟨vs, g1, g2⟩ := h3.rel.cell n a _ hn z2
              have dd := (d1.ext e2).ext e3
              have ha : a ∈ as3 := List.mem_of_getElem? hn
              have ew : Ext as3 H3 (upd H3 a (.lst (vs.set j v))) as3 := Ext.write ha
              exact ⟨a, vs, kk, j, rfl, rfl, g1, by rw [g2.length]; exact z3, q3 σ _ as3 ew ⟨h3.rel.write hn ⟨_, upd_same, (Dens.set dd j g2).ext ew⟩, h3.sl.ext ew⟩⟩
          | _ => rw [z2] at q3; exact q3.elim
      | _ => exact q3.elim
    | _ => exact q3.elim
/-- three at once -/
def mPar3 (i j l : Nat) (m : AM) : SM := fun δ μ => (m δ μ).bindS δ fun ds μ => match ds with
  | [x, y, z] => .nx (((δ.set i (some x)).set j (some y)).set l (some z)) μ
  | _ => .bad
theorem s_par3 {i j l : Nat} {x y z : Str} {m : AM} {px py pz pt pos : Pos} {kt k2 pt2} (hc : X.calm = true) (hN : X.N.Nodup) (hi : X.N[i]? = some x) (hj : X.N[j]? = some y) (hl : X.N[l]? = some z) (hij : i ≠ j) (hil : i ≠ l) (hjl : j ≠ l)
    (hx : X.env.scope.names.lookup x = some .local) (hy : X.env.scope.names.lookup y = some .local) (hz : X.env.scope.names.lookup z = some .local) (ha : PA X [a, b, c] (rdA w W m))
    (hw : swappedStores [.Tuple [.Name x px, .Name y py, .Name z pz] kt pt] (.Tuple [a, b, c] k2 pt2) X.env = pure (some [x, y, z])) :
    PS X (.Assign [.Tuple [.Name x px, .Name y py, .Name z pz] kt pt] (.Tuple [a, b, c] k2 pt2) pos) (rdS w W (mPar3 i j l m)) :=
  PS.to (ps_par3 hc hN hi hj hl hij hil hjl hx hy hz ha hw) fun D σ H ⟨fr, as, δ, μ, h, q⟩ => bAS h q fun vs H1 as1 ds μ1 h1 d1 q1 => by
    match ds, d1, q1 with
    | [], _, q1 => exact q1.elim
    | [_], _, q1 => exact q1.elim
    | [_, _], _, q1 => exact q1.elim
    | _ :: _ :: _ :: _ :: _, _, q1 => exact q1.elim
    | [x, y, z], .cons k1 (.cons k2 (.cons k3 .nil)), q1 => exact ⟨_, _, _, rfl, q1 _ H1 as1 Ext.refl ⟨h1.rel, ((h1.sl.set k1 i).set k2 j).set k3 l⟩⟩
end

/-! ### exchanged stores -/
def isStar : Expr → Bool
  | .Starred .. => true
  | _ => false
def nameOf (sc : Scope) (line : Nat) : Expr → Option Str
  | .Name id pos => if sc.names.lookup id == some .local && pos.line == line then some id else none
  | _ => none
/-- what swappedStores tells of a, b = x, y -/
def swC (sc : Scope) (ts vs : List Expr) : Option (Option (List Str)) :=
  if !(ts.length == 2 || ts.length == 3) || vs.length != ts.length then some none
  else if vs.any isStar then some none
  else if (ts.filterMap (nameOf sc ((ts.head?.map (·.pos.line)).getD 0))).length != ts.length || (ts.filterMap (nameOf sc ((ts.head?.map (·.pos.line)).getD 0))).eraseDups.length != (ts.filterMap (nameOf sc ((ts.head?.map (·.pos.line)).getD 0))).length then some none
  else if vs.all (foldedForSure 8) then some none
  else if vs.all (constantsAlone 8) then none
  else some (some (ts.filterMap (nameOf sc ((ts.head?.map (·.pos.line)).getD 0))))
def swBody (sc : Scope) (bad : Bool) (ts vs : List Expr) : Sem (Option (List Str)) := do
  if !(ts.length == 2 || ts.length == 3) || vs.length != ts.length || bad then return none
  if vs.any isStar then return none
  let line := (ts.head?.map (·.pos.line)).getD 0
  let names := ts.filterMap (nameOf sc line)
  if names.length != ts.length || names.eraseDups.length != names.length then return none
  if vs.all (foldedForSure 8) then return none
  if vs.all (constantsAlone 8) then unsupported "assign.tuple-of-constant-expressions:order-of-the-stores"
  return some names
theorem swBody_eq {env : Env} {ts vs : List Expr} {k k2 : Nat} {p p2 : Pos} : swappedStores [.Tuple ts k p] (.Tuple vs k2 p2) env = swBody env.scope (env.blockKind != .function) ts vs := rfl
theorem sw_of {env : Env} {ts vs : List Expr} {k k2 : Nat} {p p2 : Pos} {r : Option (List Str)} (hk : env.scope.kind = .function) (h : swC env.scope ts vs = some r) : swappedStores [.Tuple ts k p] (.Tuple vs k2 p2) env = pure r := by
  have hb : (env.blockKind != .function) = false := by unfold Env.blockKind; rw [hk]; rfl
  rw [swBody_eq, hb]
  unfold swBody
  unfold swC at h
  simp only [Bool.or_false]
  split at h
  · rename_i c
    cases h
    rw [if_pos c]
  · rename_i c
    rw [if_neg c]
    split at h
    · rename_i c1
      cases h
      rw [if_pos c1]
    · rename_i c1
      rw [if_neg c1]
      split at h
      · rename_i c2
        cases h
        rw [if_pos c2]
      · rename_i c2
        rw [if_neg c2]
        split at h
        · rename_i c3
          cases h
          rw [if_pos c3]
        · rename_i c3
          rw [if_neg c3]
          split at h
          · cases h
          · rename_i c4
            rw [if_neg c4]
            cases h
            rfl
def noPair : Expr → Expr → Bool
  | .Tuple .., .Tuple .. => false
  | .List .., .Tuple .. => false
  | _, _ => true
theorem sw_none {tg e : Expr} {env : Env} (h : noPair tg e = true) : swappedStores [tg] e env = pure none := by
  cases tg <;> first | rfl | (cases e <;> first | rfl | cases h)
/-- what swapsWith tells of name = [comprehension] -/
def swCo (sc : Scope) (y : Str) (py : Pos) (scope : Scope) (pos : Pos) : Bool :=
  sc.names.lookup y == some .local && py.line == pos.line && !(scope.names.any fun (n, k) => n == y && (k == .local || k == .cell))
theorem swl_of {env : Env} {elt : Expr} {gs : List Comprehension} {scope : Scope} {pos py : Pos} {y : Str} {l : Nat} (hk : env.scope.kind = .function) : swapsWith (.ListComp elt gs scope pos) (some (.Name y py)) l env = pure (swCo env.scope y py scope pos) := by
  have hb : (env.blockKind == .function) = true := by unfold Env.blockKind; rw [hk]; rfl
  unfold swapsWith swCo
  simp only [hb, Bool.true_and, Env.kindOf]
  rfl
end DL

/-! The core: statements, their soundness; a def of the core. -/
namespace DL
open PySem PySem.Spec PyProof.Rows L2

inductive AK where
  | add | sub
  deriving DecidableEq
def AK.op : AK → Operator
  | .add => .Add
  | .sub => .Sub
def AK.f : AK → D → D → List M → ER
  | .add => fAddI
  | .sub => fSubI
mutual
inductive CS where
  | nop
  | bad
  | expr (e : CE)
  | ret (e : CE)
  | retN
  | ite (t : CT) (a b : CSs)
  | asg (g : CG) (e : CE)
  | asgL (i : Nat) (e : CE)
  | par (i j : Nat) (as : CA)
  | par3 (i j k : Nat) (as : CA)
  | setF (cs : List Nat) (f : Str) (o e : CE)
  | dput (o k e : CE)
  | lput (o k e : CE)
  | aug (op : AK) (i : Nat) (e : CE)
  | loop (it : CI) (g : CG) (b : CSs)
  | whl (fuel : Nat) (t : CT) (b : CSs)
  | brk
  | cnt
  | rse (cn : Nat) (f : Str) (e : CE)
  | tryK (i : Nat) (x : Str) (b : CSs) (ps : List (Nat × Nat))
inductive CSs where
  | nil
  | cons (a : CS) (r : CSs)
end
def evPs2 : List (Nat × Nat) → SM
  | [] => mNext
  | [(j, i)] => mAsg (mVar i) (mgName j)
  | (j, i) :: r => mSeq (mAsg (mVar i) (mgName j)) (evPs2 r)
def Gam.catch (Γ : Gam) (x : Str) (c : Nat) : Option Bool := match Γ.cat.lookup x with
  | some t => t.lookup c
  | none => none
mutual
def evS (Γ : Gam) : CS → SM
  | .nop => mNext
  | .bad => mBad
  | .expr e => mDrop (evE Γ e)
  | .ret e => mRet (evE Γ e)
  | .retN => mRetN
  | .ite t a b => mIfS (evT Γ t) (evSs Γ a) (evSs Γ b)
  | .asg g e => mAsg (evE Γ e) (evG g)
  | .asgL i e => mAsg (evE Γ e) (mgName i)
  | .par i j as => mPar i j (evA Γ as)
  | .par3 i j k as => mPar3 i j k (evA Γ as)
  | .setF cs f o e => mSetF cs f (evE Γ o) (evE Γ e)
  | .dput o k e => mDPut (evE Γ o) (evE Γ k) (evE Γ e)
  | .lput o k e => mLPut (evE Γ o) (evE Γ k) (evE Γ e)
  | .aug op i e => mAug op.f i (evE Γ e)
  | .loop it g b => mFor (evI Γ it) (evG g) (evSs Γ b)
  | .whl fuel t b => whileGo (evT Γ t) (evSs Γ b) fuel
  | .brk => mBrk
  | .cnt => mCnt
  | .rse cn f e => mRaise cn f (evE Γ e)
  | .tryK i x b ps => mTry i (Γ.catch x) (evSs Γ b) (evPs2 ps)
def evSs (Γ : Gam) : CSs → SM
  | .nil => mNext
  | .cons a .nil => evS Γ a
  | .cons a r => mSeq (evS Γ a) (evSs Γ r)
end
/-- a store that is not exchanged -/
def asgOk (L : Lv) (tg e : Expr) : Bool :=
  notStar tg && ((noSwap e || match e, tg with
    | .ListComp _ _ scope lp, .Name y py => !swCo L.sc y py scope lp
    | _, _ => false) && (noPair tg e || match tg, e with
    | .Tuple ts _ _, .Tuple vs _ _ => decide (swC L.sc ts vs = some none)
    | _, _ => false))
def ckPs2 (Γ : Gam) (L : Lv) : List (Nat × Nat) → List Stmt → Bool
  | [], ss => ss.isEmpty
  | (j, i) :: r, ss => match ss with
    | .Assign [.Name y _] (.Name z _) _ :: ss => decide (Γ.N[j]? = some y) && (decide (Γ.N[i]? = some z) && (L.sto y && (L.vis z && (dbg z && ckPs2 Γ L r ss))))
    | _ => false
mutual
def ckS (Γ : Gam) (L : Lv) : CS → Stmt → Bool
  | .nop, s => match s with
    | .Pass _ => true
    | .Expr (.Constant (.str _) _ _) _ => true
    | _ => false
  | .bad, _ => !L.tr
  | .expr x, s => match s with
    | .Expr e _ => noSwap e && ckE Γ L x e
    | _ => false
  | .ret x, s => match s with
    | .Return (some e) _ => ckE Γ L x e
    | _ => false
  | .retN, s => match s with
    | .Return none _ => true
    | _ => false
  | .ite t a b, s => match s with
    | .If c x y _ => ckT Γ L t c && (ckSs Γ L a x && ckSs Γ L b y)
    | _ => false
  | .asg g x, s => match s with
    | .Assign [tg] e _ => asgOk L tg e && (ckG Γ L g tg && ckE Γ L x e)
    | _ => false
  | .asgL i x, s => match s, x with
    | .Assign [.Name y py] (.ListComp x [⟨tg, iter, ifs, 0⟩] scope lp) _, .lc cell it g t el own => decide (Γ.N[i]? = some y) && (swCo L.sc y py scope lp && (ckI Γ L it tg iter && (noSet iter && (blkC Γ.N L.sc scope own && (ckG Γ (L.blk scope) g tg && ((g.ts.all fun t => (own.map (·.2)).contains t) && ((if t.isYes then ifs.isEmpty else match ifs with | [e] => ckT Γ (L.blk scope) t e | _ => false) && ckE Γ (L.blk scope) el x)))))))
    | .Assign [.Name y py] (.ListComp x [⟨tg, iter, ifs, 0⟩, ⟨tg1, iter1, ifs1, 0⟩] scope lp) _, .lc2 cell it g t it1 g1 t1 el own vs1 => decide (Γ.N[i]? = some y) && (swCo L.sc y py scope lp && (ckI Γ L it tg iter && (noSet iter && (blkC Γ.N L.sc scope own && (ckG Γ (L.blk scope) g tg && ((g.ts.all fun t => (own.map (·.2)).contains t) && ((if t.isYes then ifs.isEmpty else match ifs with | [e] => ckT Γ (L.blk scope) t e | _ => false) && (ckE Γ (L.blk scope) el x &&
      (ckI Γ (L.blk scope) it1 tg1 iter1 && (noSet iter1 && (ckG Γ (L.blk scope) g1 tg1 && ((g1.ts.all fun t => vs1.contains t) && ((vs1.all fun t => (own.map (·.2)).contains t) && (if t1.isYes then ifs1.isEmpty else match ifs1 with | [e] => ckT Γ (L.blk scope) t1 e | _ => false))))))))))))))
    | _, _ => false
  | .par i j as, s => match s with
    | .Assign [.Tuple [.Name x px, .Name y py] k1 p1] (.Tuple [a, b] k2 p2) _ => decide (Γ.N[i]? = some x) && (decide (Γ.N[j]? = some y) && (decide (i ≠ j) && (decide (L.kd x = some .local) && (decide (L.kd y = some .local) && (decide (swC L.sc [.Name x px, .Name y py] [a, b] = some (some [x, y])) && (plainArgs [a, b] && ckA Γ L as [a, b]))))))
    | _ => false
  | .par3 i j k as, s => match s with
    | .Assign [.Tuple [.Name x px, .Name y py, .Name z pz] k1 p1] (.Tuple [a, b, c] k2 p2) _ => decide (Γ.N[i]? = some x) && (decide (Γ.N[j]? = some y) && (decide (Γ.N[k]? = some z) && (decide (i ≠ j) && (decide (i ≠ k) && (decide (j ≠ k) && (decide (L.kd x = some .local) && (decide (L.kd y = some .local) && (decide (L.kd z = some .local) && (decide (swC L.sc [.Name x px, .Name y py, .Name z pz] [a, b, c] = some (some [x, y, z])) && (plainArgs [a, b, c] && ckA Γ L as [a, b, c]))))))))))
    | _ => false
  | .setF cs f o x, s => match s with
    | .Assign [.Attribute y g _] e _ => decide (g = f) && (noSwap e && ((cs.all fun c => Γ.fld.contains (c, f)) && (ckE Γ L o y && ckE Γ L x e)))
    | _ => false
  | .dput o k x, s => match s with
    | .Assign [.Subscript y z _] e _ => noSwap e && (ckE Γ L o y && (ckE Γ L k z && ckE Γ L x e))
    | _ => false
  | .lput o k x, s => match s with
    | .Assign [.Subscript y z _] e _ => noSwap e && (noSlice z && (ckE Γ L o y && (ckE Γ L k z && ckE Γ L x e)))
    | _ => false
  | .aug op i x, s => match s with
    | .AugAssign (.Name y _) o e _ => decide (o = op.op) && (decide (Γ.N[i]? = some y) && (L.sto y && ckE Γ L x e))
    | _ => false
  | .loop it g b, s => match s with
    | .For tg iter body [] _ => ckI Γ L it tg iter && (noSet iter && (ckG Γ L g tg && ckSs Γ L b body))
    | _ => false
  | .whl _ t b, s => match s with
    | .While c body [] _ => ckT Γ L t c && ckSs Γ L b body
    | _ => false
  | .brk, s => match s with
    | .Break _ => true
    | _ => false
  | .cnt, s => match s with
    | .Continue _ => true
    | _ => false
  | .rse cn f x, s => match s with
    | .Raise (some (.Call (.Name y _) [a] [] _)) none _ => !L.tr && (Γ.rs.contains (y, cn, f) && (L.gl y && (dbg y && (notStar a && ckE Γ L x a))))
    | _ => false
  | .tryK i x b ps, s => match s with
    | .Try body [.ExceptHandler (some (.Name y _)) (some n) (s0 :: ss) _] [] [] _ => decide (y = x) && ((Γ.cat.lookup x).isSome && (L.gl y && (dbg y && (decide (Γ.N[i]? = some n) && (decide (L.kd n = some .local) && (ckSs Γ { L with tr := true } b body && ckPs2 Γ L ps (s0 :: ss)))))))
    | _ => false
def ckSs (Γ : Gam) (L : Lv) : CSs → List Stmt → Bool
  | .nil, ss => ss.isEmpty
  | .cons a r, ss => match ss with
    | s :: ss => ckS Γ L a s && ckSs Γ L r ss
    | [] => false
end
/-- what a statement's place has besides -/
structure XSt (L : Lv) (X : Cx) : Prop where
  bs : L.bs = none
  kd : L.sc.kind = .function
  po : PassesOwn (model X.prog X.w) X.A X.env X.xe
  stk : X.stack = X.env :: X.outer
  fr : X.env.frame = some X.env.locals
section
variable {C : Ctx} {w : Wd} {Γ : Gam} {L : Lv} {X : Cx} {W : WX}
theorem s_asgG (hX : XOk C w Γ L X) (hS : XSt L X) {tg e : Expr} {pos : Pos} {m : EM} {g : CG} (h : asgOk L tg e = true) (hg : PG X tg (tgG w.K g)) (he : PE X e (rdE w W m)) : PS X (.Assign [tg] e pos) (rdS w W (mAsg m (evG g))) := by
  unfold asgOk at h
  obtain ⟨h1, h2⟩ := pairB h
  obtain ⟨h2, h3⟩ := pairB h2
  have kf : X.env.scope.kind = .function := by rw [hX.sc]; exact hS.kd
  refine s_asg hg (fun fr => gdG fr g) he ?_ ?_ (assign_cons h1)
  · show swapsWith e (some tg) pos.line X.env = pure false
    rcases Bool.or_eq_true_iff.mp h2 with z | z
    · exact swap_of z
    · split at z
      · rw [swl_of kf, hX.sc, not_true z]
      · cases z
  · rcases Bool.or_eq_true_iff.mp h3 with z | z
    · exact sw_none z
    · split at z
      · exact sw_of kf (by rw [hX.sc]; exact of_decide_eq_true z)
      · cases z
theorem s_suite (hG : GamOk C w Γ) {a : Addr} {pn : List (Addr × Obj)} (hX : XOk C w Γ L X) (hS : XSt L X) : ∀ (ps : List (Nat × Nat)) {ss : List Stmt}, ckPs2 Γ L ps ss = true → PSs (X.suite a pn) ss (rdS w W0 (evPs2 ps))
  | [], ss, h => by
    simp only [ckPs2] at h
    cases ss with
    | nil => exact ss_nil
    | cons _ _ => cases h
  | (j, i) :: r, ss, h => by
    simp only [ckPs2] at h
    split at h
    · rename_i y p1 z p2 p3 rest
      obtain ⟨h1, h2⟩ := pairB h
      obtain ⟨h2, h3⟩ := pairB h2
      obtain ⟨h3, h4⟩ := pairB h3
      obtain ⟨h4, h5⟩ := pairB h4
      obtain ⟨h5, h6⟩ := pairB h5
      obtain ⟨s1, s2⟩ := sto_of hX h3
      obtain ⟨d1, d2, _⟩ := dbg_of h5
      have st : PS (X.suite a pn) (.Assign [.Name y p1] (.Name z p2) p3) (rdS w W0 (mAsg (mVar i) (mgName j))) :=
        s_set (X := X.suite a pn) (by show X.N.Nodup; rw [hX.N]; exact hG.nd) (by show X.N[j]? = _; rw [hX.N]; exact of_decide_eq_true h1) s1
          (d_var (X := X.suite a pn) (by show X.N[i]? = _; rw [hX.N]; exact of_decide_eq_true h2) (vis_of hX h4) d1 d2) (swap_of rfl) s2
      cases r with
      | nil =>
        simp only [ckPs2] at h6
        cases rest with
        | nil => exact ss_one st
        | cons _ _ => cases h6
      | cons q r => exact ss_cons st (s_suite hG hX hS (q :: r) h6)
    · cases h
end
variable {C : Ctx} {w : Wd} {Γ : Gam}
mutual
theorem sS (hG : GamOk C w Γ) {L : Lv} {X : Cx} (hX : XOk C w Γ L X) (hS : XSt L X) {W : WX} (hW : L.tr = false → ∃ E, W = WV E) (tk : Takes X W) : ∀ (c : CS) {s : Stmt}, ckS Γ L c s = true → PS X s (rdS w W (evS Γ c))
  | .nop, s, h => by
    simp only [ckS] at h
    split at h
    · exact s_pass
    · exact s_doc
    · cases h
  | .bad, s, h => by
    simp only [ckS] at h
    obtain ⟨E, rfl⟩ := hW (not_true h)
    exact s_bad
  | .expr x, s, h => by
    simp only [ckS] at h
    split at h
    · obtain ⟨h1, h2⟩ := pairB h
      exact s_expr (sE hG hX hW tk x h2) (swap_of h1)
    · cases h
  | .ret x, s, h => by
    simp only [ckS] at h
    split at h
    · exact s_ret (sE hG hX hW tk x h)
    · cases h
  | .retN, s, h => by
    simp only [ckS] at h
    split at h
    · exact s_retN
    · cases h
  | .ite t a b, s, h => by
    simp only [ckS] at h
    split at h
    · obtain ⟨h1, h2⟩ := pairB h
      obtain ⟨h2, h3⟩ := pairB h2
      exact s_if (sT hG hX hW tk t h1) (sSs hG hX hS hW tk a h2) (sSs hG hX hS hW tk b h3)
    · cases h
  | .asg g x, s, h => by
    simp only [ckS] at h
    split at h
    · obtain ⟨h1, h2⟩ := pairB h
      obtain ⟨h2, h3⟩ := pairB h2
      exact s_asgG hX hS h1 (sG hG hX g h2) (sE hG hX hW tk x h3)
    · cases h
  | .asgL i x, s, h => by
    simp only [ckS] at h
    split at h
    · rename_i y py x tg iter ifs scope lp pos cell it g t el own
      obtain ⟨h1, h2⟩ := pairB h
      obtain ⟨hsw, h2⟩ := pairB h2
      obtain ⟨h2, h3⟩ := pairB h2
      obtain ⟨h3, h4⟩ := pairB h3
      obtain ⟨h4, h5⟩ := pairB h4
      obtain ⟨h5, h6⟩ := pairB h5
      obtain ⟨h6, h7⟩ := pairB h6
      obtain ⟨h7, h8⟩ := pairB h7
      have bx : ∀ (s : Shared) (H : Hp) (Ca : Addr) (cl : List (Str × Addr)) (fp : List Addr), XOk C w Γ (L.blk scope) (X.blk s H scope (compEnvC scope cl Ca X.env) fp) := fun s H Ca cl fp => hX.blkX s H scope cl Ca fp
      have kf : X.env.scope.kind = .function := by rw [hX.sc]; exact hS.kd
      have yl : X.env.scope.names.lookup y = some .local := by
        rw [hX.sc]
        unfold swCo at hsw
        exact beq_iff_eq.mp (pairB (pairB hsw).1).1
      exact s_setLc hX.calm (by rw [hX.N]; exact hG.nd) (by rw [hX.N]; exact of_decide_eq_true h1) yl (by rw [swl_of kf, hX.sc, hsw]) (sI hG hX hW tk it h2) (by rw [hX.N, hX.sc]; exact blkOk_by h4) (fun s H Ca cl fp => sG hG (bx s H Ca cl fp) g h5) (fun fr => gdG fr g)
        (fun t ht => by simpa using List.all_eq_true.mp h6 t ht)
        (fun s H Ca cl fp => by
          cases hy : t.isYes with
          | true =>
            rw [hy, if_pos rfl] at h7
            cases ifs with
            | nil =>
              have ey : t = .yes := by cases t <;> first | rfl | cases hy
              subst ey
              exact tests_nil
            | cons _ _ => cases h7
          | false =>
            rw [hy, if_neg (by decide)] at h7
            split at h7
            · exact tests_one (sT hG (bx s H Ca cl fp) (fun _ => w0_wv) takes_blk t h7)
            · cases h7)
        (fun s H Ca cl fp => sE hG (bx s H Ca cl fp) (fun _ => w0_wv) takes_blk el h8) (folded_of h3)
    · rename_i y py x tg iter ifs tg1 iter1 ifs1 scope lp pos cell it g t it1 g1 t1 el own vs1
      obtain ⟨h1, h2⟩ := pairB h
      obtain ⟨hsw, h2⟩ := pairB h2
      obtain ⟨h2, h3⟩ := pairB h2
      obtain ⟨h3, h4⟩ := pairB h3
      obtain ⟨h4, h5⟩ := pairB h4
      obtain ⟨h5, h6⟩ := pairB h5
      obtain ⟨h6, h7⟩ := pairB h6
      obtain ⟨h7, h8⟩ := pairB h7
      obtain ⟨h8, h9⟩ := pairB h8
      obtain ⟨h9, h10⟩ := pairB h9
      obtain ⟨h10, h11⟩ := pairB h10
      obtain ⟨h11, h12⟩ := pairB h11
      obtain ⟨h12, h13⟩ := pairB h12
      obtain ⟨h13, h14⟩ := pairB h13
      have bx : ∀ (s : Shared) (H : Hp) (Ca : Addr) (cl : List (Str × Addr)) (fp : List Addr), XOk C w Γ (L.blk scope) (X.blk s H scope (compEnvC scope cl Ca X.env) fp) := fun s H Ca cl fp => hX.blkX s H scope cl Ca fp
      have kf : X.env.scope.kind = .function := by rw [hX.sc]; exact hS.kd
      have yl : X.env.scope.names.lookup y = some .local := by
        rw [hX.sc]
        unfold swCo at hsw
        exact beq_iff_eq.mp (pairB (pairB hsw).1).1
      exact s_setLc2 hX.calm (by rw [hX.N]; exact hG.nd) (by rw [hX.N]; exact of_decide_eq_true h1) yl (by rw [swl_of kf, hX.sc, hsw]) (sI hG hX hW tk it h2) (by rw [hX.N, hX.sc]; exact blkOk_by h4) (fun t ht => by simpa using List.all_eq_true.mp h13 t ht) (fun s H Ca cl fp => sG hG (bx s H Ca cl fp) g h5) (fun fr => gdG fr g)
        (fun t ht => by simpa using List.all_eq_true.mp h6 t ht)
        (fun s H Ca cl fp => by
          cases hy : t.isYes with
          | true =>
            rw [hy, if_pos rfl] at h7
            cases ifs with
            | nil =>
              have ey : t = .yes := by cases t <;> first | rfl | cases hy
              subst ey
              exact tests_nil
            | cons _ _ => cases h7
          | false =>
            rw [hy, if_neg (by decide)] at h7
            split at h7
            · exact tests_one (sT hG (bx s H Ca cl fp) (fun _ => w0_wv) takes_blk t h7)
            · cases h7)
        (fun s H Ca cl fp => sI hG (bx s H Ca cl fp) (fun _ => w0_wv) takes_blk it1 h9)
        (fun s H Ca cl fp => sG hG (bx s H Ca cl fp) g1 h11) (fun fr => gdG fr g1)
        (fun t ht => by simpa using List.all_eq_true.mp h12 t ht)
        (fun s H Ca cl fp => by
          cases hy : t1.isYes with
          | true =>
            rw [hy, if_pos rfl] at h14
            cases ifs1 with
            | nil =>
              have ey : t1 = .yes := by cases t1 <;> first | rfl | cases hy
              subst ey
              exact tests_nil
            | cons _ _ => cases h14
          | false =>
            rw [hy, if_neg (by decide)] at h14
            split at h14
            · exact tests_one (sT hG (bx s H Ca cl fp) (fun _ => w0_wv) takes_blk t1 h14)
            · cases h14)
        (fun s H Ca cl fp => sE hG (bx s H Ca cl fp) (fun _ => w0_wv) takes_blk el h8) (folded_of h3) (fun env x => folded_of h10 x)
    · cases h
  | .par i j as, s, h => by
    simp only [ckS] at h
    split at h
    · obtain ⟨h1, h2⟩ := pairB h
      obtain ⟨h2, h3⟩ := pairB h2
      obtain ⟨h3, h4⟩ := pairB h3
      obtain ⟨h4, h5⟩ := pairB h4
      obtain ⟨h5, h6⟩ := pairB h5
      obtain ⟨h6, h7⟩ := pairB h6
      obtain ⟨h7, h8⟩ := pairB h7
      exact s_par hX.calm (by rw [hX.N]; exact hG.nd) (by rw [hX.N]; exact of_decide_eq_true h1) (by rw [hX.N]; exact of_decide_eq_true h2) (of_decide_eq_true h3) (by rw [hX.sc]; exact of_decide_eq_true h4) (by rw [hX.sc]; exact of_decide_eq_true h5) (sA hG hX hW tk as h7 h8)
        (sw_of (by rw [hX.sc]; exact hS.kd) (by rw [hX.sc]; exact of_decide_eq_true h6)) rfl
    · cases h
  | .par3 i j k as, s, h => by
    simp only [ckS] at h
    split at h
    · obtain ⟨h1, h2⟩ := pairB h
      obtain ⟨h2, h3⟩ := pairB h2
      obtain ⟨h3, h4⟩ := pairB h3
      obtain ⟨h4, h5⟩ := pairB h4
      obtain ⟨h5, h6⟩ := pairB h5
      obtain ⟨h6, h7⟩ := pairB h6
      obtain ⟨h7, h8⟩ := pairB h7
      obtain ⟨h8, h9⟩ := pairB h8
      obtain ⟨h9, h10⟩ := pairB h9
      obtain ⟨h10, h11⟩ := pairB h10
      obtain ⟨h11, h12⟩ := pairB h11
      exact s_par3 hX.calm (by rw [hX.N]; exact hG.nd) (by rw [hX.N]; exact of_decide_eq_true h1) (by rw [hX.N]; exact of_decide_eq_true h2) (by rw [hX.N]; exact of_decide_eq_true h3) (of_decide_eq_true h4) (of_decide_eq_true h5) (of_decide_eq_true h6) (by rw [hX.sc]; exact of_decide_eq_true h7) (by rw [hX.sc]; exact of_decide_eq_true h8) (by rw [hX.sc]; exact of_decide_eq_true h9) (sA hG hX hW tk as h11 h12)
        (sw_of (by rw [hX.sc]; exact hS.kd) (by rw [hX.sc]; exact of_decide_eq_true h10))
    · cases h
  | .setF cs f o x, s, h => by
    simp only [ckS] at h
    split at h
    · obtain ⟨h1, h2⟩ := pairB h
      obtain ⟨h2, h3⟩ := pairB h2
      obtain ⟨h3, h4⟩ := pairB h3
      obtain ⟨h4, h5⟩ := pairB h4
      cases of_decide_eq_true h1
      exact s_fld (sE hG hX hW tk o h4) (sE hG hX hW tk x h5) (fun c hc => by
        have z := hG.fld (c, f) (by simpa using List.all_eq_true.mp h3 c hc)
        rw [hX.K]; exact z) (swap_of h2)
    · cases h
  | .dput o k x, s, h => by
    simp only [ckS] at h
    split at h
    · obtain ⟨h1, h2⟩ := pairB h
      obtain ⟨h2, h3⟩ := pairB h2
      obtain ⟨h3, h4⟩ := pairB h3
      exact s_dput (by have := units_of hX; omega) (sE hG hX hW tk o h2) (sE hG hX hW tk k h3) (sE hG hX hW tk x h4) (swap_of h1)
    · cases h
  | .lput o k x, s, h => by
    simp only [ckS] at h
    split at h
    · obtain ⟨h1, h2⟩ := pairB h
      obtain ⟨h2, h3⟩ := pairB h2
      obtain ⟨h3, h4⟩ := pairB h3
      obtain ⟨h4, h5⟩ := pairB h4
      exact s_lput (sE hG hX hW tk o h3) (sE hG hX hW tk k h4) (sE hG hX hW tk x h5) h2 (swap_of h1)
    · cases h
  | .aug op i x, s, h => by
    simp only [ckS] at h
    split at h
    · obtain ⟨h1, h2⟩ := pairB h
      obtain ⟨h2, h3⟩ := pairB h2
      obtain ⟨h3, h4⟩ := pairB h3
      obtain ⟨s1, s2⟩ := sto_of hX h3
      cases of_decide_eq_true h1
      cases op with
      | add => exact s_augI (g := fun i j => i + j) (fun x y μ => by cases x <;> cases y <;> rfl) (by rw [hX.N]; exact hG.nd) (by rw [hX.N]; exact of_decide_eq_true h2) s1 (sE hG hX hW tk x h4) ip_add s2
      | sub => exact s_augI (g := fun i j => i - j) (fun x y μ => by cases x <;> cases y <;> rfl) (by rw [hX.N]; exact hG.nd) (by rw [hX.N]; exact of_decide_eq_true h2) s1 (sE hG hX hW tk x h4) ip_sub s2
    · cases h
  | .loop it g b, s, h => by
    simp only [ckS] at h
    split at h
    · obtain ⟨h1, h2⟩ := pairB h
      obtain ⟨h2, h3⟩ := pairB h2
      obtain ⟨h3, h4⟩ := pairB h3
      exact s_for hS.po hX.calm (sI hG hX hW tk it h1) (sG hG hX g h3) (fun fr => gdG fr g) (sSs hG hX hS hW tk b h4) (folded_of h2)
    · cases h
  | .whl fuel t b, s, h => by
    simp only [ckS] at h
    split at h
    · obtain ⟨h1, h2⟩ := pairB h
      exact s_while fuel hS.po (sT hG hX hW tk t h1) (sSs hG hX hS hW tk b h2)
    · cases h
  | .brk, s, h => by
    simp only [ckS] at h
    split at h
    · exact s_break
    · cases h
  | .cnt, s, h => by
    simp only [ckS] at h
    split at h
    · exact s_continue
    · cases h
  | .rse cn f x, s, h => by
    simp only [ckS] at h
    split at h
    · rename_i y p1 a p2 p3
      obtain ⟨h0, h1⟩ := pairB h
      obtain ⟨h1, h2⟩ := pairB h1
      obtain ⟨h2, h3⟩ := pairB h2
      obtain ⟨h3, h4⟩ := pairB h3
      obtain ⟨h4, h5⟩ := pairB h4
      obtain ⟨E, rfl⟩ := hW (not_true h0)
      obtain ⟨fI, file, T, gC, pr, n1, n2⟩ := hG.rs (y, cn, f) (by simpa using h1)
      exact s_raise hX.calm (by rw [hX.K]; exact T) (by rw [hX.mg]; exact gC) (by rw [hX.P]; exact pr) n1 n2 hX.room.toRoom tk (sE hG hX hW tk x h5) (gl_of hX h2) (dbg_of h3).1 (star_cons h4) rfl
    · cases h
  | .tryK i x b ps, s, h => by
    simp only [ckS] at h
    split at h
    · rename_i body y p1 n s0 ss p2 p3
      obtain ⟨h1, h2⟩ := pairB h
      obtain ⟨h2, h3⟩ := pairB h2
      obtain ⟨h3, h4⟩ := pairB h3
      obtain ⟨h4, h5⟩ := pairB h4
      obtain ⟨h5, h6⟩ := pairB h5
      obtain ⟨h6, h7⟩ := pairB h6
      obtain ⟨h7, h8⟩ := pairB h7
      cases of_decide_eq_true h1
      cases z : Γ.cat.lookup x with
      | none => rw [z] at h2; cases h2
      | some t =>
        obtain ⟨cv, k1, k2⟩ := hG.cat (x, t) (lookup_in z)
        refine s_try hS.stk hS.fr (by rw [hX.N]; exact hG.nd) (by rw [hX.N]; exact of_decide_eq_true h5) (by show X.env.scope.names.lookup n = _; rw [hX.sc]; exact of_decide_eq_true h6) ⟨gl_of hX h3, (dbg_of h4).1, .inl (by rw [hX.mg]; exact k1)⟩ tk (fun c b hc => ?_) (fun W' pn xe tk' po => ?_) (fun a pn => s_suite hG hX hS ps h8)
        · unfold Gam.catch at hc
          rw [z] at hc
          have q := k2 (c, b) (lookup_in hc)
          rw [hX.K]; exact q
        · exact sSs hG (L := { L with tr := true }) (X := X.tr pn xe) ⟨hX.P, hX.wo, hX.K, hX.mg, hX.base, hX.N, hX.sc, hX.calm, hX.room, hX.fn, hX.qx, hX.lamX, hX.ask⟩ ⟨hS.bs, hS.kd, po, hS.stk, hS.fr⟩ (fun z => by cases z) tk' b h7
    · cases h
theorem sSs (hG : GamOk C w Γ) {L : Lv} {X : Cx} (hX : XOk C w Γ L X) (hS : XSt L X) {W : WX} (hW : L.tr = false → ∃ E, W = WV E) (tk : Takes X W) : ∀ (c : CSs) {ss : List Stmt}, ckSs Γ L c ss = true → PSs X ss (rdS w W (evSs Γ c))
  | .nil, ss, h => by
    simp only [ckSs] at h
    cases ss with
    | nil => exact ss_nil
    | cons _ _ => cases h
  | .cons a .nil, [], h => by simp only [ckSs] at h; cases h
  | .cons a .nil, s :: ss, h => by
    simp only [ckSs] at h
    obtain ⟨h1, h2⟩ := pairB h
    cases ss with
    | nil => exact ss_one (sS hG hX hS hW tk a h1)
    | cons _ _ => cases h2
  | .cons a (.cons b r), [], h => by simp only [ckSs] at h; cases h
  | .cons a (.cons b r), s :: ss, h => by
    simp only [ckSs] at h
    obtain ⟨h1, h2⟩ := pairB h
    have z := sSs hG hX hS hW tk (.cons b r) (ss := ss) (by simp only [ckSs]; exact h2)
    exact ss_cons (sS hG hX hS hW tk a h1) z
end
end DL

/-! A def of the core keeps its promise; how it is called. -/
namespace DL
open PySem PySem.Spec PyProof.Rows L2
variable {C : Ctx} {w : Wd} {Γ : Gam}
/-! ### the order of arguments -/
inductive Src where
  | pos (i : Nat) | kw (j : Nat) | df (k : Nat)
def ordG {α : Type} : List Src → List α → List α → List α → List α
  | [], _, _, _ => []
  | .pos i :: r, d, us, ws => (us[i]?).toList ++ ordG r d us ws
  | .kw i :: r, d, us, ws => (ws[i]?).toList ++ ordG r d us ws
  | .df i :: r, d, us, ws => (d[i]?).toList ++ ordG r d us ws
theorem ordG_vals {dv : List V} {du : List Value} {vs zs : List V} {us ws : List Value} (hd : Vals dv du) (hv : Vals vs us) (hz : Vals zs ws) : ∀ pl : List Src, Vals (ordG pl dv vs zs) (ordG pl du us ws)
  | [] => .nil
  | s :: pl => by
    have ih := ordG_vals hd hv hz pl
    have go : ∀ {as : List V} {bs : List Value} (i : Nat), Vals as bs → Vals ((as[i]?).toList ++ ordG pl dv vs zs) ((bs[i]?).toList ++ ordG pl du us ws) := fun {as bs} i h => by
      cases e : as[i]? with
      | none => rw [h.none_of e]; exact ih
      | some v =>
        obtain ⟨u, e2, r⟩ := h.get e
        rw [e2]; exact .cons r ih
    cases s with
    | pos i => exact go i hv
    | kw i => exact go i hz
    | df i => exact go i hd
theorem ordG_dens {dv : List V} {dd : List D} (hd : ∀ (w : Wd) (as : List Addr) (H : Hp), Dens w as H dv dd) (pl : List Src) : OrdD (ordG pl dv) (ordG pl dd) := by
  intro w as H vs zs ds es h1 h2
  induction pl with
  | nil => exact .nil
  | cons s pl ih =>
    have go : ∀ {as' : List V} {bs : List D} (i : Nat), Dens w as H as' bs → Dens w as H ((as'[i]?).toList ++ ordG pl dv vs zs) ((bs[i]?).toList ++ ordG pl dd ds es) := fun {as' bs} i h => by
      cases e : bs[i]? with
      | none =>
        have e2 : as'[i]? = none := by
          rw [List.getElem?_eq_none_iff] at e ⊢
          rw [h.length]; exact e
        rw [e2]; exact ih
      | some d =>
        obtain ⟨v, e2, r⟩ := h.get e
        rw [e2]; exact .cons r ih
    cases s with
    | pos i => exact go i h1
    | kw i => exact go i h2
    | df i => exact go i (hd w as H)
section
variable {K : PySem.W.Frag} {x qual : Str} {params : Arguments} {body : List Stmt} {scope : Scope} {dvs : List V} {f : Addr} {fd : FuncData} {ps : List Str}
theorem kb0 (np : Nat) (ks : List Str) (pl : List Src) (h : ∀ (kV doc pm : Value) (an : Option Addr) (cdv ct : Value) (us ws : List Value), us.length = np → ws.length = ks.length → bindArgs (PySem.W.fnOf x qual params body scope .none kV doc pm an cdv ct) ⟨us, ks.zip ws⟩ = pure (ps.zip (ordG pl [] us ws)))
    (F : FunD K x qual params body scope [] [] f fd) : ∃ g gV, KBn K fd ps np ks g gV ∧ OrdD gV (ordG pl []) := by
  obtain ⟨oc, od, dV, kV, doc, pm, an, cdv, ct, osl, rfl, lk, hcd, hD, hK⟩ := F.ex
  rcases hD with ⟨_, rfl⟩ | ⟨e, _⟩
  · exact ⟨ordG pl [], ordG pl [], ⟨fun s us ws _ l1 l2 => .of_eq (h kV doc pm an cdv ct us ws l1 l2), fun r1 r2 => ordG_vals .nil r1 r2 pl⟩, ordG_dens (fun _ _ _ => .nil) pl⟩
  · exact absurd rfl e
theorem kb1 (np : Nat) (ks : List Str) (pl : List Src) (dd : List D) (hne : dvs ≠ []) (hdd : ∀ (w : Wd) (as : List Addr) (H : Hp), Dens w as H dvs dd)
    (h : ∀ (T : Addr) (kV doc pm : Value) (an : Option Addr) (cdv ct : Value) (us ws its : List Value), us.length = np → ws.length = ks.length → its.length = dvs.length →
      ∃ k, bindArgs (PySem.W.fnOf x qual params body scope (.ref T) kV doc pm an cdv ct) ⟨us, ks.zip ws⟩ = seqItems? (.ref T) >>= k ∧ k (some its.toArray) = pure (ps.zip (ordG pl its us ws)))
    (F : FunD K x qual params body scope dvs [] f fd) : ∃ g gV, KBn K fd ps np ks g gV ∧ OrdD gV (ordG pl dd) := by
  obtain ⟨oc, od, dV, kV, doc, pm, an, cdv, ct, osl, rfl, lk, hcd, hD, hK⟩ := F.ex
  rcases hD with ⟨e, _⟩ | ⟨_, T, o, its, m, rfl, lT, oT, rT⟩
  · exact absurd e hne
  · refine ⟨ordG pl its, ordG pl dvs, ⟨fun s us ws X l1 l2 => ?_, fun r1 r2 => ordG_vals rT r1 r2 pl⟩, ordG_dens hdd pl⟩
    obtain ⟨k, e1, e2⟩ := h T kV doc pm an cdv ct us ws its l1 l2 rT.length.symm
    refine BindsTo.of_looks fun M => ?_
    rw [e1]
    exact looks_items X lT oT (.of_pure e2)
end
/-! ### a def -/
/-- a def of the core, checked -/
def defB (Γ : Gam) (ps : List Str) (scope : Scope) (c : CSs) (body : List Stmt) (la : Bool) : Bool := C8.scC Γ.N ps scope && (ckSs Γ ⟨scope, none, false, la⟩ c body && Γ.askN.isNone)
def mFn (Γ : Gam) (n : Nat) (c : CSs) : FD := mDef Γ.keep Γ.N.length n (evSs Γ c)
theorem def_ok {x qual : Str} {params : Arguments} {body : List Stmt} {scope : Scope} {dvs : List V} {kws : List (Str × V)} {f : Addr} {fd : FuncData} {ps : List Str} {c : CSs} (hG : GamOk C w Γ) (F : FunD w.K x qual params body scope dvs kws f fd) (h : defB Γ ps scope c body false = true) :
    FnG C.P C.wo w.K C.mg C.base (Γ.lvl + 1) f fd ps (SpD w (Qx C.tb false) ps.length (mFn Γ ps.length c)) := by
  obtain ⟨h1, h2⟩ := pairB h
  obtain ⟨h2, h3⟩ := pairB h2
  have S := C8.fnScope_by h1
  refine fn_D F S fun w' cdv A outer s H E wK wC hq _ hr => ?_
  exact sSs (L := ⟨scope, none, false, false⟩) (X := cxOf (L2.CX C.P C.wo) C.P C.wo w.K C.mg C.base Γ.N qual scope f cdv A outer s H E) (hG.wx wK wC)
    ⟨rfl, rfl, wK.symm, rfl, rfl, rfl, rfl, rfl, hr, fun _ _ => rfl, hq, (fun z => by cases z), fun a z => by rw [Option.isNone_iff_eq_none.mp h3] at z; cases z⟩
    ⟨rfl, S.kind, passes_of rfl, rfl, rfl⟩ (fun _ => ⟨_, rfl⟩) (takes_of rfl rfl rfl rfl) c h2
/-- a def that hands lambdas on: its code object, that one's table -/
theorem def_okL {x qual : Str} {params : Arguments} {body : List Stmt} {scope : Scope} {dvs : List V} {kws : List (Str × V)} {f : Addr} {fd : FuncData} {ps : List Str} {c : CSs} {c0 P0 : Addr} (hG : GamOk C w Γ) (F : FunD w.K x qual params body scope dvs kws f fd) (h : defB Γ ps scope c body true = true)
    (hc : fd.code = .ref c0) (tb : LamX.TabB C.base C.mg c0 P0) (ht : (P0, (envOfC qual scope 0 0 .none).qual ++ "<lambda>") ∈ C.tb) :
    FnG C.P C.wo w.K C.mg C.base (Γ.lvl + 3) f fd ps (SpD w (Qx C.tb true) ps.length (mFn Γ ps.length c)) := by
  obtain ⟨h1, h2⟩ := pairB h
  obtain ⟨h2, h3⟩ := pairB h2
  have S := C8.fnScope_by h1
  refine fn_D F S fun w' cdv A outer s H E wK wC hq hcd hr => ?_
  have hcv : cdv = .ref c0 := hcd.symm.trans hc
  subst hcv
  exact sSs (L := ⟨scope, none, false, true⟩) (X := cxOf (L2.CX C.P C.wo) C.P C.wo w.K C.mg C.base Γ.N qual scope f (.ref c0) A outer s H E) (hG.wx wK wC)
    ⟨rfl, rfl, wK.symm, rfl, rfl, rfl, rfl, rfl, hr.mono (by omega), fun _ _ => rfl, hq, (fun _ _ => ⟨c0, P0, tb, rfl, ht, hr⟩), fun a z => by rw [Option.isNone_iff_eq_none.mp h3] at z; cases z⟩
    ⟨rfl, S.kind, passes_of rfl, rfl, rfl⟩ (fun _ => ⟨_, rfl⟩) (takes_of rfl rfl rfl rfl) c h2
/-- a def that is handed a lambda -/
theorem lam_ok {Γg : (List M → ER) → Gam} {lvl : Nat} {x a : Str} {N : List Str} {st : Stmt} {c : CSs} {g : Addr} {fd : FuncData} (hN : ∀ ask, (Γg ask).N = N) (hl : ∀ ask, (Γg ask).lvl ≤ lvl + 1) (hask : ∀ ask, (Γg ask).askN = some a ∧ (Γg ask).ask = ask) (hG : ∀ ask, GamOk C w (Γg ask))
    (F : L2.Fun w.K x x st g fd) (hb : Binds w.K fd [a] []) (hm : C.mg x = some (.ref g)) (h : C8.scC N [a] (defScope st) = true) (hv : (⟨defScope st, none, false, false⟩ : Lv).vis a = true) (hd : dbg a = true) (hn : decide (N[0]? = some a) = true) (hc : ∀ ask, ckSs (Γg ask) ⟨defScope st, none, false, false⟩ c (defBody st) = true) :
    LamOk C w lvl ⟨x, a, N, st, fun ask => evSs (Γg ask) c⟩ := by
  have S := C8.fnScope_by h
  refine ⟨g, fd, F, S, hm, hb, ?_, of_decide_eq_true hn, hd, fun w' cdv A outer s H E ask wK wC hq hr hA => ?_⟩
  · unfold Lv.vis Lv.kd at hv
    unfold Vis
    split at hv
    · rename_i e; exact .inl e
    · rename_i e; exact .inr (.inl e)
    · rename_i e; exact .inr (.inr e)
    · cases hv
  · exact sSs (w := w') (L := ⟨defScope st, none, false, false⟩) (X := cxOf (L2.CX C.P C.wo) C.P C.wo w.K C.mg C.base N x (defScope st) g cdv A outer s H E) ((hG ask).wx wK wC)
      ⟨rfl, rfl, wK.symm, rfl, rfl, (hN ask).symm, rfl, rfl, hr.mono (hl ask), fun _ _ => rfl, hq, (fun z => by cases z), fun b z _ => by
        have hb := (hask ask).1
        rw [hb] at z; cases z
        intro W pn xe p1 p2 tk
        rw [(hask ask).2]
        exact hA W pn xe p1 p2 tk⟩
      ⟨rfl, S.kind, passes_of rfl, rfl, rfl⟩ (fun _ => ⟨_, rfl⟩) (takes_of rfl rfl rfl rfl) c (hc ask)
end DL

/-! What the written part says, by Bools. -/
namespace DL
open PySem PySem.Spec PyProof.Rows L2
section
variable {K : PySem.W.Frag}
def isTypeTy : Value → Bool
  | .type n => decide (n = "type")
  | _ => false
theorem isTypeTy_eq {v : Value} (h : isTypeTy v = true) : v = .type "type" := by
  unfold isTypeTy at h
  split at h
  · rw [of_decide_eq_true h]
  · cases h
def supCls (K : PySem.W.Frag) (C : Addr) : Bool := match K.lookup C with
  | some ⟨c, _, .cls cd, sl⟩ => isTypeTy c && (match cd.mro with
    | .ref C' :: bm => decide (C' = C) && (!cd.hasDel && (cd.hasDict && PySem.HandSPX.refsVE bm)) && (match sl.toList with
      | [_, _, _, _, some (.builtin n), _] => decide (n = "ValueError.__new__")
      | _ => false)
    | _ => false)
  | _ => false
theorem supCls_ok {C : Addr} (h : supCls K C = true) : ∃ nm q N bs bm sn sub ab col dd k0 k1 k2 k3 k5, K.lookup C = some (PySem.excClassObj nm q C N bs bm true sn sub ab col dd k0 k1 k2 k3 k5 "ValueError.__new__") ∧ PySem.HandSPX.refsVE bm = true := by
  unfold supCls at h
  split at h
  · rename_i c dd cd sl e
    obtain ⟨h1, h2⟩ := pairB h
    have e1 := isTypeTy_eq h1
    subst e1
    split at h2
    · rename_i C' bm e2
      obtain ⟨h2, h3⟩ := pairB h2
      obtain ⟨h4, h5⟩ := pairB h2
      obtain ⟨h5, h6⟩ := pairB h5
      obtain ⟨h6, h7⟩ := pairB h6
      split at h3
      · rename_i k0 k1 k2 k3 n k5 e3
        have e4 := of_decide_eq_true h4
        have e5 := of_decide_eq_true h3
        subst e4 e5
        obtain ⟨nm, bs, mro, ns, qn, hd, sn, sub, ab, col, del⟩ := cd
        have e6 : del = false := by simpa using h5
        have e7 : hd = true := h6
        dsimp only at e2
        subst e2 e6 e7
        obtain ⟨l⟩ := sl
        dsimp only at e3
        subst e3
        exact ⟨nm, qn, ns, bs, bm, sn, sub, ab, col, dd, k0, k1, k2, k3, k5, e, h7⟩
      · cases h3
    · cases h2
  · cases h
def isNoneV : Value → Bool
  | .none => true
  | _ => false
theorem isNoneV_eq {v : Value} (h : isNoneV v = true) : v = .none := by
  cases v <;> first | rfl | cases h
/-- the parameters self, f -/
def supPar (f : Str) : Arguments → Bool
  | ⟨[], [⟨a, none, _⟩, ⟨b, none, _⟩], none, [], [], none, []⟩ => decide (a = "self") && decide (b = f)
  | _ => false
theorem supPar_ok {f : Str} {p : Arguments} (h : supPar f p = true) : ∃ p1 p2, p = DSX.sA f p1 p2 := by
  unfold supPar at h
  split at h
  · obtain ⟨h1, h2⟩ := pairB h
    have e1 := of_decide_eq_true h1
    have e2 := of_decide_eq_true h2
    subst e1 e2
    exact ⟨_, _, rfl⟩
  · cases h
/-- super().__init__(f); self.f = f -/
def supBody (f : Str) : FuncBody → Bool
  | .stmts [.Expr (.Call (.Attribute (.Call (.Name s0 _) [] [] _) i0 a2) [.Name g0 _] [] a4) _, .Assign [.Attribute (.Name s1 _) g1 _] (.Name g2 _) _] =>
    decide (s0 = "super") && (decide (i0 = "__init__") && (decide (g0 = f) && (decide (s1 = "self") && (decide (g1 = f) && (decide (g2 = f) && (a2.endLine == a4.line))))))
  | _ => false
theorem supBody_ok {f : Str} {b : FuncBody} (h : supBody f b = true) : ∃ a0 a1 a2 a3 a4 a5 r1 r2 r3 r4, b = .stmts [DSX.sE f a0 a1 a2 a3 a4 a5, DSX.sF f r1 r2 r3 r4] ∧ (a2.endLine == a4.line) = true := by
  unfold supBody at h
  split at h
  · obtain ⟨h1, g1⟩ := pairB h
    obtain ⟨h2, g2⟩ := pairB g1
    obtain ⟨h3, g3⟩ := pairB g2
    obtain ⟨h4, g4⟩ := pairB g3
    obtain ⟨h5, g5⟩ := pairB g4
    obtain ⟨h6, h7⟩ := pairB g5
    have e1 := of_decide_eq_true h1
    have e2 := of_decide_eq_true h2
    have e3 := of_decide_eq_true h3
    have e4 := of_decide_eq_true h4
    have e5 := of_decide_eq_true h5
    have e6 := of_decide_eq_true h6
    subst e1 e2 e3 e4 e5 e6
    exact ⟨_, _, _, _, _, _, _, _, _, _, rfl, h7⟩
  · cases h
def supScope (f : Str) (sc : Scope) : Bool := decide (sc.kind = .function) && (!sc.isGenerator && (!sc.isCoroutine && (decide (sc.names.lookup ("self" : Str) = some .local) && (decide (sc.names.lookup f = some .local) && (decide (sc.names.lookup ("super" : Str) = some .globalImplicit) && (decide (sc.names.lookup ("__class__" : Str) = some .free) && sc.names.all fun y => !decide (y.2 = .cell)))))))
/-- the code object tells the file; the cell holds the class -/
def supCode (K : PySem.W.Frag) (C : Addr) (file : Str) (cda cc : Addr) : Bool := (match K.lookup cda with
  | some ⟨_, _, .fields vs, _⟩ => (match (vs[2]? : Option Value) with
    | some (Value.str z _) => decide (z = file)
    | _ => false)
  | _ => false) && (match K.lookup cc with
  | some ⟨_, _, .cell (some (.ref C')), _⟩ => decide (C' = C)
  | _ => false)
def supFn (K : PySem.W.Frag) (C fI : Addr) (f file : Str) : Bool := match K.lookup fI with
  | some ⟨_, _, .func fd, _⟩ => (match fd.code, fd.closure with
    | .ref cda, [(cn, cc)] => decide (cn = "__class__") && supCode K C file cda cc
    | _, _ => false) && (decide (fd.name = "__init__") && (decide (fd.globals = mainGlobals) && (decide (fd.builtins = builtinsNs) && (isNoneV fd.defaults && (isNoneV fd.kwdefaults && (PySem.W.codeIn K fd.code fd.qualname && (supPar f fd.params && (supBody f fd.body && supScope f fd.scope))))))))
  | _ => false
theorem supFn_ok {C fI : Addr} {f file : Str} (hf : (f == ("self" : Str)) = false) (h : supFn K C fI f file = true) : ∃ (oc : Value) (od : Option Addr) (qual : Str) (sc : Scope) (doc pm : Value) (an : Option Addr) (cda cc : Addr) (ct : Value) (osl : Array (Option Value)) (p1 p2 a0 a1 a2 a3 a4 a5 r1 r2 r3 r4 : Pos),
    K.lookup fI = some ⟨oc, od, .func (PySem.W.ksFn "__init__" qual (DSX.sA f p1 p2) [DSX.sE f a0 a1 a2 a3 a4 a5, DSX.sF f r1 r2 r3 r4] sc .none .none doc pm an (.ref cda) ct cc), osl⟩ ∧ PySem.W.codeIn K (.ref cda) qual = true ∧
      sc = { kind := .function, names := sc.names, isGenerator := false, isCoroutine := false, more := sc.more } ∧ sc.names.lookup ("self" : Str) = some .local ∧ sc.names.lookup f = some .local ∧ sc.names.lookup ("super" : Str) = some .globalImplicit ∧ sc.names.lookup ("__class__" : Str) = some .free ∧ (∀ y ∈ sc.names, y.2 ≠ .cell) ∧ (a2.endLine == a4.line) = true ∧
      (∀ a b : Value, bindArgs (PySem.W.ksFn "__init__" qual (DSX.sA f p1 p2) [DSX.sE f a0 a1 a2 a3 a4 a5, DSX.sF f r1 r2 r3 r4] sc .none .none doc pm an (.ref cda) ct cc) ⟨[a, b], []⟩ = pure ([(("self" : Str), a), (f, b)] : List (Str × Value))) ∧
      (∃ ccl cdd vs ccs tf, K.lookup cda = some ⟨ccl, cdd, .fields vs, ccs⟩ ∧ vs[2]? = some (.str file tf)) ∧ ∃ cl cld csl, K.lookup cc = some ⟨cl, cld, .cell (some (.ref C)), csl⟩ := by
  unfold supFn at h
  split at h
  · rename_i oc od fd osl e
    obtain ⟨n1, n2, n3, n4, n5, n6, n7, n8, n9, n10, n11, n12, n13, n14, n15⟩ := fd
    obtain ⟨h0, h⟩ := pairB h
    dsimp only at h0 h
    split at h0
    · rename_i cda nm cc hh
      obtain ⟨k1, k2⟩ := pairB h0
      unfold supCode at k2
      obtain ⟨k2, k3⟩ := pairB k2
      obtain ⟨h1, h⟩ := pairB h
      obtain ⟨h2, h⟩ := pairB h
      obtain ⟨h3, h⟩ := pairB h
      obtain ⟨h4, h⟩ := pairB h
      obtain ⟨h5, h⟩ := pairB h
      obtain ⟨h6, h⟩ := pairB h
      obtain ⟨h7, h⟩ := pairB h
      obtain ⟨h8, h9⟩ := pairB h
      have e1 := of_decide_eq_true k1
      have e2 := of_decide_eq_true h1
      have e3 := of_decide_eq_true h2
      have e4 := of_decide_eq_true h3
      have e5 := isNoneV_eq h4
      have e6 := isNoneV_eq h5
      obtain ⟨p1, p2, e7⟩ := supPar_ok h7
      obtain ⟨a0, a1, a2, a3, a4, a5, r1, r2, r3, r4, e8, e9⟩ := supBody_ok h8
      subst e1 e2 e3 e4 e5 e6 e7 e8
      unfold supScope at h9
      obtain ⟨s1, h9⟩ := pairB h9
      obtain ⟨s2, h9⟩ := pairB h9
      obtain ⟨s3, h9⟩ := pairB h9
      obtain ⟨s4, h9⟩ := pairB h9
      obtain ⟨s5, h9⟩ := pairB h9
      obtain ⟨s6, h9⟩ := pairB h9
      obtain ⟨s7, s8⟩ := pairB h9
      refine ⟨oc, od, n2, n5, n10, n11, n12, cda, cc, n14, osl, p1, p2, a0, a1, a2, a3, a4, a5, r1, r2, r3, r4, e, h6, ?_, of_decide_eq_true s4, of_decide_eq_true s5, of_decide_eq_true s6, of_decide_eq_true s7, fun y hy => ?_, e9, fun a b => ?_, ?_, ?_⟩
      · obtain ⟨q1, q2, q3, q4, q5⟩ := n5
        have z1 : q1 = .function := of_decide_eq_true s1
        have z2 : q3 = false := by simpa using s2
        have z3 : q4 = false := by simpa using s3
        subst z1 z2 z3
        rfl
      · have z := List.all_eq_true.mp s8 y hy
        simpa using z
      · simp [bindArgs, PySem.W.fnX, DSX.sA, List.lookup, hf, seqItems?]
        rfl
      · split at k2
        · rename_i q1 q2 vs q3 e10
          split at k2
          · rename_i z tf e11
            have e12 := of_decide_eq_true k2
            subst e12
            exact ⟨_, _, _, _, _, e10, e11⟩
          · cases k2
        · cases k2
      · split at k3
        · rename_i q1 q2 C' q3 e10
          have e12 := of_decide_eq_true k3
          subst e12
          exact ⟨_, _, _, e10⟩
        · cases k3
    · cases h0
  · cases h
def supB (K : PySem.W.Frag) (C fI : Addr) (f file : Str) : Bool := supCls K C && (supFn K C fI f file && (He.eqO (PySem.W.findIn K (.ref C) "__setattr__") (some (some (.builtin "object.__setattr__"))) && (He.eqO (PySem.W.findIn K (.ref C) f) (some none) && (He.eqO (PySem.W.findIn K (.ref C) "__init__") (some (some (.ref fI))) && (decide (PySem.W.typeIn K (.ref fI) = some (.type "function")) && (PySem.W.keepIn K (.ref C) &&
  (decide (PySem.W.subIn K (.ref C) (.type "BaseException") = some true) && (decide (PySem.W.subIn K (.ref C) (.type "ValueError") = some true) && (decide (PySem.W.typeIn K (.ref C) = some (.type "type")) && (decide (PySem.W.mroIn K C (.ref C) = some true) && (He.eqO (PySem.W.nsIn K mainGlobals "super") (some none) && (He.eqO (PySem.W.nsIn K PySem.cStatics "thirdparty.any") (some none) && He.eqO (PySem.W.ks_superIn K C C "__init__") (some (some (.builtin "ValueError.__init__")))))))))))))))
theorem supB_ok {C fI : Addr} {f file : Str} (hf : (f == ("self" : Str)) = false) (h : supB K C fI f file = true) : DSX.SupC K C fI f file := by
  unfold supB at h
  obtain ⟨h1, h⟩ := pairB h
  obtain ⟨h2, h⟩ := pairB h
  obtain ⟨h3, h⟩ := pairB h
  obtain ⟨h4, h⟩ := pairB h
  obtain ⟨h5, h⟩ := pairB h
  obtain ⟨h6, h⟩ := pairB h
  obtain ⟨h7, h⟩ := pairB h
  obtain ⟨h8, h⟩ := pairB h
  obtain ⟨h9, h⟩ := pairB h
  obtain ⟨h10, h⟩ := pairB h
  obtain ⟨h11, h⟩ := pairB h
  obtain ⟨h12, h⟩ := pairB h
  obtain ⟨h13, h14⟩ := pairB h
  exact ⟨supCls_ok h1, He.eqO_ok h3, He.eqO_ok h4, He.eqO_ok h5, of_decide_eq_true h6, h7, of_decide_eq_true h8, of_decide_eq_true h9, of_decide_eq_true h10, of_decide_eq_true h11, He.eqO_ok h12, He.eqO_ok h13, He.eqO_ok h14, supFn_ok hf h2⟩
def clsIB (K : PySem.W.Frag) (x : Str) : Bool := (He.Fa.cls x).ok K && (He.eqO (PySem.W.findIn K (.ref (He.ga K x)) "__class__") (some (some (.builtin "object.__class__"))) && (He.eqO (PySem.W.specialIn K (.builtin "object.__class__") "__get__") (some (some (.builtin "getset_descriptor.__get__"))) && (decide (PySem.W.takesIn K (.builtin "object.__class__") = some true) && decide (PySem.W.mroIn K (He.ga K x) (.type "object") = some true))))
theorem clsIB_ok {x : Str} (h : clsIB K x = true) : ClsI K (He.ga K x) := by
  unfold clsIB at h
  obtain ⟨h1, h⟩ := pairB h
  obtain ⟨h2, h⟩ := pairB h
  obtain ⟨h3, h⟩ := pairB h
  obtain ⟨h4, h5⟩ := pairB h
  exact ⟨He.cls_ok h1, He.eqO_ok h2, He.eqO_ok h3, of_decide_eq_true h4, of_decide_eq_true h5⟩
def ecB (K : PySem.W.Frag) (D : Addr) : Bool := He.eqO (PySem.W.findIn K (.ref D) "__getattribute__") (some (some (.builtin "BaseException.__getattribute__"))) && (He.eqO (PySem.W.findIn K (.ref D) "__getattr__") (some none) && (decide (PySem.W.subIn K (.ref D) (.type "BaseException") = some true) && (PySem.W.hasDictIn K D && (He.eqO (PySem.W.findIn K (.ref D) "__class__") (some (some (.builtin "object.__class__"))) &&
  (He.eqO (PySem.W.specialIn K (.builtin "object.__class__") "__get__") (some (some (.builtin "getset_descriptor.__get__"))) && (decide (PySem.W.takesIn K (.builtin "object.__class__") = some true) && decide (PySem.W.mroIn K D (.type "object") = some true)))))))
theorem ecB_ok {D : Addr} (h : ecB K D = true) : DLK.EC K D := by
  unfold ecB at h
  obtain ⟨h1, h⟩ := pairB h
  obtain ⟨h2, h⟩ := pairB h
  obtain ⟨h3, h⟩ := pairB h
  obtain ⟨h4, h⟩ := pairB h
  obtain ⟨h5, h⟩ := pairB h
  obtain ⟨h6, h⟩ := pairB h
  obtain ⟨h7, h8⟩ := pairB h
  exact ⟨He.eqO_ok h1, He.eqO_ok h2, of_decide_eq_true h3, h4, He.eqO_ok h5, He.eqO_ok h6, of_decide_eq_true h7, of_decide_eq_true h8⟩
end
end DL

/-! A law's text as data; what its head must show; the end. -/
namespace DL
open PySem PySem.Spec PyProof.Rows L2
structure LawD where
  cn : List Str
  gl : List (Str × Kc)
  free : List Str
  glo : List Str
  fld : List (Nat × Str)
  fldX : List (Nat × Str)
  mth : List (Nat × Str)
  mkr : List Nat
  own : List Nat
  kk : List ((String ⊕ Nat) × (String ⊕ Nat) × Bool)
  ke : List (Nat × (String ⊕ Nat) × Bool)
  nf : List (Nat × (String ⊕ Nat))
  rs : List (Nat × Str)
  cat : List (Nat × List (Nat × Bool))
  file : Str
def LawD.name (d : LawD) (c : Nat) : Str := d.cn.getD c ""
def LawD.ct (d : LawD) (K : PySem.W.Frag) (c : Nat) : Addr := He.ga K (d.name c)
def LawD.w (d : LawD) (K : PySem.W.Frag) (x : Wx) : Wd := ⟨K, d.ct K, [], x⟩
def LawD.tv (d : LawD) (K : PySem.W.Frag) : String ⊕ Nat → Value
  | .inl t => .type t
  | .inr c => .ref (d.ct K c)
def LawD.kkF (d : LawD) (t u : String ⊕ Nat) : Option Bool := (d.kk.find? fun p => decide (p.1 = t) && decide (p.2.1 = u)).map (·.2.2)
def LawD.keF (d : LawD) (t : Nat) (u : String ⊕ Nat) : Option Bool := (d.ke.find? fun p => decide (p.1 = t) && decide (p.2.1 = u)).map (·.2.2)
def LawD.nfF (d : LawD) (c : Nat) (t : String ⊕ Nat) : Bool := d.nf.any fun p => decide (p.1 = c) && decide (p.2 = t)
def LawD.g0 (d : LawD) : Gam where
  N := []
  ents := []
  gl := d.gl
  free := d.free
  fld := d.fld
  fldX := d.fldX
  kks := ⟨d.kkF, d.keF⟩
  nf := d.nfF
  askN := none
  ask := fun _ => .bad
  lams := []
  rs := d.rs.map fun p => (d.name p.1, p.1, p.2)
  cat := d.cat.map fun p => (d.name p.1, p.2)
  lvl := 0
def LawD.glB (d : LawD) (K : PySem.W.Frag) (x : Str) : Kc → Bool
  | .int i => (He.Fa.int x i).ok K
  | .str s => (He.Fa.str x ⟨s.toArray⟩).ok K
  | .cls c => decide (x = d.name c) && (He.Fa.glo x).ok K
  | .tup l => (He.Fa.glo x).ok K && tupB K (He.ga K x) l
  | _ => false
def ownT (d : LawD) (K : PySem.W.Frag) : String ⊕ Nat → Bool
  | .inl _ => true
  | .inr c => clsIB K (d.name c)
structure LawD.Fs (d : LawD) (K : PySem.W.Frag) : Prop where
  gl : ∀ p ∈ d.gl, d.glB K p.1 p.2 = true
  free : ∀ x ∈ d.free, (He.Fa.free x).ok K = true
  glo : ∀ x ∈ d.glo, (He.Fa.glo x).ok K = true
  fld : ∀ p ∈ d.fld, (He.Fa.cls (d.name p.1)).ok K = true ∧ (He.Fa.noat (d.name p.1) p.2).ok K = true
  fldX : ∀ p ∈ d.fldX, xfB K (d.ct K p.1) = true ∧ He.eqO (PySem.W.findIn K (.ref (d.ct K p.1)) p.2) (some none) = true
  mth : ∀ p ∈ d.mth, (He.Fa.cls (d.name p.1)).ok K = true ∧ (He.Fa.meth (d.name p.1) p.2).ok K = true
  mkr : ∀ c ∈ d.mkr, (He.Fa.mkr (d.name c)).ok K = true
  own : ∀ c ∈ d.own, He.eqO (PySem.W.findIn K (.ref (d.ct K c)) "__ne__") (some (some (.builtin "object.__ne__"))) = true ∧ decide (PySem.W.mroIn K (d.ct K c) (.type "object") = some true) = true
  kk : ∀ p ∈ d.kk, decide (PySem.W.kitOne K (d.tv K p.1) (d.tv K p.2.1) = some p.2.2) = true ∧ ownT d K p.1 = true
  ke : ∀ p ∈ d.ke, decide (PySem.W.kitOne K (.ref (d.ct K p.1)) (d.tv K p.2.1) = some p.2.2) = true ∧ ecB K (d.ct K p.1) = true
  nf : ∀ p ∈ d.nf, PySem.W.notFirst K (d.ct K p.1) (d.tv K p.2) = true ∧ ownT d K p.2 = true
  rs : ∀ p ∈ d.rs, supB K (d.ct K p.1) (He.ma K (d.ct K p.1) "__init__") p.2 d.file = true ∧ (He.Fa.glo (d.name p.1)).ok K = true ∧ (p.2 == ("self" : Str)) = false ∧ (p.2 == ("__debug__" : Str)) = false
  cat : ∀ p ∈ d.cat, (He.Fa.glo (d.name p.1)).ok K = true ∧ ∀ q ∈ p.2, decide (PySem.W.exmOne K (.ref (d.ct K q.1)) (.ref (d.ct K p.1)) = some q.2) = true
def LawD.ex (d : LawD) (K : PySem.W.Frag) : Bool :=
  (d.gl.all fun p => d.glB K p.1 p.2) && ((d.free.all fun x => (He.Fa.free x).ok K) && ((d.glo.all fun x => (He.Fa.glo x).ok K) && ((d.fld.all fun p => (He.Fa.cls (d.name p.1)).ok K && (He.Fa.noat (d.name p.1) p.2).ok K) && ((d.fldX.all fun p => xfB K (d.ct K p.1) && He.eqO (PySem.W.findIn K (.ref (d.ct K p.1)) p.2) (some none)) &&
  ((d.mth.all fun p => (He.Fa.cls (d.name p.1)).ok K && (He.Fa.meth (d.name p.1) p.2).ok K) && ((d.mkr.all fun c => (He.Fa.mkr (d.name c)).ok K) && ((d.own.all fun c => He.eqO (PySem.W.findIn K (.ref (d.ct K c)) "__ne__") (some (some (.builtin "object.__ne__"))) && decide (PySem.W.mroIn K (d.ct K c) (.type "object") = some true)) &&
  ((d.kk.all fun p => decide (PySem.W.kitOne K (d.tv K p.1) (d.tv K p.2.1) = some p.2.2) && ownT d K p.1) && ((d.ke.all fun p => decide (PySem.W.kitOne K (.ref (d.ct K p.1)) (d.tv K p.2.1) = some p.2.2) && ecB K (d.ct K p.1)) && ((d.nf.all fun p => PySem.W.notFirst K (d.ct K p.1) (d.tv K p.2) && ownT d K p.2) &&
  ((d.rs.all fun p => supB K (d.ct K p.1) (He.ma K (d.ct K p.1) "__init__") p.2 d.file && ((He.Fa.glo (d.name p.1)).ok K && (!(p.2 == ("self" : Str)) && !(p.2 == ("__debug__" : Str))))) && (d.cat.all fun p => (He.Fa.glo (d.name p.1)).ok K && p.2.all fun q => decide (PySem.W.exmOne K (.ref (d.ct K q.1)) (.ref (d.ct K p.1)) = some q.2)))))))))))))
theorem allB {α : Type} {l : List α} {f : α → Bool} (h : l.all f = true) : ∀ x ∈ l, f x = true := fun x hx => List.all_eq_true.mp h x hx
theorem LawD.fs {d : LawD} {K : PySem.W.Frag} (h : d.ex K = true) : d.Fs K := by
  unfold LawD.ex at h
  obtain ⟨h1, h⟩ := pairB h
  obtain ⟨h2, h⟩ := pairB h
  obtain ⟨h3, h⟩ := pairB h
  obtain ⟨h4, h⟩ := pairB h
  obtain ⟨h5, h⟩ := pairB h
  obtain ⟨h6, h⟩ := pairB h
  obtain ⟨h7, h⟩ := pairB h
  obtain ⟨h8, h⟩ := pairB h
  obtain ⟨h9, h⟩ := pairB h
  obtain ⟨h10, h⟩ := pairB h
  obtain ⟨h11, h⟩ := pairB h
  obtain ⟨h12, h13⟩ := pairB h
  refine ⟨allB h1, allB h2, allB h3, fun p hp => pairB (allB h4 p hp), fun p hp => pairB (allB h5 p hp), fun p hp => pairB (allB h6 p hp), allB h7, fun p hp => pairB (allB h8 p hp), fun p hp => pairB (allB h9 p hp), fun p hp => pairB (allB h10 p hp), fun p hp => pairB (allB h11 p hp), fun p hp => ?_, fun p hp => ?_⟩
  · obtain ⟨a, b⟩ := pairB (allB h12 p hp)
    obtain ⟨b, c⟩ := pairB b
    obtain ⟨c, e⟩ := pairB c
    exact ⟨a, b, not_true c, not_true e⟩
  · obtain ⟨a, b⟩ := pairB (allB h13 p hp)
    exact ⟨a, allB b⟩
section
variable {d : LawD} {K : PySem.W.Frag} {h : Heap} {C : Ctx} {x : Wx}
theorem tv_eq {t : String ⊕ Nat} : DL.tv (d.w K x) t = d.tv K t := by cases t <;> rfl
theorem own_eq {t : String ⊕ Nat} (h : ownT d K t = true) : ∀ c, t = .inr c → ClsI (d.w K x).K ((d.w K x).ct c) := fun c e => by
  subst e
  exact clsIB_ok h
theorem find_of {α : Type} {β : Type} {l : List α} {f : α → Bool} {g : α → β} {b : β} (h : (l.find? f).map g = some b) : ∃ p ∈ l, f p = true ∧ g p = b := by
  cases e : l.find? f with
  | none => rw [e] at h; cases h
  | some p =>
    rw [e] at h
    exact ⟨p, List.mem_of_find?_eq_some e, List.find?_some e, Option.some.inj h⟩
theorem base_ok (F : d.Fs K) (X : K.In h) (G : h.Ns mainGlobals C.mg) (pr : PrOk C.P d.file) : GamOk C (d.w K x) d.g0 where
  ents := fun e he => by cases he
  own := fun e he => by cases he
  gl := fun p hp => by
    have z := F.gl p hp
    obtain ⟨y, c⟩ := p
    cases c with
    | int i => exact He.int_ok X G z
    | str s =>
      obtain ⟨t, q⟩ := He.str_ok X G z
      exact ⟨_, t, q, rfl⟩
    | cls c =>
      obtain ⟨z1, z2⟩ := pairB z
      have e : y = d.name c := of_decide_eq_true z1
      have q := He.glo_ok X G z2
      show C.mg y = some (.ref (He.ga K (d.name c)))
      rw [← e]; exact q
    | tup l =>
      obtain ⟨z1, z2⟩ := pairB z
      exact ⟨_, He.glo_ok X G z1, tupB_ok z2⟩
    | non => cases z
    | bl b => cases z
    | ty n => cases z
  free := fun y hy => He.free_ok X G (F.free y hy)
  kk := fun t u b e => by
    obtain ⟨p, hp, hf, hb⟩ := find_of e
    obtain ⟨e1, e2⟩ := pairB hf
    have e1 := of_decide_eq_true e1
    have e2 := of_decide_eq_true e2
    obtain ⟨z1, z2⟩ := F.kk p hp
    rw [e1] at z1 z2
    rw [e2, hb] at z1
    exact ⟨by rw [tv_eq, tv_eq]; exact of_decide_eq_true z1, own_eq z2⟩
  ke := fun t u b e => by
    obtain ⟨p, hp, hf, hb⟩ := find_of e
    obtain ⟨e1, e2⟩ := pairB hf
    have e1 := of_decide_eq_true e1
    have e2 := of_decide_eq_true e2
    obtain ⟨z1, z2⟩ := F.ke p hp
    rw [e1] at z1 z2
    rw [e2, hb] at z1
    exact ⟨by rw [tv_eq]; exact of_decide_eq_true z1, ecB_ok z2⟩
  fld := fun p hp => ⟨He.cls_ok (F.fld p hp).1, He.noat_ok (F.fld p hp).2⟩
  fldX := fun p hp => ⟨xfB_ok (F.fldX p hp).1, He.eqO_ok (F.fldX p hp).2⟩
  nd := List.nodup_nil
  lams := fun l hl => by cases hl
  rs := fun p hp => by
    obtain ⟨q, hq, rfl⟩ := List.mem_map.mp hp
    obtain ⟨z1, z2, z3, z4⟩ := F.rs q hq
    exact ⟨_, d.file, supB_ok z3 z1, He.glo_ok X G z2, pr, by intro e; have e : q.2 = "self" := e; rw [e] at z3; exact absurd z3 (by decide), z4⟩
  cat := fun p hp => by
    obtain ⟨q, hq, rfl⟩ := List.mem_map.mp hp
    obtain ⟨z1, z2⟩ := F.cat q hq
    exact ⟨_, He.glo_ok X G z1, fun r hr => of_decide_eq_true (z2 r hr)⟩
theorem nf_ok (F : d.Fs K) {c : Nat} : NF (d.w K x) c (d.nfF c) := fun t ht => by
  obtain ⟨p, hp, hf⟩ := List.any_eq_true.mp ht
  obtain ⟨e1, e2⟩ := pairB hf
  have e1 := of_decide_eq_true e1
  have e2 := of_decide_eq_true e2
  obtain ⟨z1, z2⟩ := F.nf p hp
  rw [e1, e2] at z1
  rw [e2] at z2
  exact ⟨by rw [tv_eq]; exact z1, own_eq z2⟩
/-- one def's text over the law's -/
def LawD.gam (d : LawD) (N : List Str) (ents : List Ent) (lvl : Nat) (lams : List LamI := []) (askN : Option Str := none) (ask : List M → ER := fun _ => .bad) (keep : Bool := false) : Gam := { d.g0 with N := N, ents := ents, lvl := lvl, lams := lams, askN := askN, ask := ask, keep := keep }
theorem gam_ok {N : List Str} {ents : List Ent} {lvl : Nat} {lams : List LamI} {askN : Option Str} {ask : List M → ER} {keep : Bool} (B : GamOk C (d.w K x) d.g0) (nd : N.Nodup) (he : ∀ e ∈ ents, EntOk C (d.w K x) lvl e) (ho : ∀ e ∈ ents, e.isMe = true → e.x = ("__eq__" : Str) ∨ e.x = ("__len__" : Str) → OwnOk C (d.w K x) (d.gam N ents lvl lams askN ask keep) e)
    (hl : ∀ l ∈ lams, LamOk C (d.w K x) lvl l) : GamOk C (d.w K x) (d.gam N ents lvl lams askN ask keep) :=
  ⟨he, ho, B.gl, B.free, B.kk, B.ke, B.fld, B.fldX, nd, hl, B.rs, B.cat⟩
theorem all_nil {α : Type} {P : α → Prop} : ∀ x ∈ ([] : List α), P x := fun _ h => by cases h
theorem all_cons {α : Type} {P : α → Prop} {a : α} {l : List α} (h : P a) (t : ∀ x ∈ l, P x) : ∀ x ∈ a :: l, P x := fun x hx => (List.mem_cons.mp hx).elim (fun e => e ▸ h) (t x)
/-- a def that stands: its promise -/
structure DefOk (C : Ctx) (w : Wd) (K : PySem.W.Frag) (p : Str × Option Str) (lvl : Nat) (dd : He.DefD) (ps : List Str) (n : Nat) (la : Bool) (m : FD) : Prop where
  ok : ∃ fd, FunD K dd.name dd.qual dd.params dd.body dd.scope (dd.dvs K) (dd.kws K) (He.fAd K p) fd ∧ FnG C.P C.wo K C.mg C.base lvl (He.fAd K p) fd ps (SpD w (Qx C.tb la) n m)
def KbOk (K : PySem.W.Frag) (dd : He.DefD) (ps : List Str) (np : Nat) (ks : List Str) (gD : List D → List D → List D) : Prop :=
  ∀ {f : Addr} {fd : FuncData}, FunD K dd.name dd.qual dd.params dd.body dd.scope (dd.dvs K) (dd.kws K) f fd → ∃ g gV, KBn K fd ps np ks g gV ∧ OrdD gV gD
theorem ent_fn (F : d.Fs K) (X : K.In h) (G : h.Ns mainGlobals C.mg) {e : Ent} {lvl k : Nat} {dd : He.DefD} {ps : List Str} (D : DefOk C (d.w K x) K (e.x, none) k dd ps e.n e.la e.m) (kb : KbOk K dd ps e.np e.ks e.gD) (hk : k + 1 ≤ lvl) (hx : d.glo.contains e.x = true) (kd : e.kd = .fn) : EntOk C (d.w K x) lvl e := by
  obtain ⟨fd, H, ok⟩ := D.ok
  obtain ⟨g, gV, k1, k2⟩ := kb H
  refine ⟨_, fd, k, ps, g, gV, d.w K x, hk, ok, rfl, rfl, k1, k2, ?_⟩
  rw [kd]
  exact ⟨He.glo_ok X G (F.glo _ (by simpa using hx)), H.kp⟩
theorem ent_me (F : d.Fs K) {e : Ent} {lvl k c : Nat} {dd : He.DefD} {ps : List Str} (D : DefOk C (d.w K x) K (d.name c, some e.x) k dd ps e.n e.la e.m) (kb : KbOk K dd ps e.np e.ks e.gD) (hk : k + 1 ≤ lvl) (hx : d.mth.contains (c, e.x) = true) (kd : e.kd = .me c) : EntOk C (d.w K x) lvl e := by
  obtain ⟨fd, H, ok⟩ := D.ok
  obtain ⟨g, gV, k1, k2⟩ := kb H
  refine ⟨_, fd, k, ps, g, gV, d.w K x, hk, ok, rfl, rfl, k1, k2, ?_⟩
  rw [kd]
  obtain ⟨z1, z2⟩ := F.mth (c, e.x) (by simpa using hx)
  exact ⟨He.cls_ok z1, He.meth_ok z2⟩
theorem ent_mk (F : d.Fs K) (X : K.In h) (G : h.Ns mainGlobals C.mg) {e : Ent} {lvl k c : Nat} {dd : He.DefD} {ps : List Str} (D : DefOk C (d.w K x) K (d.name c, some "__init__") k dd ps e.n e.la e.m) (kb : KbOk K dd ps e.np e.ks e.gD) (hk : k + 1 ≤ lvl) (hx : d.mkr.contains c = true) (hn : d.glo.contains e.x = true) (en : e.x = d.name c) (kd : e.kd = .mk c) : EntOk C (d.w K x) lvl e := by
  obtain ⟨fd, H, ok⟩ := D.ok
  obtain ⟨g, gV, k1, k2⟩ := kb H
  refine ⟨_, fd, k, ps, g, gV, d.w K x, hk, ok, rfl, rfl, k1, k2, ?_⟩
  rw [kd]
  refine ⟨He.mkr_ok (F.mkr c (by simpa using hx)), ?_⟩
  have z := He.glo_ok X G (F.glo e.x (by simpa using hn))
  rw [en] at z ⊢
  exact z
theorem ent_own (F : d.Fs K) {Γ : Gam} {e : Ent} {k c : Nat} {dd : He.DefD} {ps : List Str} (D : DefOk C (d.w K x) K (d.name c, some e.x) k dd ps e.n e.la e.m) (kb : KbOk K dd ps ps.length [] (ordG ((List.range ps.length).map .pos) [])) (hb : ∀ {f fd}, FunD K dd.name dd.qual dd.params dd.body dd.scope (dd.dvs K) (dd.kws K) f fd → Binds K fd ps []) (hk : k + 1 ≤ Γ.lvl) (hx : d.mth.contains (c, e.x) = true) (ho : d.own.contains c = true) (hn : Γ.nf = d.nfF) (kd : e.kd = .me c) : OwnOk C (d.w K x) Γ e := by
  obtain ⟨fd, H, ok⟩ := D.ok
  obtain ⟨z1, z2⟩ := F.mth (c, e.x) (by simpa using hx)
  have M := He.meth_ok z2
  have ec : e.cn = c := by unfold Ent.cn; rw [kd]
  refine ⟨⟨_, fd, k, ps, d.w K x, hk, ok, rfl, rfl, hb H, ?_, M.fn⟩, fun _ => ?_⟩
  · rw [ec]; exact M.at_
  · obtain ⟨y1, y2⟩ := F.own c (by simpa using ho)
    rw [ec, hn]
    exact ⟨He.eqO_ok y1, of_decide_eq_true y2, nf_ok F⟩
end
end DL

/-! The law's end. -/
namespace DL
open PySem PySem.Spec PyProof.Rows L2
/-- the defs that make lambdas, with their lambdas' qualified name -/
abbrev Tq : Type := List (He.Defn × Str)
def tbs (tq : Tq) (K : PySem.W.Frag) : List (Addr × Str) := tq.map fun p => ((He.cT K p.1).2, p.2)
def x0 (tq : Tq) (K : PySem.W.Frag) : Wx := ⟨[], tbs tq K, [], none⟩
def tabUn (tq : Tq) (K : PySem.W.Frag) : Bool := (tbs tq K).all fun p => (tbs tq K).all fun q => !decide (q.1 = p.1) || decide (q.2 = p.2)
def LawD.exT (d : LawD) (tq : Tq) (K : PySem.W.Frag) : Bool := d.ex K && tabUn tq K
theorem qx0 {tq : Tq} {K : PySem.W.Frag} {la : Bool} (h : tabUn tq K = true) : Qx (tbs tq K) la (x0 tq K) := ⟨fun p hp => hp, fun p hp q hq e => by
  have z := allB (allB h p hp) q hq
  rcases Bool.or_eq_true_iff.mp z with z | z
  · have z := not_true z
    exact absurd e (of_decide_eq_false z)
  · exact of_decide_eq_true z, fun _ => rfl⟩
theorem den_script {w : Wd} {H : Hp} {a : Addr} {ns : List Int} (hf : w.fr = []) (h : SqL w.K H a (ns.map V.int)) : Den w [] H (.ref a) (.ro (ns.map .int)) := by
  have dn : Dens w [] H (ns.map V.int) (ns.map .int) := by
    clear h
    induction ns with
    | nil => exact .nil
    | cons n ns ih => exact .cons (.int n) ih
  rcases h with h | h
  · exact .ro (by rw [hf]; exact List.not_mem_nil) List.not_mem_nil h dn
  · exact .roK (fun H' => .inr h) dn
theorem fd_one {K : PySem.W.Frag} {x x' q q' : Str} {ps ps' : Arguments} {b b' : List Stmt} {s s' : Scope} {dv dv' : List V} {kw kw' : List (Str × V)} {f : Addr} {fd fd' : FuncData} (F : FunD K x q ps b s dv kw f fd) (F' : FunD K x' q' ps' b' s' dv' kw' f fd') : fd = fd' := by
  obtain ⟨oc, od, dV, kV, doc, pm, an, cdv, ct, osl, _, lk, _⟩ := F.ex
  obtain ⟨oc', od', dV', kV', doc', pm', an', cdv', ct', osl', _, lk', _⟩ := F'.ex
  rw [lk] at lk'
  cases lk'
  rfl
/-! ### the call of law at the top: what is tracked are the tables, and the script if the text does not hold it -/
def trkD : Data → Bool
  | .seq _ _ => true
  | .fields vs => vs.isEmpty
  | _ => false
/-- only objects of these kinds are tracked -/
def FewT (g : Heap) (G : Hp) : Prop := ∀ b o, g.get? b = some o → G b ≠ none → trkD o.data = true
theorem kept_b {g : Heap} {G : Hp} (F : FewT g G) {b : Addr} {o : Obj} (e : g.get? b = some o) (n : trkD o.data = false) : (hidT g G).get? b = some o := hidT_get e (by
  cases q : G b with
  | none => rfl
  | some u =>
    have z := F b o e (by rw [q]; simp)
    rw [n] at z; cases z)
theorem kept_ns {g : Heap} {G : Hp} (F : FewT g G) {b : Addr} {m : Str → Option Value} : g.Ns b m → (hidT g G).Ns b m := fun ⟨o, es, ep, e, dd, r⟩ => ⟨o, es, ep, kept_b F e (by rw [dd]; rfl), dd, r⟩
theorem kept_code {g : Heap} {G : Hp} (F : FewT g G) {c p : Addr} (h : PySem.W.CodeHd g c p) : PySem.W.CodeHd (hidT g G) c p := by
  obtain ⟨o, us, fl, tf, fg, tg, inf, tx, tt, e1, r1, r2, r3, rest⟩ := h
  refine ⟨o, us, fl, tf, fg, tg, inf, tx, tt, kept_b F e1 ?_, r1, r2, r3, rest⟩
  rw [r2]
  show us.isEmpty = false
  cases hz : us.isEmpty with
  | false => rfl
  | true =>
    rw [Array.isEmpty_iff.mp hz] at r3
    simp at r3
/-- the heap at the call -/
structure TopAt (K : PySem.W.Frag) (g : Heap) (mg : Str → Option Value) (cs : List (Addr × Addr)) : Prop where
  k : K.In g
  ns : g.Ns mainGlobals mg
  bl : ∃ mb, g.Ns builtinsNs mb ∧ ∀ x : Str, x ≠ "__name__" → mb x = bootBuiltins x
  lim : g.NoLimit
  tab : ∀ p ∈ cs, g.get? p.2 = some { cls := .none, data := .fields #[] }
  nok : ∀ p ∈ cs, K.lookup p.2 = none
  code : ∀ p ∈ cs, PySem.W.CodeHd g p.1 p.2
  bm : ∃ (bm : Addr) (ob : Obj), mg "__builtins__" = some (.ref bm) ∧ bm ≠ builtinsNs ∧ g.get? bm = some ob ∧ ob.cls = .type "module" ∧ ob.dict = some builtinsNs ∧ ob.data = .plain
theorem TopAt.table {K : PySem.W.Frag} {g : Heap} {mg : Str → Option Value} {cs : List (Addr × Addr)} (T : TopAt K g mg cs) {G : Hp} (F : FewT g G) {p : Addr × Addr} (hp : p ∈ cs) : LamX.TabB (hidT g G) mg p.1 p.2 := by
  have tp := T.tab p hp
  obtain ⟨on, es, ep, en, dn, _⟩ := T.ns
  obtain ⟨bm, ob, b1, b2, b3, b4, b5, b6⟩ := T.bm
  refine ⟨kept_code F (T.code p hp), ⟨bm, ob, b1, b2, fun q => ?_, fun q => ?_, kept_b F b3 (by rw [b6]; rfl), b4, b5, b6⟩, fun q => ?_⟩
  · rw [q, en] at b3
    have b3 := Option.some.inj b3
    rw [b3, b6] at dn; cases dn
  · rw [q, tp] at b3
    have b3 := Option.some.inj b3
    rw [← b3] at b6; cases b6
  · rw [q, tp] at en
    have en := Option.some.inj en
    rw [← en] at dn; cases dn
theorem top_run {P : Program} {w : World} {K : PySem.W.Frag} {mg : Str → Option Value} {k : Nat} {fa a : Addr} {cs : List (Addr × Addr)} {fd : FuncData} {x : Str} {sp : Sp} {t : Shared} {G : Hp} (T : TopAt K t.heap mg cs) (hg : t.gens = #[]) (hr : RoomG k callerA) (F : FewT t.heap G) (hok : HOk P w G t.heap)
    (hK : ∀ b o, K.lookup b = some o → G b = none) (hG : ∀ b u, G b = some u → (∃ p ∈ cs, p.2 = b ∧ u = .tbl #[]) ∨ ∃ o xs, u = .frz o (.lst xs)) (hT : ∀ p ∈ cs, G p.2 = some (.tbl #[]))
    (FN : FnG P w K mg (hidT t.heap G) k fa fd [x] sp) (hb : ∀ (s : Shared) (u : Value), BindsTo s fd ⟨[u], []⟩ [(x, u)]) (hsp : sp [.ref a] G (fun v _ => v = .bl true) fun _ _ _ => False) :
    codeAny (model P w) callerA (.call (.ref fa) ⟨[.ref a], []⟩) (fun r s' => r = .ok (.ret (.bool true)) ∧ OldK t.heap s'.heap ∧ s'.os = t.os ∧ AllBare s'.gens) t := by
  obtain ⟨mb, n1, n2⟩ := T.bl
  obtain ⟨mc, l1, l2⟩ := T.lim
  have hM : L2.Mod K mg (hidT t.heap G) := ⟨fun b o e => hidT_get (T.k b o e) (hK b o e), kept_ns F T.ns, ⟨mb, kept_ns F n1, n2⟩, ⟨mc, kept_ns F l1, l2⟩⟩
  have e0 : Env0 P w K mg (hidT t.heap G) callerA [] t G := ⟨rfl, hM, fun b o e => of_hidT e, Nat.le_of_eq (hidT_size _ _), trivial, (fun b z => absurd (show b ∈ ([] : List Addr) from z) List.not_mem_nil), hok, AllBare.of_eq hg⟩
  refine codeAny_mono (FN.run callerA [] t G ⟨[.ref a], []⟩ [.ref a] [.ref a] _ _ hr e0 (hb t (.ref a)) (.cons rfl .nil) hsp) fun r t' z => ?_
  cases r with
  | error er =>
    obtain ⟨_, _, _, _, _, _, _, _, _, _, _, _, z⟩ := z
    exact z.elim
  | ok fl => cases fl with
    | ret u =>
      obtain ⟨v, G', os, bare, un, hok', rv, (qv : v = .bl true)⟩ := z
      subst qv
      obtain rfl : u = Value.bool true := rv
      have nof : ∀ b : Addr, b ∉ frs ([] : List Env) := fun b z => absurd (show b ∈ ([] : List Addr) from z) List.not_mem_nil
      have stays : ∀ b o, t.heap.get? b = some o → t'.heap.get? b = some o ∨ ∃ p ∈ cs, p.2 = b ∧ ∃ more : Array Value, t'.heap.get? b = some { cls := .none, data := .fields more } := fun b o e => by
        cases q : G b with
        | none => exact .inl (un.keep b o e q (nof b) List.not_mem_nil)
        | some u =>
          rcases hG b u q with ⟨p, hp, rfl, rfl⟩ | ⟨ob, xs, rfl⟩
          · obtain ⟨more, z⟩ := un.tbls _ #[] q
            exact .inr ⟨p, hp, rfl, _, hok' _ _ z⟩
          · obtain ⟨z1, _⟩ := hok b _ q
            obtain ⟨z2, _⟩ := hok' b _ (un.frzs b ob _ q)
            rw [e] at z1
            have z1 := Option.some.inj z1
            exact .inl (by rw [z1]; exact z2)
      refine ⟨rfl, ⟨fun b o e => ?_, fun b o e => ?_⟩, os, bare⟩
      · rcases stays b o e with z | ⟨p, hp, rfl, more, z⟩
        · exact .inl z
        · rw [T.tab p hp] at e
          have e := Option.some.inj e
          subst e
          exact .inr (.inl ⟨((T.code p hp).tab (T.tab p hp)).isCodeTable, rfl, #[], more, rfl, by rw [Array.empty_append]; exact z⟩)
      · rcases stays b o e with z | ⟨p, hp, rfl, more, z⟩
        · exact ⟨o, z⟩
        · exact ⟨_, z⟩
    | _ => exact False.elim z
/-- what the law's def promises at the head's heap -/
def LawG (l : PySem.W.OpenLaw) (w : World) (K : PySem.W.Frag) (k : Nat) (x : Str) (mg : Str → Option Value) (fa : Addr) (h : Heap) : Prop :=
  ∃ (fd : FuncData) (cs : List (Addr × Addr)) (sp : Sp), (∀ p ∈ cs, h.get? p.2 = some { cls := .none, data := .fields #[] }) ∧ (∀ p ∈ cs, K.lookup p.2 = none) ∧ (∀ p ∈ cs, PySem.W.CodeHd h p.1 p.2) ∧ (∀ (s : Shared) (u : Value), BindsTo s fd ⟨[u], []⟩ [(x, u)]) ∧
    (∀ (G : Hp) (a : Addr) (ns : List Int), ns.length ≤ 63 → (∀ z ∈ ns, Builtin.Int.intBits z ≤ 1048576) → (∀ p ∈ cs, G p.2 = some (.tbl #[])) → SqL K G a (ns.map V.int) → sp [.ref a] G (fun v _ => v = .bl true) fun _ _ _ => False) ∧
    ∀ base : Heap, K.In base → base.Ns mainGlobals mg → (∀ p ∈ cs, LamX.TabB base mg p.1 p.2) → FnG l.prog w K mg base k fa fd [x] sp
theorem walkG {l : PySem.W.OpenLaw} {k : Nat} {q : Program} {loose : List Str} {XP : (Str → Option Value) → Heap → Prop} {YP : World → Heap → Prop} {d : DefRec} {x : Str} (hn : l.most = some 63) (hdf : d.params.defaults = []) (hr : Room k callerA)
    (F : ∀ (w : World) (mg : Str → Option Value) (fa : Addr) (h : Heap), YP w h → h.Ns mainGlobals mg → mg d.name = some (.ref fa) → ∃ K : PySem.W.Frag, K.In h ∧ LawG l w K k x mg fa h) : PySem.W.WalkO q loose XP YP l.row.toRowW d [] (fun f vs => PySem.call f vs) := by
  refine Att.attach_callB hn hdf fun w _ t mg mb fa _ _ _ _ a vs ns R Y _ _ _ hmg hobj hi hlen hbits hg => ?_
  obtain ⟨K, KX, fd, cs, sp, hT, nT, hC, hb, hsp, hF⟩ := F w mg fa _ Y R.T.g hmg
  have T : TopAt K t.heap mg cs := ⟨KX, R.T.g, ⟨mb, R.T.b, R.T.builtins⟩, R.T.nolimit, hT, nT, hC, R.T.bmain⟩
  have rv := vals_ints hi
  have hlen2 : ns.length ≤ sizeLine := by rw [sizeLine_eq]; omega
  have lenV := hi.length
  have isT : ∀ b, b ∈ cs.map (·.2) → t.heap.get? b = some { cls := .none, data := .fields #[] } := fun b z => by
    obtain ⟨p, hp, rfl⟩ := List.mem_map.mp z
    exact hT p hp
  have aT : a ∉ cs.map (·.2) := fun z => by
    have e := isT a z
    rw [hobj] at e
    have e := congrArg Obj.data (Option.some.inj e)
    cases e
  have inT : ∀ p ∈ cs, p.2 ∈ cs.map (·.2) := fun p hp => List.mem_map_of_mem hp
  obtain ⟨sc, hsc⟩ : ∃ sc : Obj, sc = { cls := .type "list", data := .seq vs.toArray } := ⟨_, rfl⟩
  rw [← hsc] at hobj
  have lone : vs.length = ns.length := by omega
  -- the tracked heap, with or without the script
  obtain ⟨G, g1, g2, g3⟩ : ∃ G : Hp, (∀ p ∈ cs, G p.2 = some (.tbl #[])) ∧ (∀ b u, G b = some u → (∃ p ∈ cs, p.2 = b ∧ u = .tbl #[]) ∨ (b = a ∧ K.lookup a = none ∧ u = .frz sc (.lst (ns.map V.int)))) ∧ SqL K G a (ns.map V.int) := by
    cases hk : K.lookup a with
    | some o =>
      refine ⟨fun b => if b ∈ cs.map (·.2) then some (.tbl #[]) else none, fun p hp => if_pos (inT p hp), fun b u z => ?_, .inr ⟨sc, vs.toArray, 0, ?_, by rw [hsc], by rw [hsc], by rw [hsc], by simp; omega, by simpa using rv⟩⟩
      · by_cases hb : b ∈ cs.map (·.2)
        · obtain ⟨p, hp, rfl⟩ := List.mem_map.mp hb
          simp only [hb, if_true] at z
          exact .inl ⟨p, hp, rfl, (Option.some.inj z).symm⟩
        · simp only [hb, if_false] at z; cases z
      · have e := KX a o hk
        rw [hobj] at e
        rw [Option.some.inj e]; exact hk
    | none =>
      refine ⟨fun b => if b = a then some (.frz sc (.lst (ns.map V.int))) else if b ∈ cs.map (·.2) then some (.tbl #[]) else none, fun p hp => ?_, fun b u z => ?_, .inl (.inr ⟨sc, if_pos rfl⟩)⟩
      · have ne : ¬ p.2 = a := fun z => aT (z ▸ inT p hp)
        simp only [ne, if_false, inT p hp, if_true]
      · by_cases h1 : b = a
        · simp only [h1, if_true] at z
          exact .inr ⟨h1, rfl, (Option.some.inj z).symm⟩
        · by_cases hb : b ∈ cs.map (·.2)
          · obtain ⟨p, hp, rfl⟩ := List.mem_map.mp hb
            simp only [h1, if_false, hb, if_true] at z
            exact .inl ⟨p, hp, rfl, (Option.some.inj z).symm⟩
          · simp only [h1, hb, if_false] at z; cases z
  have few : FewT t.heap G := fun b o e n => by
    cases q : G b with
    | none => exact absurd q n
    | some u =>
      rcases g2 b u q with ⟨p, hp, rfl, _⟩ | ⟨rfl, _, _⟩
      · rw [hT p hp] at e
        rw [← Option.some.inj e]; rfl
      · rw [hobj] at e
        rw [← Option.some.inj e, hsc]; rfl
  have hok : HOk l.prog w G t.heap := fun b u q => by
    rcases g2 b u q with ⟨p, hp, rfl, rfl⟩ | ⟨rfl, _, rfl⟩
    · exact hT p hp
    · refine ⟨hobj, by rw [List.length_map]; exact hlen2, vs, 0, rv, ?_⟩
      rw [hobj, hsc]
  have nk : ∀ b o, K.lookup b = some o → G b = none := fun b o e => by
    cases q : G b with
    | none => rfl
    | some u =>
      rcases g2 b u q with ⟨p, hp, rfl, _⟩ | ⟨rfl, z, _⟩
      · rw [nT p hp] at e; cases e
      · rw [z] at e; cases e
  refine top_run T hg ⟨hr, rfl⟩ few hok nk (fun b u q => ?_) g1 (hF _ (fun b o e => hidT_get (KX b o e) (nk b o e)) (kept_ns few R.T.g) fun p hp => T.table few hp) hb (hsp G a ns hlen hbits g1 g3)
  rcases g2 b u q with z | ⟨_, _, z⟩
  · exact .inl z
  · exact .inr ⟨_, _, z⟩
theorem law_at {l : PySem.W.OpenLaw} {w : World} {K : PySem.W.Frag} {h : Heap} {mg : Str → Option Value} {d : LawD} {dl : He.DefD} {k : Nat} {tq : Tq} {fn : List He.DefD} {m : FD} {la : Bool} {x : Str} (S : He.SaysX [] fn [] (tq.map (·.1)) (d.exT tq) w h K) (X : K.In h) (G : h.Ns mainGlobals mg)
    (D : ∀ base : Heap, K.In base → base.Ns mainGlobals mg → (∀ p ∈ tq, LamX.TabB base mg (He.cT K p.1).1 (He.cT K p.1).2) → DefOk ⟨l.prog, w, mg, base, tbs tq K⟩ (d.w K (x0 tq K)) K ("law", none) k dl [x] 1 la m)
    (H0 : ∃ fd, FunD K dl.name dl.qual dl.params dl.body dl.scope (dl.dvs K) (dl.kws K) (He.fAd K ("law", none)) fd) (hd : dl.dfl = []) (hkd : dl.kwd = [])
    (hb : ∀ (kV doc pm : Value) (an : Option Addr) (cdv ct u : Value), bindArgs (PySem.W.fnOf dl.name dl.qual dl.params dl.body dl.scope .none kV doc pm an cdv ct) ⟨[u], []⟩ = pure [(x, u)])
    (hm : ∀ ns : List Int, ns.length ≤ 63 → (∀ z ∈ ns, Builtin.Int.intBits z ≤ 1048576) → ∃ μ, m [.ro (ns.map .int)] [] = .ok (.bl true) μ) : LawG l w K k x mg (He.ga K "law") h := by
  obtain ⟨fd, F0⟩ := H0
  obtain ⟨_, hun⟩ := pairB S.more
  have dv : dl.dvs K = [] := by unfold He.DefD.dvs; rw [hd]; rfl
  have kv : dl.kws K = [] := by unfold He.DefD.kws; rw [hkd]; rfl
  refine ⟨fd, (tq.map (·.1)).map (He.cT K), SpD (d.w K (x0 tq K)) (Qx (tbs tq K) la) 1 m, fun p hp => ?_, fun p hp => ?_, fun p hp => ?_, fun s u => ?_, fun H a ns hl hbits hT hS => ?_, fun base KB GB hTb => ?_⟩
  · obtain ⟨q, hq, rfl⟩ := List.mem_map.mp hp
    exact S.empty q hq
  · obtain ⟨q, hq, rfl⟩ := List.mem_map.mp hp
    exact S.out q hq
  · obtain ⟨q, hq, rfl⟩ := List.mem_map.mp hp
    exact PySem.W.codeHd_of_K X (S.hd q hq)
  · have F1 := F0
    rw [dv, kv] at F1
    exact FunD.bindsA (ps := [x]) F1 (fun kV doc pm an cdv ct us hl => by
      match us, hl with
      | [u], _ => exact hb kV doc pm an cdv ct u) s [u] rfl
  · obtain ⟨μ, hμ⟩ := hm ns hl hbits
    refine ⟨[], x0 tq K, [], [.ro (ns.map .int)], [], qx0 hun, rfl, ⟨List.nodup_nil, (fun a z => by cases z), rfl, (fun n a m h1 => by simp at h1), (fun a z => by cases z), (fun p z => by cases z), ⟨fun p hp => ?_, fun p z => by cases z⟩⟩, .cons (den_script rfl hS) .nil, ?_⟩
    · obtain ⟨q, hq, rfl⟩ := List.mem_map.mp hp
      refine ⟨List.not_mem_nil, List.not_mem_nil, #[], hT (He.cT K q.1) (List.mem_map_of_mem (List.mem_map_of_mem hq)), trivial, fun pos cv e => by cases e⟩
    · rw [hμ]
      intro v H' as' _ _ dn
      cases dn
      rfl
  · obtain ⟨fd', F1, ok⟩ := (D base KB GB fun p hp => hTb _ (List.mem_map_of_mem (List.mem_map_of_mem hp))).ok
    cases fd_one F0 F1
    exact ok
/-- a def among those that are looked at -/
theorem def_in {ts : List He.Tab} {tf : List He.Defn} {fn : List He.DefD} {ex : PySem.W.Frag → Bool} {w : World} {h : Heap} {K : PySem.W.Frag} (S : He.SaysX [] fn ts tf ex w h K) (i : Nat) {dd : He.DefD} (e : fn[i]? = some dd) : ∃ fd, FunD K dd.name dd.qual dd.params dd.body dd.scope (dd.dvs K) (dd.kws K) (He.fAd K dd.at_) fd :=
  S.t.d.def_ i e
theorem code_of {K : PySem.W.Frag} {x q : Str} {ps : Arguments} {b : List Stmt} {s : Scope} {dv : List V} {kw : List (Str × V)} {p : He.Defn} {fd : FuncData} (F : FunD K x q ps b s dv kw (He.fAd K p) fd) : fd.code = .ref (He.codeOf K p) := by
  obtain ⟨oc, od, dV, kV, doc, pm, an, cdv, ct, osl, rfl, lk, hcd, _⟩ := F.ex
  obtain ⟨c, hc⟩ := He.codeIn_ref hcd
  have z := He.codeOf_eq lk (c := c) (by show cdv = _; exact hc)
  rw [z]
  exact hc
theorem fun_ofD {K : PySem.W.Frag} {x q : Str} {st : Stmt} {dv : List V} {kw : List (Str × V)} {f : Addr} {fd : FuncData} (F : FunD K x q (defArgs st) (defBody st) (defScope st) dv kw f fd) (hd : dv = []) : L2.Fun K x q st f fd := by
  obtain ⟨oc, od, dV, kV, doc, pm, an, cdv, ct, osl, e, lk, hcd, hD, _⟩ := F.ex
  rcases hD with ⟨_, e2⟩ | ⟨z, _⟩
  · subst e2
    exact ⟨⟨oc, od, kV, doc, pm, an, cdv, ct, osl, e, lk, hcd⟩, F.kp⟩
  · exact absurd hd z
/-! ### the head's look: what the names reach in n steps, the statics' table besides -/
def keepZ (n : Nat) (g : Addr → Option Obj) : PySem.W.Frag := He.frT g (He.asD g n ++ [cStatics])
def seeZ (n : Nat) (fn : List He.DefD) (tf : List He.Defn) (ex : PySem.W.Frag → Bool) (g : Addr → Option Obj) : He.AlX := (He.obsT [] fn [] (keepZ n g), ex (keepZ n g) && He.tabsB g tf (keepZ n g))
theorem tab_at {g : Addr → Option Obj} {tf : List He.Defn} {K : PySem.W.Frag} (h : He.tabsB g tf K = true) {p : He.Defn} (hp : p ∈ tf) : PySem.W.codeHdIn K (He.cT K p).1 (He.cT K p).2 = true ∧ ∃ o, g (He.cT K p).2 = some o ∧ He.emptyTab o = true := by
  obtain ⟨h1, h2⟩ := pairB (allB h p hp)
  refine ⟨h1, ?_⟩
  cases q : g (He.cT K p).2 with
  | none => simp only [q] at h2; cases h2
  | some o => simp only [q] at h2; exact ⟨o, rfl, h2⟩
theorem seeZ_says {n : Nat} {fn : List He.DefD} {tf : List He.Defn} {ex : PySem.W.Frag → Bool} {w : World} {h : Heap} (e : seeZ n fn tf ex h.get? = He.valX fn [] w) : He.SaysX [] fn [] tf ex w h (keepZ n h.get?) := by
  obtain ⟨e1, e2⟩ := Prod.mk.inj e
  obtain ⟨h1, h2⟩ := pairB e2
  refine ⟨e1, h1, fun p hp => (tab_at h2 hp).1, fun p hp => ?_, fun p hp => ?_⟩
  · obtain ⟨_, o, q, z⟩ := tab_at h2 hp
    exact He.frT_none q z
  · obtain ⟨_, o, q, z⟩ := tab_at h2 hp
    rw [q, He.emptyTab_eq z]
def hookZ (n : Nat) (fn : List He.DefD) (tf : List He.Defn) (ex : PySem.W.Frag → Bool) : PySem.W.Hook :=
  { α := He.AlX, obs := fun s => seeZ n fn tf ex s.heap.get?, val := fun w => He.valX fn [] w, says := fun w h => ∃ K : PySem.W.Frag, K.In h ∧ He.SaysX [] fn [] tf ex w h K, of := fun _ _ e => ⟨_, He.frT_in, seeZ_says e⟩,
    keeps := fun _ _ _ ⟨K, hK, c⟩ k => ⟨K, PySem.W.Frag.In.keeps hK k, c.t, c.more, c.hd, c.out, fun p hp => k _ _ (c.empty p hp)⟩ }
theorem seeZ_eq {n : Nat} {fn : List He.DefD} {tf : List He.Defn} {ex : PySem.W.Frag → Bool} {g : Addr → Option Obj} {s : Shared} (h : ∀ a, g a = s.heap.get? a) : seeZ n fn tf ex g = (hookZ n fn tf ex).obs s :=
  congrArg (seeZ n fn tf ex) (funext h)
end DL

/-! What cores reckon, row by row: for simp. -/
namespace DL
open PySem PySem.Spec PyProof.Rows L2
section
variable {Γ : Gam} {δ : Dv} {μ : List M}
@[simp] theorem er_bind_ok {d μ} {k : D → List M → ER} : (ER.ok d μ).bind k = k d μ := rfl
@[simp] theorem er_bind_exc {c fs μ} {k : D → List M → ER} : (ER.exc c fs μ).bind k = .exc c fs μ := rfl
@[simp] theorem er_bindA_ok {d μ} {k : D → List M → AR} : (ER.ok d μ).bindA k = k d μ := rfl
@[simp] theorem er_bindA_exc {c fs μ} {k : D → List M → AR} : (ER.exc c fs μ).bindA k = .exc c fs μ := rfl
@[simp] theorem er_bindT_ok {d μ} {k : D → List M → TR} : (ER.ok d μ).bindT k = k d μ := rfl
@[simp] theorem er_bindT_exc {c fs μ} {k : D → List M → TR} : (ER.exc c fs μ).bindT k = .exc c fs μ := rfl
@[simp] theorem er_bindS_ok {d μ δ} {k : D → List M → SR} : (ER.ok d μ).bindS δ k = k d μ := rfl
@[simp] theorem er_bindS_exc {c fs μ δ} {k : D → List M → SR} : (ER.exc c fs μ).bindS δ k = .exc c fs δ μ := rfl
@[simp] theorem er_bindI_ok {d μ} {k : D → List M → IR} : (ER.ok d μ).bindI k = k d μ := rfl
@[simp] theorem ar_bindE_ok {d μ} {k : List D → List M → ER} : (AR.ok d μ).bindE k = k d μ := rfl
@[simp] theorem ar_bind_ok {d μ} {k : List D → List M → AR} : (AR.ok d μ).bind k = k d μ := rfl
@[simp] theorem ar_bindS_ok {d μ δ} {k : List D → List M → SR} : (AR.ok d μ).bindS δ k = k d μ := rfl
@[simp] theorem ar_bindI_ok {d μ} {k : List D → List M → IR} : (AR.ok d μ).bindI k = k d μ := rfl
@[simp] theorem ar_bindE_exc {c fs μ} {k : List D → List M → ER} : (AR.exc c fs μ).bindE k = .exc c fs μ := rfl
@[simp] theorem ar_bind_exc {c fs μ} {k : List D → List M → AR} : (AR.exc c fs μ).bind k = .exc c fs μ := rfl
@[simp] theorem tr_bindE_ok {d μ} {k : Bool → List M → ER} : (TR.ok d μ).bindE k = k d μ := rfl
@[simp] theorem tr_bind_ok {d μ} {k : Bool → List M → TR} : (TR.ok d μ).bind k = k d μ := rfl
@[simp] theorem tr_bindS_ok {d μ δ} {k : Bool → List M → SR} : (TR.ok d μ).bindS δ k = k d μ := rfl
/-! expressions -/
@[simp] theorem ev_v {i} : evE Γ (.v i) δ μ = match δ[i]? with | some (some d) => .ok d μ | _ => .bad := rfl
@[simp] theorem ev_k {c} : evE Γ (.k c) δ μ = .ok c.d μ := rfl
@[simp] theorem kd_non : Kc.d .non = .non := rfl
@[simp] theorem kd_bl {b} : Kc.d (.bl b) = .bl b := rfl
@[simp] theorem kd_int {i} : Kc.d (.int i) = .int i := rfl
@[simp] theorem kd_str {s} : Kc.d (.str s) = .str s := rfl
@[simp] theorem kd_ty {s} : Kc.d (.ty s) = .ty s := rfl
@[simp] theorem kd_cls {c} : Kc.d (.cls c) = .cls c := rfl
@[simp] theorem ev_bin {o a b} : evE Γ (.bin o a b) δ μ = (evE Γ a δ μ).bind fun x μ => (evE Γ b δ μ).bind fun y μ => o.f x y μ := rfl
@[simp] theorem ev_neg {a} : evE Γ (.neg a) δ μ = (evE Γ a δ μ).bind fun x μ => fNeg x μ := rfl
@[simp] theorem ev_cmp {o a b} : evE Γ (.cmp o a b) δ μ = (evE Γ a δ μ).bind fun x μ => (evE Γ b δ μ).bind fun y μ => o.f x y μ := rfl
@[simp] theorem ev_isN {n a} : evE Γ (.isN n a) δ μ = (evE Γ a δ μ).bind fun x μ => .ok (.bl (if n then !isNon x else isNon x)) μ := rfl
@[simp] theorem ev_eqO {n i a b} : evE Γ (.eqO n i a b) δ μ = (Γ.ent i fun e => mOp (fOwn e.cn (Γ.nf e.cn) (fAr e.n e.m) n) (evE Γ a) (evE Γ b)) δ μ := rfl
@[simp] theorem ev_and {as} : evE Γ (.and as) δ μ = evAnd Γ as δ μ := rfl
@[simp] theorem ev_or {as} : evE Γ (.or as) δ μ = evOr Γ as δ μ := rfl
@[simp] theorem ev_not {a} : evE Γ (.not a) δ μ = (evE Γ a δ μ).bind fun x μ => match x with | .bl b => .ok (.bl (!b)) μ | _ => .bad := rfl
@[simp] theorem ev_ite {t a b} : evE Γ (.ite t a b) δ μ = (evT Γ t δ μ).bindE fun k μ => if k then evE Γ a δ μ else evE Γ b δ μ := rfl
@[simp] theorem ev_tup {as} : evE Γ (.tup as) δ μ = (evA Γ as δ μ).bindE fun ds μ => if lineOk ds.length then .ok (.tup ds) μ else .bad := rfl
@[simp] theorem ev_lst {as} : evE Γ (.lst as) δ μ = (evA Γ as δ μ).bindE fun ds μ => if lineOk ds.length then .ok (.lst ds) μ else .bad := rfl
@[simp] theorem ev_lstM {as} : evE Γ (.lstM as) δ μ = (evA Γ as δ μ).bindE fun ds μ => if lineOk ds.length then .ok (.loc μ.length) (μ ++ [.lst ds]) else .bad := rfl
@[simp] theorem ev_ix {a b} : evE Γ (.ix a b) δ μ = (evE Γ a δ μ).bind fun x μ => (evE Γ b δ μ).bind fun y μ => fIx x y μ := rfl
@[simp] theorem ev_dget {a b} : evE Γ (.dget a b) δ μ = (evE Γ a δ μ).bind fun x μ => (evE Γ b δ μ).bind fun y μ => fDGet x y μ := rfl
@[simp] theorem ev_rev {a} : evE Γ (.rev a) δ μ = (evE Γ a δ μ).bind fun x μ => fRev x μ := rfl
@[simp] theorem ev_bi {b as} : evE Γ (.bi b as) δ μ = (evA Γ as δ μ).bindE fun ds μ => b.f Γ.kks ds μ := rfl
@[simp] theorem ev_bm {b o as} : evE Γ (.bm b o as) δ μ = (evE Γ o δ μ).bind fun x μ => if b.g x μ then (evA Γ as δ μ).bindE fun ds μ => b.f x ds μ else .bad := rfl
@[simp] theorem ev_call {i as ks} : evE Γ (.call i as ks) δ μ = (Γ.ent i fun e => mCallK e.np e.ks.length (fAr e.n e.m) e.gD (evA Γ as) (evA Γ ks)) δ μ := rfl
@[simp] theorem ev_meth {i o as ks} : evE Γ (.meth i o as ks) δ μ = (Γ.ent i fun e => mMethK e.cn e.x e.np e.ks.length (fAr e.n e.m) e.gD (evE Γ o) (evA Γ as) (evA Γ ks)) δ μ := rfl
@[simp] theorem ev_mk {i as ks} : evE Γ (.mk i as ks) δ μ = (Γ.ent i fun e => mMakeG e.cn e.np e.ks.length (fAr e.n e.m) e.gD (evA Γ as) (evA Γ ks)) δ μ := rfl
@[simp] theorem ev_fld {cs f o} : evE Γ (.fld cs f o) δ μ = mFld cs f (evE Γ o) δ μ := rfl
@[simp] theorem ev_fldX {cs f o} : evE Γ (.fldX cs f o) δ μ = mFldX cs f (evE Γ o) δ μ := rfl
@[simp] theorem ev_lenO {i a} : evE Γ (.lenO i a) δ μ = (Γ.ent i fun e => mLenO e.cn (fAr e.n e.m) (evE Γ a)) δ μ := rfl
@[simp] theorem ev_lc {c it g t e own} : evE Γ (.lc c it g t e own) δ μ = mLcB c (evI Γ it) (evG g) (evT Γ t) (evE Γ e) (own.map (·.2)) δ μ := rfl
@[simp] theorem ev_ask {i} : evE Γ (.ask i) δ μ = mAsk i Γ.ask δ μ := rfl
@[simp] theorem ev_dnew {c} : evE Γ (.dnew c) δ μ = if c then .ok (.loc μ.length) (μ ++ [.dic []]) else .ok (.dic []) μ := rfl
@[simp] theorem ev_dicD {ps} : evE Γ (.dicD ps) δ μ = mDicD (evPs Γ ps) δ μ := rfl
@[simp] theorem ev_dicM {ps} : evE Γ (.dicM ps) δ μ = mDicM (evPs Γ ps) δ μ := rfl
@[simp] theorem evPs_nil : evPs Γ .nil = [] := rfl
@[simp] theorem evPs_cons {a b r} : evPs Γ (.cons a b r) = (evE Γ a, evE Γ b) :: evPs Γ r := rfl
@[simp] theorem evA_nil : evA Γ .nil δ μ = .ok [] μ := rfl
@[simp] theorem evA_cons {a r} : evA Γ (.cons a r) δ μ = (evE Γ a δ μ).bindA fun x μ => (evA Γ r δ μ).bind fun xs μ => .ok (x :: xs) μ := rfl
@[simp] theorem evAnd_one {a} : evAnd Γ (.cons a .nil) δ μ = evE Γ a δ μ := rfl
@[simp] theorem evAnd_cons {a b r} : evAnd Γ (.cons a (.cons b r)) δ μ = (evE Γ a δ μ).bind fun x μ => match x with | .bl k => if k then evAnd Γ (.cons b r) δ μ else .ok (.bl false) μ | _ => .bad := rfl
@[simp] theorem evOr_one {a} : evOr Γ (.cons a .nil) δ μ = evE Γ a δ μ := rfl
@[simp] theorem evOr_cons {a b r} : evOr Γ (.cons a (.cons b r)) δ μ = (evE Γ a δ μ).bind fun x μ => match x with | .bl k => if k then .ok (.bl true) μ else evOr Γ (.cons b r) δ μ | _ => .bad := rfl
/-! tests -/
@[simp] theorem evT_yes : evT Γ .yes δ μ = .ok true μ := rfl
@[simp] theorem evT_val {a} : evT Γ (.val a) δ μ = (evE Γ a δ μ).bindT fun d μ => match d with | .bl b => .ok b μ | _ => .bad := rfl
@[simp] theorem evT_isN {n a} : evT Γ (.isN n a) δ μ = (evE Γ (.isN n a) δ μ).bindT fun d μ => match d with | .bl b => .ok b μ | _ => .bad := rfl
@[simp] theorem evT_eqO {n i a b} : evT Γ (.eqO n i a b) δ μ = (evE Γ (.eqO n i a b) δ μ).bindT fun d μ => match d with | .bl b => .ok b μ | _ => .bad := rfl
@[simp] theorem evT_cmp {o a b} : evT Γ (.cmp o a b) δ μ = (evE Γ (.cmp o a b) δ μ).bindT fun d μ => match d with | .bl b => .ok b μ | _ => .bad := rfl
@[simp] theorem evT_and {ts} : evT Γ (.and ts) δ μ = evTAnd Γ ts δ μ := rfl
@[simp] theorem evT_or {ts} : evT Γ (.or ts) δ μ = evTOr Γ ts δ μ := rfl
@[simp] theorem evT_not {t} : evT Γ (.not t) δ μ = (evT Γ t δ μ).bind fun k μ => .ok (!k) μ := rfl
@[simp] theorem evTAnd_one {t} : evTAnd Γ (.one t) δ μ = evT Γ t δ μ := rfl
@[simp] theorem evTAnd_cons {t r} : evTAnd Γ (.cons t r) δ μ = (evT Γ t δ μ).bind fun k μ => if k then evTAnd Γ r δ μ else .ok false μ := rfl
@[simp] theorem evTOr_one {t} : evTOr Γ (.one t) δ μ = evT Γ t δ μ := rfl
@[simp] theorem evTOr_cons {t r} : evTOr Γ (.cons t r) δ μ = (evT Γ t δ μ).bind fun k μ => if k then .ok true μ else evTOr Γ r δ μ := rfl
/-! targets -/
@[simp] theorem evG_nm {i d} : evG (.nm i) d μ δ = some (δ.set i (some d)) := rfl
/-! statements -/
@[simp] theorem evS_nop : evS Γ .nop δ μ = .nx δ μ := rfl
@[simp] theorem evS_expr {e} : evS Γ (.expr e) δ μ = (evE Γ e δ μ).bindS δ fun _ μ => .nx δ μ := rfl
@[simp] theorem evS_ret {e} : evS Γ (.ret e) δ μ = (evE Γ e δ μ).bindS δ fun d μ => .rt d δ μ := rfl
@[simp] theorem evS_retN : evS Γ .retN δ μ = .rt .non δ μ := rfl
@[simp] theorem evS_ite {t a b} : evS Γ (.ite t a b) δ μ = (evT Γ t δ μ).bindS δ fun k μ => if k then evSs Γ a δ μ else evSs Γ b δ μ := rfl
@[simp] theorem evS_asg {g e} : evS Γ (.asg g e) δ μ = (evE Γ e δ μ).bindS δ fun d μ => match evG g d μ δ with | some δ' => .nx δ' μ | none => .bad := rfl
@[simp] theorem evS_asgL {i e} : evS Γ (.asgL i e) δ μ = (evE Γ e δ μ).bindS δ fun d μ => .nx (δ.set i (some d)) μ := rfl
@[simp] theorem evS_brk : evS Γ .brk δ μ = .bk δ μ := rfl
@[simp] theorem evS_cnt : evS Γ .cnt δ μ = .ct δ μ := rfl
@[simp] theorem evS_rse {c f e} : evS Γ (.rse c f e) δ μ = (evE Γ e δ μ).bindS δ fun d μ => .exc c [(f, d)] δ μ := rfl
@[simp] theorem evS_par {i j as} : evS Γ (.par i j as) δ μ = mPar i j (evA Γ as) δ μ := rfl
@[simp] theorem evS_dput {o k e} : evS Γ (.dput o k e) δ μ = mDPut (evE Γ o) (evE Γ k) (evE Γ e) δ μ := rfl
@[simp] theorem evS_lput {o k e} : evS Γ (.lput o k e) δ μ = mLPut (evE Γ o) (evE Γ k) (evE Γ e) δ μ := rfl
@[simp] theorem evS_setF {cs f o e} : evS Γ (.setF cs f o e) δ μ = mSetF cs f (evE Γ o) (evE Γ e) δ μ := rfl
@[simp] theorem evS_loop {it g b} : evS Γ (.loop it g b) δ μ = mFor (evI Γ it) (evG g) (evSs Γ b) δ μ := rfl
@[simp] theorem evSs_nil : evSs Γ .nil δ μ = .nx δ μ := rfl
@[simp] theorem evSs_one {a} : evSs Γ (.cons a .nil) δ μ = evS Γ a δ μ := rfl
@[simp] theorem evSs_cons {a b r} : evSs Γ (.cons a (.cons b r)) δ μ = match evS Γ a δ μ with | .nx δ' μ' => evSs Γ (.cons b r) δ' μ' | r => r := rfl
theorem step {a b r δ1 μ1} (h : evS Γ a δ μ = .nx δ1 μ1) : evSs Γ (.cons a (.cons b r)) δ μ = evSs Γ (.cons b r) δ1 μ1 := by rw [evSs_cons, h]
theorem stop {a r d δ1 μ1} (h : evS Γ a δ μ = .rt d δ1 μ1) : evSs Γ (.cons a r) δ μ = .rt d δ1 μ1 := by
  cases r with
  | nil => exact h
  | cons b r => rw [evSs_cons, h]
theorem stopX {a r c fs δ1 μ1} (h : evS Γ a δ μ = .exc c fs δ1 μ1) : evSs Γ (.cons a r) δ μ = .exc c fs δ1 μ1 := by
  cases r with
  | nil => exact h
  | cons b r => rw [evSs_cons, h]
/-! operators -/
@[simp] theorem bf_add {i j μ} : BK.f .add (.int i) (.int j) μ = .ok (.int (i + j)) μ := rfl
@[simp] theorem bf_addS {a b μ} : BK.f .add (.str a) (.str b) μ = if catOk a.length b.length then .ok (.str (a ++ b)) μ else .bad := rfl
@[simp] theorem bf_addL {a b μ} : BK.f .add (.lst a) (.lst b) μ = if catOk a.length b.length then .ok (.lst (a ++ b)) μ else .bad := rfl
@[simp] theorem bf_sub {i j μ} : BK.f .sub (.int i) (.int j) μ = .ok (.int (i - j)) μ := rfl
@[simp] theorem bf_mod {i j μ} : BK.f .mod (.int i) (.int j) μ = if decide (0 < j) then .ok (.int (i % j)) μ else .bad := rfl
@[simp] theorem bf_div {i j μ} : BK.f .div (.int i) (.int j) μ = if decide (0 < j ∧ j < 1073741824) then .ok (.int (i / j)) μ else .bad := rfl
@[simp] theorem bf_pow {i j μ} : BK.f .pow (.int i) (.int j) μ = if decide (0 ≤ j ∧ j ≤ 1000000 ∧ i.natAbs < 2 ^ 64) then .ok (.int (i ^ j.toNat)) μ else .bad := rfl
@[simp] theorem cf_lt {i j μ} : CK.f .lt (.int i) (.int j) μ = .ok (.bl (decide (i < j))) μ := rfl
@[simp] theorem cf_le {i j μ} : CK.f .le (.int i) (.int j) μ = .ok (.bl (decide (i ≤ j))) μ := rfl
@[simp] theorem cf_gt {i j μ} : CK.f .gt (.int i) (.int j) μ = .ok (.bl (decide (j < i))) μ := rfl
@[simp] theorem cf_ge {i j μ} : CK.f .ge (.int i) (.int j) μ = .ok (.bl (decide (j ≤ i))) μ := rfl
@[simp] theorem bf_mul {i j μ} : BK.f .mul (.int i) (.int j) μ = if mulOk i j then .ok (.int (i * j)) μ else .bad := rfl
@[simp] theorem bf_mulS {s k μ} : BK.f .mul (.str s) (.int k) μ = if repOk s.length k then .ok (.str (List.replicate k.toNat s).flatten) μ else .bad := rfl
@[simp] theorem bf_mulL {s k μ} : BK.f .mul (.lst s) (.int k) μ = if repOk s.length k then .ok (.lst (List.replicate k.toNat s).flatten) μ else .bad := rfl
@[simp] theorem cf_eqI {i j : Int} {μ} : CK.f .eq (.int i) (.int j) μ = .ok (.bl (i == j)) μ := rfl
@[simp] theorem cf_neI {i j : Int} {μ} : CK.f .ne (.int i) (.int j) μ = .ok (.bl (!(i == j))) μ := rfl
@[simp] theorem ev_chn {o o' a b c} : evE Γ (.chn o o' a b c) δ μ = (match o.g, o'.g with
  | some g, some g' => mChain g g' (evE Γ a) (evE Γ b) (evE Γ c)
  | _, _ => fun _ _ => .bad) δ μ := rfl
@[simp] theorem evT_chn {o o' a b c} : evT Γ (.chn o o' a b c) δ μ = (match o.g, o'.g with
  | some g, some g' => mB (mChain g g' (evE Γ a) (evE Γ b) (evE Γ c))
  | _, _ => fun _ _ => .bad) δ μ := rfl
@[simp] theorem mB_eq {m : EM} : mB m δ μ = (m δ μ).bindT fun d μ => match d with | .bl b => .ok b μ | _ => .bad := rfl
@[simp] theorem ckg_lt : CK.g .lt = some fun i j => decide (i < j) := rfl
@[simp] theorem ckg_le : CK.g .le = some fun i j => decide (i ≤ j) := rfl
@[simp] theorem ckg_gt : CK.g .gt = some fun i j => decide (j < i) := rfl
@[simp] theorem ckg_ge : CK.g .ge = some fun i j => decide (j ≤ i) := rfl
theorem mChain_eq {g g'} {a b c : EM} : mChain g g' a b c δ μ = (a δ μ).bind fun x μ => (b δ μ).bind fun y μ => match x, y with
  | .int i, .int j => if g i j then (c δ μ).bind fun z μ => match z with
    | .int k => .ok (.bl (g' j k)) μ
    | _ => .bad
    else .ok (.bl false) μ
  | _, _ => .bad := rfl
@[simp] theorem isiLT_l {k l μ} : BI.f k .isi [.lst l, .tup [.ty "list", .ty "tuple"]] μ = .ok (.bl true) μ := rfl
@[simp] theorem isiLT_t {k l μ} : BI.f k .isi [.tup l, .tup [.ty "list", .ty "tuple"]] μ = .ok (.bl true) μ := rfl
@[simp] theorem isiLT_n {k μ} : BI.f k .isi [.non, .tup [.ty "list", .ty "tuple"]] μ = .ok (.bl false) μ := rfl
@[simp] theorem isiLT_i {k i μ} : BI.f k .isi [.int i, .tup [.ty "list", .ty "tuple"]] μ = .ok (.bl false) μ := rfl
@[simp] theorem isiLT_s {k i μ} : BI.f k .isi [.str i, .tup [.ty "list", .ty "tuple"]] μ = .ok (.bl false) μ := rfl
@[simp] theorem isiLT_d {k i μ} : BI.f k .isi [.dic i, .tup [.ty "list", .ty "tuple"]] μ = .ok (.bl false) μ := rfl
/-! built-ins -/
@[simp] theorem bi_lenS {k s μ} : BI.f k .len [.str s] μ = if lineOk s.length then .ok (.int s.length) μ else .bad := rfl
@[simp] theorem bi_lenT {k s μ} : BI.f k .len [.tup s] μ = .ok (.int s.length) μ := rfl
@[simp] theorem bi_lenL {k s μ} : BI.f k .len [.lst s] μ = .ok (.int s.length) μ := rfl
@[simp] theorem bi_lenR {k s μ} : BI.f k .len [.ro s] μ = .ok (.int s.length) μ := rfl
@[simp] theorem bi_abs {k i μ} : BI.f k .abs [.int i] μ = .ok (.int (if i < 0 then -i else i)) μ := rfl
@[simp] theorem bi_int {k i μ} : BI.f k .int [.int i] μ = .ok (.int i) μ := rfl
@[simp] theorem bi_intB {k i μ} : BI.f k .int [.bl i] μ = .ok (.int (if i then 1 else 0)) μ := rfl
@[simp] theorem bi_min {k i j μ} : BI.f k .min2 [.int i, .int j] μ = .ok (.int (if j < i then j else i)) μ := rfl
@[simp] theorem bi_max {k i j μ} : BI.f k .max2 [.int i, .int j] μ = .ok (.int (if j > i then j else i)) μ := rfl
@[simp] theorem bi_listL {k s μ} : BI.f k .list [.lst s] μ = .ok (.lst s) μ := rfl
@[simp] theorem bi_listR {k s μ} : BI.f k .list [.ro s] μ = .ok (.lst s) μ := rfl
@[simp] theorem bi_listT {k s μ} : BI.f k .list [.tup s] μ = .ok (.lst s) μ := rfl
@[simp] theorem bi_tupL {k s μ} : BI.f k .tuple [.lst s] μ = .ok (.tup s) μ := rfl
@[simp] theorem bi_tupT {k s μ} : BI.f k .tuple [.tup s] μ = .ok (.tup s) μ := rfl
/-! more statements -/
@[simp] theorem mPar_ok {i j x y m} (h : m δ μ = .ok [x, y] μ) : mPar i j m δ μ = .nx ((δ.set i (some x)).set j (some y)) μ := by unfold mPar; rw [h]; rfl
theorem mPar_eq {i j m} : mPar i j m δ μ = (m δ μ).bindS δ fun ds μ => match ds with | [x, y] => .nx ((δ.set i (some x)).set j (some y)) μ | _ => .bad := rfl
theorem mDPut_eq {mo mk me} : mDPut mo mk me δ μ = (me δ μ).bindS δ fun d μ => (mo δ μ).bindS δ fun o μ => (mk δ μ).bindS δ fun k μ => match o, keyOf k with
  | .loc n, some key => match μ[n]? with
    | some (.dic l) => if decide (l.length < 16777216) then .nx δ (μ.set n (.dic (putG l key d))) else .bad
    | _ => .bad
  | _, _ => .bad := rfl
@[simp] theorem keyOf_str {s} : keyOf (.str s) = some (.inr ⟨s.toArray⟩) := rfl
@[simp] theorem keyOf_int {s} : keyOf (.int s) = some (.inl s) := rfl
@[simp] theorem dicOf_loc0 {l} : dicOf (.dic l :: μ) (.loc 0) = some l := rfl
/-! calls -/
theorem ent_eq {i e k} (h : Γ.ents[i]? = some e) : Γ.ent i k δ μ = k e δ μ := by unfold Gam.ent; rw [h]
@[simp] theorem fAr_eq {n m ds} : fAr n m ds μ = if ds.length = n then m ds μ else .bad := rfl
theorem mCallK_eq {n nk m gD mr mk} : mCallK n nk m gD mr mk δ μ = (mr δ μ).bindE fun ds μ => (mk δ μ).bindE fun es μ => if ds.length = n ∧ es.length = nk then m (gD ds es) μ else .bad := rfl
@[simp] theorem ordG_nil {α} {d us ws : List α} : ordG [] d us ws = [] := rfl
@[simp] theorem ordG_pos {α} {i r} {d us ws : List α} : ordG (.pos i :: r) d us ws = (us[i]?).toList ++ ordG r d us ws := rfl
@[simp] theorem ordG_kw {α} {i r} {d us ws : List α} : ordG (.kw i :: r) d us ws = (ws[i]?).toList ++ ordG r d us ws := rfl
@[simp] theorem ordG_df {α} {i r} {d us ws : List α} : ordG (.df i :: r) d us ws = (d[i]?).toList ++ ordG r d us ws := rfl
theorem mFn_eq {n c ds} : mFn Γ n c ds μ = if ds.length = n then cutE Γ.keep μ.length (retE (evSs Γ c (ds.map some ++ List.replicate (Γ.N.length - n) none) μ)) else .bad := rfl
@[simp] theorem retE_rt {d} : retE (.rt d δ μ) = .ok d μ := rfl
@[simp] theorem retE_nx : retE (.nx δ μ) = .ok .non μ := rfl
@[simp] theorem retE_exc {c fs} : retE (.exc c fs δ μ) = .exc c fs μ := rfl
@[simp] theorem cutE_ok {kp k d} (h : μ.length = k) : cutE kp k (.ok d μ) = .ok d μ := by unfold cutE; dsimp only; rw [if_pos h]
@[simp] theorem cutE_exc {kp k c fs} (h : μ.length = k) : cutE kp k (.exc c fs μ) = .exc c fs μ := by unfold cutE; dsimp only; rw [if_pos h]
/-- a def's answer -/
theorem fn_rt {n c ds d δ'} {μ' : List M} (hn : ds.length = n) (h : evSs Γ c (ds.map some ++ List.replicate (Γ.N.length - n) none) μ = .rt d δ' μ') (hl : μ'.length = μ.length) : mFn Γ n c ds μ = .ok d μ' := by
  rw [mFn_eq, if_pos hn, h, retE_rt, cutE_ok hl]
theorem fn_exc {n c ds k fs δ'} {μ' : List M} (hn : ds.length = n) (h : evSs Γ c (ds.map some ++ List.replicate (Γ.N.length - n) none) μ = .exc k fs δ' μ') (hl : μ'.length = μ.length) : mFn Γ n c ds μ = .exc k fs μ' := by
  rw [mFn_eq, if_pos hn, h, retE_exc, cutE_exc hl]
theorem fn_nx {n c ds δ'} {μ' : List M} (hn : ds.length = n) (h : evSs Γ c (ds.map some ++ List.replicate (Γ.N.length - n) none) μ = .nx δ' μ') (hl : μ'.length = μ.length) : mFn Γ n c ds μ = .ok .non μ' := by
  rw [mFn_eq, if_pos hn, h, retE_nx, cutE_ok hl]
/-- what a body hands back -/
def outS : SR → Option (D × List M)
  | .rt d _ μ => some (d, μ)
  | _ => none
@[simp] theorem outS_rt {d} : outS (.rt d δ μ) = some (d, μ) := rfl
theorem fn_out {n c ds d} {μ' : List M} (hn : ds.length = n) (h : outS (evSs Γ c (ds.map some ++ List.replicate (Γ.N.length - n) none) μ) = some (d, μ')) (hl : μ'.length = μ.length) : mFn Γ n c ds μ = .ok d μ' := by
  cases e : evSs Γ c (ds.map some ++ List.replicate (Γ.N.length - n) none) μ with
  | rt d' δ' μ2 =>
    rw [e] at h
    cases h
    exact fn_rt hn e hl
  | _ => rw [e] at h; cases h
/-! the pen -/
def kRow : Key := .inr ⟨[114, 111, 119].toArray⟩
def kAt : Key := .inr ⟨[97, 116].toArray⟩
def kRest : Key := .inr ⟨[114, 101, 115, 116].toArray⟩
def penM (row : List Int) (at_ rest : Int) : M := .dic [(kRow, .lst (row.map .int)), (kAt, .int at_), (kRest, .int rest)]
structure Pen (n : Int) (m : M) : Prop where
  ex : ∃ row at_ rest, m = penM row at_ rest ∧ row.length ≤ 63 ∧ 0 ≤ at_ ∧ at_ ≤ n ∧ 0 ≤ rest
theorem Pen.mono {n n' m} (h : Pen n m) (l : n ≤ n') : Pen n' m := by
  obtain ⟨r, a, b, e, h1, h2, h3, h4⟩ := h
  exact ⟨r, a, b, e, h1, h2, by omega, h4⟩
section
variable {row : List D} {x y z d : D}
theorem get_row : getG [(kRow, x), (kAt, y), (kRest, z)] (.inr ⟨[114, 111, 119].toArray⟩) = some x := rfl
theorem get_at : getG [(kRow, x), (kAt, y), (kRest, z)] (.inr ⟨[97, 116].toArray⟩) = some y := rfl
theorem get_rest : getG [(kRow, x), (kAt, y), (kRest, z)] (.inr ⟨[114, 101, 115, 116].toArray⟩) = some z := rfl
theorem put_at : putG [(kRow, x), (kAt, y), (kRest, z)] (.inr ⟨[97, 116].toArray⟩) d = [(kRow, x), (kAt, d), (kRest, z)] := rfl
theorem put_rest : putG [(kRow, x), (kAt, y), (kRest, z)] (.inr ⟨[114, 101, 115, 116].toArray⟩) d = [(kRow, x), (kAt, y), (kRest, d)] := rfl
end
end
end DL

/-! The laws' own helpers: the pen, draws, picks. -/
namespace DL
open PySem PySem.Spec PyProof.Rows L2
/-! ### data that may be compared -/
mutual
def dok : D → Nat → Bool
  | .non, _ => true
  | .bl _, _ => true
  | .int _, _ => true
  | .str s, _ => s.all (· < 0x110000)
  | .lst l, k => decide (0 < k) && doks l (k - 1)
  | .ro l, k => decide (0 < k) && doks l (k - 1)
  | .tup l, k => decide (0 < k) && doks l (k - 1)
  | .dic _, _ => false
  | .obj _ _, _ => false
  | .exc _ _, _ => false
  | .ty _, _ => false
  | .cls _, _ => false
  | .lam, _ => false
  | .loc _, _ => false
def doks : List D → Nat → Bool
  | [], _ => true
  | d :: l, k => dok d k && doks l k
end
theorem py_list {l : List D} {k : Nat} (e : ∃ ps, pys l = some ps ∧ PyData.canLayAll0 ps = true ∧ PyData.depthAll ps ≤ k - 1) (hk : 0 < k) : (∃ p, (pys l).map PyData.list = some p ∧ p.canLay0 = true ∧ p.depth ≤ k) ∧ ∃ p, (pys l).map PyData.tuple = some p ∧ p.canLay0 = true ∧ p.depth ≤ k := by
  obtain ⟨ps, e1, e2, e3⟩ := e
  rw [e1]
  refine ⟨⟨_, rfl, by simpa [PyData.canLay0] using e2, ?_⟩, ⟨_, rfl, by simpa [PyData.canLay0] using e2, ?_⟩⟩
  · simp only [PyData.depth]; omega
  · simp only [PyData.depth]; omega
mutual
theorem py_ok : ∀ (d : D) (k : Nat), dok d k = true → ∃ p, py d = some p ∧ p.canLay0 = true ∧ p.depth ≤ k
  | .non, k, _ => ⟨_, rfl, rfl, by simp [PyData.depth]⟩
  | .bl b, k, _ => ⟨_, rfl, rfl, by simp [PyData.depth]⟩
  | .int i, k, _ => ⟨_, rfl, rfl, by simp [PyData.depth]⟩
  | .str s, k, h => ⟨_, rfl, by simpa [PyData.canLay0, PyData.strOk, dok] using h, by simp [PyData.depth]⟩
  | .lst l, k, h => by
    obtain ⟨h1, h2⟩ := pairB (by simpa only [dok] using h)
    exact (py_list (pys_ok l (k - 1) h2) (of_decide_eq_true h1)).1
  | .ro l, k, h => by
    obtain ⟨h1, h2⟩ := pairB (by simpa only [dok] using h)
    exact (py_list (pys_ok l (k - 1) h2) (of_decide_eq_true h1)).1
  | .tup l, k, h => by
    obtain ⟨h1, h2⟩ := pairB (by simpa only [dok] using h)
    exact (py_list (pys_ok l (k - 1) h2) (of_decide_eq_true h1)).2
  | .dic _, _, h => by simp [dok] at h
  | .obj _ _, _, h => by simp [dok] at h
  | .exc _ _, _, h => by simp [dok] at h
  | .ty _, _, h => by simp [dok] at h
  | .cls _, _, h => by simp [dok] at h
  | .lam, _, h => by simp [dok] at h
  | .loc _, _, h => by simp [dok] at h
theorem pys_ok : ∀ (l : List D) (k : Nat), doks l k = true → ∃ ps, pys l = some ps ∧ PyData.canLayAll0 ps = true ∧ PyData.depthAll ps ≤ k
  | [], k, _ => ⟨[], rfl, rfl, by simp [PyData.depthAll]⟩
  | d :: l, k, h => by
    obtain ⟨h1, h2⟩ := pairB (by simpa only [doks] using h)
    obtain ⟨p, e1, e2, e3⟩ := py_ok d k h1
    obtain ⟨ps, f1, f2, f3⟩ := pys_ok l k h2
    refine ⟨p :: ps, by simp only [pys, e1, f1], by simp [PyData.canLayAll0, e2, f2], ?_⟩
    simp only [PyData.depthAll]
    omega
end
/-- x == y of data -/
def eqD (x y : D) : Bool := match py x, py y with
  | some a, some b => PyData.eqv a b
  | _, _ => false
theorem fEq_ok {x y : D} {neg : Bool} {k j : Nat} {μ : List M} (hx : dok (top μ x) k = true) (hy : dok (top μ y) j = true) (hk : k ≤ 64) (hj : j ≤ 64) : fEqD neg x y μ = .ok (.bl (if neg then !eqD (top μ x) (top μ y) else eqD (top μ x) (top μ y))) μ := by
  obtain ⟨p, e1, e2, e3⟩ := py_ok _ _ hx
  obtain ⟨q, f1, f2, f3⟩ := py_ok _ _ hy
  unfold fEqD eqD
  rw [e1, f1]
  have s1 : SeqAt.shaped p = true := by unfold SeqAt.shaped; rw [e2]; simp; omega
  have s2 : SeqAt.shaped q = true := by unfold SeqAt.shaped; rw [f2]; simp; omega
  dsimp only
  rw [s1, s2]
  rfl
theorem eqD_self {x : D} {k : Nat} (h : dok x k = true) : eqD x x = true := by
  obtain ⟨p, e1, e2, e3⟩ := py_ok _ _ h
  unfold eqD
  rw [e1]
  exact SeqAt.eqv_refl p e2
theorem doks_ints {l : List Int} {k : Nat} : doks (l.map .int) k = true := by
  induction l with
  | nil => rfl
  | cons i l ih => simp [doks, dok, ih]
theorem eqD_nil {l : List Int} : eqD (.lst (l.map .int)) (.lst []) = l.isEmpty := by
  have e : ∀ l : List Int, pys (l.map .int) = some (l.map .int) := fun l => by
    induction l with
    | nil => rfl
    | cons i l ih => simp only [List.map_cons, pys, py, ih]
  cases l with
  | nil => rfl
  | cons i l =>
    have e2 := e (i :: l)
    unfold eqD
    simp only [py, e2]
    rfl
def cPen : CSs := (.cons (.ret (.dicM (.cons (.k (.str [114, 111, 119])) (.sl (.bi .list (.cons (.v 0) .nil)) .no (.som (.k (.int 70)))) (.cons (.k (.str [97, 116])) (.k (.int 0)) (.cons (.k (.str [114, 101, 115, 116])) (.k (.int 0)) .nil))))) .nil)
def cDraw : CSs := (.cons (.ite (.cmp .gt (.dget (.v 0) (.k (.str [114, 101, 115, 116]))) (.k (.int 0))) (.cons (.asg (.nm 2) (.bin .mod (.bi .int (.cons (.dget (.v 0) (.k (.str [114, 101, 115, 116]))) .nil)) (.v 1))) (.cons (.dput (.v 0) (.k (.str [114, 101, 115, 116])) (.bin .div (.bi .int (.cons (.dget (.v 0) (.k (.str [114, 101, 115, 116]))) .nil)) (.v 1))) (.cons (.ret (.v 2)) .nil))) .nil) (.cons (.par 3 4 (.cons (.dget (.v 0) (.k (.str [97, 116]))) (.cons (.dget (.v 0) (.k (.str [114, 111, 119]))) .nil))) (.cons (.dput (.v 0) (.k (.str [97, 116])) (.bin .add (.v 3) (.k (.int 1)))) (.cons (.asg (.nm 2) (.ite (.cmp .ne (.v 4) (.lst .nil)) (.ix (.v 4) (.bin .mod (.v 3) (.bi .len (.cons (.v 4) .nil)))) (.bin .mul (.k (.int 6449)) (.bin .add (.v 3) (.k (.int 3)))))) (.cons (.asg (.nm 5) (.ite (.and (.cons (.val (.bi .isi (.cons (.v 2) (.cons (.k (.ty "int")) .nil)))) (.one (.not (.val (.bi .isi (.cons (.v 2) (.cons (.k (.ty "bool")) .nil)))))))) (.v 2) (.k (.int 0)))) (.cons (.ite (.and (.cons (.cmp .lt (.v 3) (.bi .len (.cons (.v 4) .nil))) (.one (.cmp .ge (.bi .abs (.cons (.v 5) .nil)) (.bin .pow (.k (.int 10)) (.k (.int 18))))))) (.cons (.asg (.nm 6) (.bin .add (.bin .mul (.k (.int 2)) (.bin .sub (.bi .abs (.cons (.v 5) .nil)) (.bin .pow (.k (.int 10)) (.k (.int 18))))) (.bi .int (.cons (.cmp .lt (.v 5) (.k (.int 0))) .nil)))) (.cons (.dput (.v 0) (.k (.str [114, 101, 115, 116])) (.bin .div (.bi .int (.cons (.v 6) .nil)) (.v 1))) (.cons (.ret (.bin .mod (.bi .int (.cons (.v 6) .nil)) (.v 1))) .nil))) .nil) (.cons (.asg (.nm 7) (.bin .add (.bin .mul (.bin .add (.bin .mod (.bi .int (.cons (.bi .abs (.cons (.v 5) .nil)) .nil)) (.k (.int 7559))) (.bin .mul (.k (.int 6449)) (.bin .add (.v 3) (.k (.int 1))))) (.bin .add (.v 3) (.k (.int 11)))) (.k (.int 7)))) (.cons (.ret (.bin .mod (.bi .int (.cons (.bin .div (.bin .mul (.v 7) (.v 7)) (.k (.int 13))) .nil)) (.v 1))) .nil))))))))
section
variable {Γ : Gam} {μ : List M} {m : M} {n k : Int}
theorem isi_int (h : Γ.kks.kk (.inl "int") (.inl t) = some b) {i μ} : BI.f Γ.kks .isi [.int i, .ty t] μ = .ok (.bl b) μ := by
  show (match Γ.kks.kk (.inl "int") (.inl t) with | some b => ER.ok (.bl b) μ | none => .bad) = _
  rw [h]
theorem ne_nil {row : List Int} {μ : List M} : CK.f .ne (.lst (row.map D.int)) (.lst []) μ = .ok (.bl (!row.isEmpty)) μ := by
  have z := fEq_ok (x := .lst (row.map D.int)) (y := .lst []) (neg := true) (k := 1) (j := 1) (μ := μ) (by simp [top, dok, doks_ints]) (by simp [top, dok, doks]) (by omega) (by omega)
  simp only [top, eqD_nil] at z
  exact z
theorem ix_nat {l : List D} {j : Nat} {d : D} {μ : List M} (h : l[j]? = some d) : fIx (.lst l) (.int j) μ = .ok d μ := by
  have hj := (List.getElem?_eq_some_iff.mp h).1
  simp only [fIx, lsOf, atI, ixN]
  rw [if_pos (by omega), if_pos (by omega)]
  simp [h]
theorem ixT_nat {l : List D} {j : Nat} {d : D} {μ : List M} (h : l[j]? = some d) : fIx (.tup l) (.int j) μ = .ok d μ := by
  have hj := (List.getElem?_eq_some_iff.mp h).1
  simp only [fIx, atI, ixN]
  rw [if_pos (by omega), if_pos (by omega)]
  simp [h]
theorem ix_mod {row : List Int} {a : Int} (h : row.isEmpty = false) : ∃ cell : Int, ∀ μ, fIx (.lst (row.map D.int)) (.int (a % (row.length : Int))) μ = .ok (.int cell) μ := by
  have hp : (0 : Int) < (row.length : Int) := by
    cases row with
    | nil => cases h
    | cons _ _ => simp
  have h1 : 0 ≤ a % (row.length : Int) := Int.emod_nonneg _ (by omega)
  have h2 : a % (row.length : Int) < (row.length : Int) := Int.emod_lt_of_pos _ hp
  obtain ⟨j, hj⟩ : ∃ j : Nat, a % (row.length : Int) = j := ⟨(a % (row.length : Int)).toNat, by omega⟩
  have hj2 : j < row.length := by omega
  refine ⟨row[j], fun μ => ?_⟩
  rw [hj]
  exact ix_nat (by simp [List.getElem?_eq_getElem hj2])
theorem draw_ok (hN : Γ.N.length = 8) (h1 : Γ.kks.kk (.inl "int") (.inl "int") = some true) (h2 : Γ.kks.kk (.inl "int") (.inl "bool") = some false) (hk : 0 < k) (hk2 : k < 1073741824) (hn : n ≤ 1000000) (h : Pen n m) :
    ∃ v m', mFn Γ 2 cDraw [.loc 0, .int k] (m :: μ) = .ok (.int v) (m' :: μ) ∧ 0 ≤ v ∧ v < k ∧ Pen (n + 1) m' := by
  obtain ⟨row, a, r, rfl, hl, ha0, ha1, hr⟩ := h.ex
  by_cases c : 0 < r
  · refine ⟨r % k, penM row a (r / k), fn_rt (δ' := [some (.loc 0), some (.int k), some (.int (r % k)), none, none, none, none, none]) rfl ?_ rfl, Int.emod_nonneg _ (by omega), Int.emod_lt_of_pos _ hk, ⟨row, a, r / k, rfl, hl, ha0, by omega, Int.ediv_nonneg hr (by omega)⟩⟩
    rw [hN]
    simp [cDraw, penM, mDPut_eq, fDGet, get_rest, put_rest, c, hk, hk2]
    done
  · -- the row as it stands
    obtain ⟨R, hR⟩ : ∃ R : List D, R = row.map .int := ⟨_, rfl⟩
    have pe : ∀ a r, penM row a r = .dic [(kRow, .lst R), (kAt, .int a), (kRest, .int r)] := fun a r => by rw [hR]; rfl
    have hlen : R.length = row.length := by rw [hR]; simp
    have hne : ∀ μ, CK.f .ne (.lst R) (.lst []) μ = .ok (.bl (!row.isEmpty)) μ := fun μ => by rw [hR]; exact ne_nil
    have hix : row.isEmpty = false → ∃ cell : Int, ∀ μ, fIx (.lst R) (.int (a % (row.length : Int))) μ = .ok (.int cell) μ := fun z => by rw [hR]; exact ix_mod z
    obtain ⟨cell, hc⟩ : ∃ cell : Int, ∀ m μ, evS Γ (.asg (.nm 2) (.ite (.cmp .ne (.v 4) (.lst .nil)) (.ix (.v 4) (.bin .mod (.v 3) (.bi .len (.cons (.v 4) .nil)))) (.bin .mul (.k (.int 6449)) (.bin .add (.v 3) (.k (.int 3))))))
        [some (.loc 0), some (.int k), none, some (.int a), some (.lst R), none, none, none] (m :: μ) = .nx [some (.loc 0), some (.int k), some (.int cell), some (.int a), some (.lst R), none, none, none] (m :: μ) := by
      cases he : row.isEmpty with
      | true =>
        refine ⟨6449 * (a + 3), fun m μ => ?_⟩
        have q : mulOk 6449 (a + 3) = true := by simp [mulOk]
        simp [hne, he, q, lineOk]
      | false =>
        obtain ⟨cell, hx⟩ := hix he
        have hp : 0 < row.length := by
          cases row with
          | nil => cases he
          | cons _ _ => simp
        exact ⟨cell, fun m μ => by simp [hne, he, lineOk, hp, hx, hlen]⟩
    obtain ⟨ab, hab⟩ : ∃ ab : Int, ab = if cell < 0 then -cell else cell := ⟨_, rfl⟩
    have hab0 : 0 ≤ ab := by rw [hab]; split <;> omega
    have q1 : mulOk 6449 (a + 1) = true := by simp [mulOk]
    have q2 : ∀ z, mulOk 2 z = true := fun z => by simp [mulOk]
    obtain ⟨mx, hmx⟩ : ∃ mx : Int, mx = (ab % 7559 + 6449 * (a + 1)) * (a + 11) + 7 := ⟨_, rfl⟩
    have b1 : 0 ≤ ab % 7559 := Int.emod_nonneg _ (by omega)
    have b2 : ab % 7559 < 7559 := Int.emod_lt_of_pos _ (by omega)
    have b3 : 0 ≤ (ab % 7559 + 6449 * (a + 1)) * (a + 11) := Int.mul_nonneg (by omega) (by omega)
    have b4 : (ab % 7559 + 6449 * (a + 1)) * (a + 11) ≤ 6449100000 * 1000100 := Int.mul_le_mul (by omega) (by omega) (by omega) (by omega)
    have q3 : mulOk (ab % 7559 + 6449 * (a + 1)) (a + 11) = true := by simp [mulOk]; right; omega
    have q4 : mulOk mx mx = true := by simp [mulOk]; omega
    by_cases c2 : a < (row.length : Int) ∧ 1000000000000000000 ≤ ab
    · refine ⟨(2 * (ab - 1000000000000000000) + (if cell < 0 then 1 else 0)) % k, penM row (a + 1) ((2 * (ab - 1000000000000000000) + (if cell < 0 then 1 else 0)) / k), fn_rt (δ' := [some (.loc 0), some (.int k), some (.int cell), some (.int a), some (.lst R), some (.int cell), some (.int (2 * (ab - 1000000000000000000) + (if cell < 0 then 1 else 0))), none]) rfl ?_ rfl, Int.emod_nonneg _ (by omega), Int.emod_lt_of_pos _ hk,
        ⟨row, a + 1, _, rfl, hl, by omega, by omega, Int.ediv_nonneg (by split <;> omega) (by omega)⟩⟩
      rw [hN, pe, pe]
      simp [cDraw, mPar_eq, mDPut_eq, fDGet, get_rest, get_at, get_row, put_at, put_rest, c, hk, hk2, hc, isi_int h1, isi_int h2, ← hab, c2, hlen, q2]
    · have q5 : 0 < (13 : Int) := by omega
      refine ⟨mx * mx / 13 % k, penM row (a + 1) r, fn_rt (δ' := [some (.loc 0), some (.int k), some (.int cell), some (.int a), some (.lst R), some (.int cell), none, some (.int mx)]) rfl ?_ rfl, Int.emod_nonneg _ (by omega), Int.emod_lt_of_pos _ hk,
        ⟨row, a + 1, _, rfl, hl, by omega, by omega, hr⟩⟩
      rw [hN, pe, pe]
      have c3 : a < (row.length : Int) → ¬ 1000000000000000000 ≤ ab := fun z y => c2 ⟨z, y⟩
      by_cases c4 : a < (row.length : Int)
      · have c5 := c3 c4
        simp [cDraw, mPar_eq, mDPut_eq, fDGet, get_rest, get_at, get_row, put_at, put_rest, c, hk, hk2, hc, isi_int h1, isi_int h2, ← hab, c4, c5, hlen, q1, q3, ← hmx, q4]
      · simp [cDraw, mPar_eq, mDPut_eq, fDGet, get_rest, get_at, get_row, put_at, put_rest, c, hk, hk2, hc, isi_int h1, isi_int h2, ← hab, c4, hlen, q1, q3, ← hmx, q4]
@[simp] theorem ev_sl {a lo hi δ} : evE Γ (.sl a lo hi) δ μ = (evE Γ a δ μ).bind fun d μ => (evP Γ lo δ μ).bind fun l μ => match ixOf l with
  | some lo => (evP Γ hi δ μ).bind fun u μ => match ixOf u with
    | some hi => fCut lo hi d μ
    | none => .bad
  | none => .bad := rfl
@[simp] theorem evP_no {δ} : evP Γ .no δ μ = .ok .non μ := rfl
@[simp] theorem evP_int {a i δ} (h : evE Γ a δ μ = .ok (.int i) μ) : evP Γ (.som a) δ μ = .ok (.int i) μ := by
  show (evE Γ a δ μ).bind _ = _
  rw [h]; rfl
@[simp] theorem ixOf_non : ixOf .non = some none := rfl
@[simp] theorem ixOf_int {i} : ixOf (.int i) = some (some i) := rfl
@[simp] theorem fCut_str {lo hi s} : fCut lo hi (.str s) μ = if lineOk s.length then .ok (.str (cutG s lo hi)) μ else .bad := rfl
@[simp] theorem fCut_tup {lo hi s} : fCut lo hi (.tup s) μ = .ok (.tup (cutG s lo hi)) μ := rfl
@[simp] theorem fCut_lst {lo hi s} : fCut lo hi (.lst s) μ = .ok (.lst (cutG s lo hi)) μ := rfl
/-- l[:k] of at most k -/
theorem cut_all {α : Type} {l : List α} {k : Int} (h : (l.length : Int) ≤ k) : cutG l none (some k) = l := by
  have e1 : HT.sIx l.length 0 none = 0 := rfl
  have e2 : HT.sIx l.length l.length (some k) = l.length := by
    show (if k < 0 then (k + (l.length : Int)).toNat else min k.toNat l.length) = _
    rw [if_neg (by omega)]
    omega
  unfold cutG
  rw [e1, e2]
  simp
theorem dsLess_ints {l : List Int} {k : Nat} : dsLess k (l.map .int) = true := by
  induction l with
  | nil => rfl
  | cons i l ih => simp [dsLess, dLess, ih]
theorem pen_ok {ns : List Int} (hN : Γ.N.length = 1) (h : ns.length ≤ 63) : mFn Γ 1 cPen [.ro (ns.map .int)] [] = .ok (.loc 0) [penM ns 0 0] := by
  obtain ⟨R, hR⟩ : ∃ R : List D, R = ns.map .int := ⟨_, rfl⟩
  have hl : R.length = ns.length := by rw [hR]; simp
  have hc : cutG R none (some 70) = R := cut_all (by rw [hl]; omega)
  rw [mFn_eq, hN]
  simp only [penM, ← hR]
  have hd : dsLess 0 R = true := by rw [hR]; exact dsLess_ints
  simp [cPen, hc, mDicM, mPrs, ER.bind, mergeG, putG, cutE, cutD, keepC, cutA, keepA, mLess, ksLess, dLess, hd, μLess, kRow, kAt, kRest]
/-- a def that draws; one that picks -/
def DrawS (P : Int → M → Prop) (f : FD) : Prop := ∀ (n k : Int) (m : M) (μ : List M), 0 < k → k < 1073741824 → n ≤ 1000000 → P n m → ∃ v m', f [.loc 0, .int k] (m :: μ) = .ok (.int v) (m' :: μ) ∧ 0 ≤ v ∧ v < k ∧ P (n + 1) m'
def PickS (P : Int → M → Prop) (f : FD) : Prop := ∀ (n : Int) (l : List D) (m : M) (μ : List M), l ≠ [] → l.length < 1073741824 → n ≤ 1000000 → P n m → ∃ d m', f [.loc 0, .lst l] (m :: μ) = .ok d (m' :: μ) ∧ d ∈ l ∧ P (n + 1) m'
abbrev DrawSp (f : FD) : Prop := DrawS Pen f
abbrev PickSp (f : FD) : Prop := PickS Pen f
def cPick : CSs := (.cons (.ret (.ix (.v 1) (.call 0 (.cons (.v 0) (.cons (.bi .len (.cons (.v 1) .nil)) .nil)) .nil))) .nil)
theorem pick_ok {P : Int → M → Prop} {md : FD} {x : Str} {la : Bool} (hN : Γ.N.length = 2) (he : Γ.ents[0]? = some { x := x, kd := .fn, n := 2, np := 2, ks := [], gD := ordG [.pos 0, .pos 1] [], m := md, la := la }) (hd : DrawS P md) : PickS P (mFn Γ 2 cPick) := by
  intro n l m μ hl hl2 hn hp
  have l0 : 0 < l.length := List.length_pos_iff.mpr hl
  obtain ⟨v, m', e, h1, h2, h3⟩ := hd n l.length m μ (by omega) (by omega) hn hp
  obtain ⟨j, rfl⟩ : ∃ j : Nat, v = j := ⟨v.toNat, by omega⟩
  have hj : j < l.length := by omega
  refine ⟨l[j], m', fn_rt (δ' := [some (.loc 0), some (.lst l)]) rfl ?_ rfl, List.getElem_mem hj, h3⟩
  rw [hN]
  simp [cPick, ent_eq he, mCallK_eq, e, ix_nat (List.getElem?_eq_getElem hj)]
end
end DL

/-! Loops and comprehensions over data. -/
namespace DL
open PySem PySem.Spec PyProof.Rows L2
section
variable {Γ : Gam} {gm : GM} {tt : TM} {me : EM} {mb : SM} {g : List M → Option (List D)} {l : List D}
/-- a loop by an invariant; Q of how it ends -/
theorem for_inv (I : Nat → Dv → List M → Prop) (Q : SR → Prop) (hg : ∀ i δ μ, I i δ μ → g μ = some l)
    (h : ∀ i (hi : i < l.length) δ μ, I i δ μ → ∃ δ1, gm l[i] μ δ = some δ1 ∧ (match mb δ1 μ with | .nx δ2 μ2 => I (i + 1) δ2 μ2 | .ct δ2 μ2 => I (i + 1) δ2 μ2 | .bk δ2 μ2 => Q (.nx δ2 μ2) | r => Q r))
    (he : ∀ δ μ, I l.length δ μ → Q (.nx δ μ)) {δ : Dv} {μ : List M} (h0 : I 0 δ μ) : Q (forGo gm mb g l.length l.length 0 δ μ) := by
  suffices H : ∀ k i δ μ, k + i = l.length → I i δ μ → Q (forGo gm mb g l.length k i δ μ) from H _ 0 δ μ (by omega) h0
  intro k
  induction k with
  | zero =>
    intro i δ μ hk hi
    have e := hg i δ μ hi
    unfold forGo
    have hi' : i = l.length := by omega
    subst hi'
    simp only [e, if_true]
    exact he δ μ hi
  | succ k ih =>
    intro i δ μ hk hi
    have e := hg i δ μ hi
    have hl : i < l.length := by omega
    obtain ⟨δ1, e1, q⟩ := h i hl δ μ hi
    unfold forGo
    simp only [e, if_true, List.getElem?_eq_getElem hl, e1]
    revert q
    cases mb δ1 μ with
    | nx δ2 μ2 => exact fun q => ih (i + 1) δ2 μ2 (by omega) q
    | ct δ2 μ2 => exact fun q => ih (i + 1) δ2 μ2 (by omega) q
    | bk δ2 μ2 => exact fun q => q
    | rt d δ2 μ2 => exact fun q => q
    | exc c fs δ2 μ2 => exact fun q => q
    | bad => exact fun q => q
/-- a comprehension by an invariant -/
theorem lc_inv (I : Nat → List D → List M → Prop) (hg : ∀ i acc μ, I i acc μ → g μ = some l ∧ acc.length ≤ i) {δ : Dv}
    (h : ∀ i (hi : i < l.length) acc μ, I i acc μ → ∃ δ1, gm l[i] μ δ = some δ1 ∧ ((∃ μ1 y μ2, tt δ1 μ = .ok true μ1 ∧ me δ1 μ1 = .ok y μ2 ∧ I (i + 1) (acc ++ [y]) μ2) ∨ ∃ μ1, tt δ1 μ = .ok false μ1 ∧ I (i + 1) acc μ1))
    (hl : l.length ≤ 16777216) {μ : List M} (h0 : I 0 [] μ) : ∃ out μ', lcGo gm tt me g l.length l.length 0 δ μ [] = .ok out μ' ∧ I l.length out μ' := by
  suffices H : ∀ k i acc μ, k + i = l.length → I i acc μ → ∃ out μ', lcGo gm tt me g l.length k i δ μ acc = .ok out μ' ∧ I l.length out μ' from H _ 0 [] μ (by omega) h0
  intro k
  induction k with
  | zero =>
    intro i acc μ hk hi
    obtain ⟨e, _⟩ := hg i acc μ hi
    have hi' : i = l.length := by omega
    subst hi'
    refine ⟨acc, μ, ?_, hi⟩
    unfold lcGo
    simp only [e, if_true]
  | succ k ih =>
    intro i acc μ hk hi
    obtain ⟨e, ea⟩ := hg i acc μ hi
    have hli : i < l.length := by omega
    obtain ⟨δ1, e1, q⟩ := h i hli acc μ hi
    rcases q with ⟨μ1, y, μ2, e2, e3, q⟩ | ⟨μ1, e2, q⟩
    · obtain ⟨out, μ', e4, q'⟩ := ih (i + 1) (acc ++ [y]) μ2 (by omega) q
      refine ⟨out, μ', ?_, q'⟩
      unfold lcGo
      have lo : lineOk (acc.length + 1) = true := by unfold lineOk; exact decide_eq_true (by omega)
      simp only [e, if_true, List.getElem?_eq_getElem hli, e1, e2, e3, lo]
      exact e4
    · obtain ⟨out, μ', e4, q'⟩ := ih (i + 1) acc μ1 (by omega) q
      refine ⟨out, μ', ?_, q'⟩
      unfold lcGo
      simp only [e, if_true, List.getElem?_eq_getElem hli, e1, e2]
      exact e4
/-- a comprehension that changes nothing: of each d the item f d, where p d -/
theorem lc_pure (p : D → Bool) (f : D → D) {δ : Dv} {μ : List M} (hg : g μ = some l)
    (h : ∀ d ∈ l, ∃ δ1, gm d μ δ = some δ1 ∧ tt δ1 μ = .ok (p d) μ ∧ (p d = true → me δ1 μ = .ok (f d) μ)) (hl : l.length ≤ 16777216) : lcGo gm tt me g l.length l.length 0 δ μ [] = .ok ((l.filter p).map f) μ := by
  obtain ⟨out, μ', e, rfl, q, _⟩ := lc_inv (gm := gm) (tt := tt) (me := me) (g := g) (l := l) (δ := δ) (fun i acc μ' => μ' = μ ∧ acc = ((l.take i).filter p).map f ∧ i ≤ l.length)
    (fun i acc μ' ⟨e1, e2, e3⟩ => ⟨by rw [e1]; exact hg, by
      rw [e2, List.length_map]
      exact Nat.le_trans (List.length_filter_le _ _) (by rw [List.length_take]; omega)⟩)
    (fun i hi acc μ' ⟨e1, e2, e3⟩ => by
      subst e1
      obtain ⟨δ1, z1, z2, z3⟩ := h l[i] (List.getElem_mem hi)
      refine ⟨δ1, z1, ?_⟩
      have et : l.take (i + 1) = l.take i ++ [l[i]] := by rw [List.take_succ, List.getElem?_eq_getElem hi]; rfl
      cases hp : p l[i] with
      | true =>
        rw [hp] at z2
        refine .inl ⟨_, _, _, z2, z3 hp, rfl, ?_, hi⟩
        rw [e2, et, List.filter_append, List.map_append, List.filter_cons_of_pos hp]
        rfl
      | false =>
        rw [hp] at z2
        refine .inr ⟨_, z2, rfl, ?_, hi⟩
        rw [e2, et, List.filter_append, List.map_append, List.filter_cons_of_neg (by rw [hp]; decide), List.filter_nil, List.map_nil, List.append_nil]) hl (μ := μ) ⟨rfl, by simp, Nat.zero_le _⟩
  rw [e, q, List.take_length]
end
section
variable {Γ : Gam} {δ : Dv} {μ : List M}
/-! iterables -/
@[simp] theorem evI_seq_eq {a} : evI Γ (.seq a) δ μ = (evE Γ a δ μ).bindI fun d μ => match seqG d μ with | some l => .ok l.length (seqG d) μ | none => .bad := rfl
@[simp] theorem sqOf_lst {l} : sqOf μ (.lst l) = some l := rfl
@[simp] theorem sqOf_tup {l} : sqOf μ (.tup l) = some l := rfl
@[simp] theorem sqOf_ro {l} : sqOf μ (.ro l) = some l := rfl
@[simp] theorem seqG_lst {l} : seqG (.lst l) μ = some l := rfl
@[simp] theorem seqG_tup {l} : seqG (.tup l) μ = some l := rfl
@[simp] theorem seqG_ro {l} : seqG (.ro l) μ = some l := rfl
@[simp] theorem seqG_str {s} : seqG (.str s) μ = some (strItems s) := rfl
theorem evI_seqL {a l} (h : evE Γ a δ μ = .ok (.lst l) μ') : evI Γ (.seq a) δ μ = .ok l.length (fun _ => some l) μ' := by
  show (evE Γ a δ μ).bindI _ = _
  rw [h]; rfl
theorem evI_seqT {a l} (h : evE Γ a δ μ = .ok (.tup l) μ') : evI Γ (.seq a) δ μ = .ok l.length (fun _ => some l) μ' := by
  show (evE Γ a δ μ).bindI _ = _
  rw [h]; rfl
theorem evI_seqS {a s} (h : evE Γ a δ μ = .ok (.str s) μ') : evI Γ (.seq a) δ μ = .ok (strItems s).length (fun _ => some (strItems s)) μ' := by
  show (evE Γ a δ μ).bindI _ = _
  rw [h]; rfl
theorem evI_rng1 {a} {j : Int} (h : evE Γ a δ μ = .ok (.int j) μ') (hj : rngOk j = true) : evI Γ (.rng1 a) δ μ = .ok j.toNat (fun _ => some (rngItems 0 j.toNat)) μ' := by
  show ((mCons (evE Γ a) mNil) δ μ).bindI _ = _
  show ((evE Γ a δ μ).bindA _).bindI _ = _
  rw [h]
  show (if rngOk j then _ else _) = _
  rw [hj]; rfl
theorem evI_zip {a b la lb} {x y : D} (h1 : evE Γ a δ μ = .ok x μ') (h2 : evE Γ b δ μ' = .ok y μ') (e1 : ∀ μ, seqG x μ = some la) (e2 : ∀ μ, seqG y μ = some lb) : evI Γ (.zip a b) δ μ = .ok (zipG la lb).length (fun _ => some (zipG la lb)) μ' := by
  show ((evE Γ a δ μ).bindA fun x μ => ((evE Γ b δ μ).bindA fun y μ => (AR.ok [] μ).bind fun xs μ => .ok (y :: xs) μ).bind fun xs μ => .ok (x :: xs) μ).bindI _ = _
  rw [h1, er_bindA_ok, h2, er_bindA_ok]
  have e : zipQ x y = fun _ => some (zipG la lb) := by
    funext μ
    unfold zipQ
    rw [e1, e2]
  show (match zipQ x y μ' with | some l => IR.ok l.length (zipQ x y) μ' | none => .bad) = _
  rw [e]
theorem evI_seq {a x l} (h : evE Γ a δ μ = .ok x μ') (hx : seqG x μ' = some l) : evI Γ (.seq a) δ μ = .ok l.length (seqG x) μ' := by
  show (evE Γ a δ μ).bindI _ = _
  rw [h]
  show (match seqG x μ' with | some l => IR.ok l.length (seqG x) μ' | none => .bad) = _
  rw [hx]
theorem rng_len {lo n} : (rngItems lo n).length = n := by unfold rngItems; simp
theorem str_items_len {s} : (strItems s).length = s.length := by unfold strItems; simp
/-- a comprehension that changes nothing -/
theorem mLc_pure {it g t e vs l gg} (p : D → Bool) (f : D → D) (hi : evI Γ it δ μ = .ok l.length gg μ) (hg : gg μ = some l)
    (h : ∀ d ∈ l, ∃ δ1, evG g d μ (wipeD δ vs) = some δ1 ∧ evT Γ t δ1 μ = .ok (p d) μ ∧ (p d = true → evE Γ e δ1 μ = .ok (f d) μ)) (hl : l.length ≤ 16777216) :
    mLcB false (evI Γ it) (evG g) (evT Γ t) (evE Γ e) vs δ μ = .ok (.lst ((l.filter p).map f)) μ := by
  unfold mLcB mLcA
  rw [hi]
  dsimp only
  rw [lc_pure p f hg h hl]
  rfl
theorem mLc_map {it g e vs l gg} (f : D → D) (hi : evI Γ it δ μ = .ok l.length gg μ) (hg : gg μ = some l)
    (h : ∀ d ∈ l, ∃ δ1, evG g d μ (wipeD δ vs) = some δ1 ∧ evE Γ e δ1 μ = .ok (f d) μ) (hl : l.length ≤ 16777216) :
    mLcB false (evI Γ it) (evG g) (evT Γ .yes) (evE Γ e) vs δ μ = .ok (.lst (l.map f)) μ := by
  have z := mLc_pure (Γ := Γ) (t := .yes) (fun _ => true) f hi hg (fun d hd => by
    obtain ⟨δ1, e1, e2⟩ := h d hd
    exact ⟨δ1, e1, rfl, fun _ => e2⟩) hl
  rw [z, List.filter_eq_self.mpr fun _ _ => rfl]
/-- a comprehension over a state -/
theorem mLc_inv {it g t e vs l gg μ1} (I : Nat → List D → List M → Prop) (hi : evI Γ it δ μ = .ok l.length gg μ1) (hg : ∀ i acc μ, I i acc μ → gg μ = some l) (ha : ∀ i acc μ, I i acc μ → acc.length ≤ i)
    (h : ∀ i (hi : i < l.length) acc μ, I i acc μ → ∃ δ1, evG g l[i] μ (wipeD δ vs) = some δ1 ∧ ((∃ μ1 y μ2, evT Γ t δ1 μ = .ok true μ1 ∧ evE Γ e δ1 μ1 = .ok y μ2 ∧ I (i + 1) (acc ++ [y]) μ2) ∨ ∃ μ1, evT Γ t δ1 μ = .ok false μ1 ∧ I (i + 1) acc μ1))
    (hl : l.length ≤ 16777216) (h0 : I 0 [] μ1) : ∃ out μ', mLcB false (evI Γ it) (evG g) (evT Γ t) (evE Γ e) vs δ μ = .ok (.lst out) μ' ∧ I l.length out μ' := by
  obtain ⟨out, μ', e, q⟩ := lc_inv (gm := evG g) (tt := evT Γ t) (me := evE Γ e) (g := gg) (l := l) (δ := wipeD δ vs) I (fun i acc μ z => ⟨hg i acc μ z, ha i acc μ z⟩) h hl h0
  refine ⟨out, μ', ?_, q⟩
  unfold mLcB mLcA
  rw [hi]
  dsimp only
  rw [e]
  rfl
/-- a loop -/
theorem mFor_inv {it g b l gg μ1} (I : Nat → Dv → List M → Prop) (Q : SR → Prop) (hi : evI Γ it δ μ = .ok l.length gg μ1) (hg : ∀ i δ μ, I i δ μ → gg μ = some l)
    (h : ∀ i (hi : i < l.length) δ μ, I i δ μ → ∃ δ1, evG g l[i] μ δ = some δ1 ∧ (match evSs Γ b δ1 μ with | .nx δ2 μ2 => I (i + 1) δ2 μ2 | .ct δ2 μ2 => I (i + 1) δ2 μ2 | .bk δ2 μ2 => Q (.nx δ2 μ2) | r => Q r))
    (he : ∀ δ μ, I l.length δ μ → Q (.nx δ μ)) (h0 : I 0 δ μ1) : Q (mFor (evI Γ it) (evG g) (evSs Γ b) δ μ) := by
  unfold mFor
  rw [hi]
  exact for_inv I Q hg h he h0
/-- a loop that goes through -/
theorem mFor_thru {it g b l gg μ1} (I : Nat → Dv → List M → Prop) (hi : evI Γ it δ μ = .ok l.length gg μ1) (hg : ∀ i δ μ, I i δ μ → gg μ = some l)
    (h : ∀ i (hi : i < l.length) δ μ, I i δ μ → ∃ δ1 δ2 μ2, evG g l[i] μ δ = some δ1 ∧ evSs Γ b δ1 μ = .nx δ2 μ2 ∧ I (i + 1) δ2 μ2) (h0 : I 0 δ μ1) : ∃ δ' μ', mFor (evI Γ it) (evG g) (evSs Γ b) δ μ = .nx δ' μ' ∧ I l.length δ' μ' := by
  refine mFor_inv (Q := fun r => ∃ δ' μ', r = .nx δ' μ' ∧ I l.length δ' μ') I hi hg (fun i hi δ μ z => ?_) (fun δ μ z => ⟨δ, μ, rfl, z⟩) h0
  obtain ⟨δ1, δ2, μ2, e1, e2, q⟩ := h i hi δ μ z
  exact ⟨δ1, e1, by rw [e2]; exact q⟩
end
end DL

/-! Words: is_word of any text. -/
namespace DL
open PySem PySem.Spec PyProof.Rows L2
def cIsWord : CSs := (.cons (.ite (.or (.cons (.not (.val (.bi .isi (.cons (.v 0) (.cons (.k (.ty "str")) .nil))))) (.one (.not (.val (.bi .all (.cons (.lc false (.seq (.v 0)) (.nm 2) (.yes) (.cmp .inS (.v 2) (.k (.str [65, 66, 97, 98]))) [(".0", 1), ("sign", 2)]) .nil))))))) (.cons (.ret (.k (.bl false))) .nil) .nil) (.cons (.ret (.not (.bi .any (.cons (.lc false (.zip (.v 0) (.sl (.v 0) (.som (.k (.int 1))) .no)) (.tup (.cons (.nm 3) (.cons (.nm 4) .nil))) (.yes) (.cmp .eq (.v 3) (.bm .swapcase (.v 4) .nil)) [(".0", 1), ("one", 3), ("other", 4)]) .nil)))) .nil))
def okPair (s : List Nat) : Bool := (s.zip (s.drop 1)).any fun p => p.1 == swL p.2
def isW (s : List Nat) : Bool := s.all isL && !okPair s
section
variable {Γ : Gam} {δ : Dv} {μ : List M}
theorem in_ab {c μ} : CK.f .inS (.str [c]) (.str [65, 66, 97, 98]) μ = .ok (.bl (isL c)) μ := by
  show ER.ok (D.bl (decide (c ∈ [65, 66, 97, 98]))) μ = _
  have e : decide (c ∈ [65, 66, 97, 98]) = isL c := by
    simp [isL]
    by_cases h1 : c = 65 <;> by_cases h2 : c = 66 <;> by_cases h3 : c = 97 <;> by_cases h4 : c = 98 <;> simp [h1, h2, h3, h4]
  rw [e]
theorem bls_map {α : Type} {l : List α} {f : α → Bool} : blsOf (l.map fun a => .bl (f a)) = some (l.map f) := by
  induction l with
  | nil => rfl
  | cons a l ih => simp only [List.map_cons, blsOf, ih]; rfl
theorem bi_all {k} {l : List D} {f : D → Bool} {h : D → D} (e : ∀ d ∈ l, h d = .bl (f d)) : BI.f k .all [.lst (l.map h)] μ = .ok (.bl (l.all f)) μ := by
  have e2 : l.map h = l.map fun d => .bl (f d) := List.map_congr_left e
  rw [e2]
  show (match blsOf (l.map fun a => .bl (f a)) with | some bs => ER.ok (.bl (bs.all id)) μ | none => .bad) = _
  rw [bls_map]
  simp [List.all_map]
theorem bi_any {k} {l : List D} {f : D → Bool} {h : D → D} (e : ∀ d ∈ l, h d = .bl (f d)) : BI.f k .any [.lst (l.map h)] μ = .ok (.bl (l.any f)) μ := by
  have e2 : l.map h = l.map fun d => .bl (f d) := List.map_congr_left e
  rw [e2]
  show (match blsOf (l.map fun a => .bl (f a)) with | some bs => ER.ok (.bl (bs.any id)) μ | none => .bad) = _
  rw [bls_map]
  simp [List.any_map]
@[simp] theorem bi_allL {k l} : BI.f k .all [.lst l] μ = match blsOf l with | some bs => .ok (.bl (bs.all id)) μ | none => .bad := rfl
@[simp] theorem bi_anyL {k l} : BI.f k .any [.lst l] μ = match blsOf l with | some bs => .ok (.bl (bs.any id)) μ | none => .bad := rfl
@[simp] theorem bls_nil : blsOf [] = some [] := rfl
@[simp] theorem bls_cons {b l} : blsOf (.bl b :: l) = (blsOf l).map (b :: ·) := rfl
theorem cut_from1 {α : Type} {l : List α} : cutG l (some 1) none = l.drop 1 := by
  have e1 : HT.sIx l.length 0 (some 1) = min 1 l.length := rfl
  have e2 : HT.sIx l.length l.length none = l.length := rfl
  unfold cutG
  rw [e1, e2]
  cases l with
  | nil => rfl
  | cons a l => simp [Nat.min_def]
/-- one sign -/
def sg (d : D) : Nat := match d with
  | .str [c] => c
  | _ => 0
theorem eq_signs {a b : Nat} (ha : a < 0x110000) (hb : b < 0x110000) : CK.f .eq (.str [a]) (.str [b]) μ = .ok (.bl (a == b)) μ := by
  have z := fEq_ok (x := .str [a]) (y := .str [b]) (neg := false) (k := 1) (j := 1) (μ := μ) (by simpa [top, dok] using ha) (by simpa [top, dok] using hb) (by omega) (by omega)
  have e : eqD (.str [a]) (.str [b]) = (a == b) := by
    show ((⟨[a].toArray⟩ : Str) == ⟨[b].toArray⟩) = _
    by_cases h : a = b
    · subst h; simp
    · have : (⟨[a].toArray⟩ : Str) ≠ ⟨[b].toArray⟩ := fun z => h (by simpa using congrArg (fun z : Str => z.cps.toList) z)
      rw [beq_eq_false_iff_ne.mpr this, beq_eq_false_iff_ne.mpr h]
  simp only [top, e] at z
  exact z
theorem swap_sign {c : Nat} (h : isL c = true) : BM.f .swapcase (.str [c]) [] μ = .ok (.str [swL c]) μ := by
  show (if [c].all isL && lineOk [c].length then ER.ok (.str ([c].map swL)) μ else .bad) = _
  simp [h, lineOk]
theorem zip_any : ∀ a b : List Nat, (zipG (strItems a) (strItems b)).any (fun d => match d with | .tup [x, y] => sg x == swL (sg y) | _ => false) = (a.zip b).any fun p => p.1 == swL p.2
  | [], b => rfl
  | _ :: _, [] => rfl
  | x :: a, y :: b => by
    exact congrArg (fun z => (x == swL y) || z) (zip_any a b)
def IsWordSp (f : FD) : Prop := ∀ (s : List Nat) (μ : List M), s.length ≤ 16777216 → f [.str s] μ = .ok (.bl (isW s)) μ
theorem isL_lt {c : Nat} (h : isL c = true) : c < 0x110000 ∧ swL c < 0x110000 := by
  rcases isL_cases h with rfl | rfl | rfl | rfl <;> decide
theorem isword_ok (hN : Γ.N.length = 5) (hs : ∀ s μ, BI.f Γ.kks .isi [.str s, .ty "str"] μ = .ok (.bl true) μ) : IsWordSp (mFn Γ 1 cIsWord) := by
  intro s μ hl
  have c1 : mLcB false (evI Γ (.seq (.v 0))) (evG (.nm 2)) (evT Γ .yes) (evE Γ (.cmp .inS (.v 2) (.k (.str [65, 66, 97, 98])))) [1, 2] [some (.str s), none, none, none, none] μ = .ok (.lst ((strItems s).map fun d => .bl (isL (sg d)))) μ :=
    mLc_map (fun d => .bl (isL (sg d))) (evI_seqS (by simp)) rfl (fun d hd => by
      obtain ⟨c, _, rfl⟩ := List.mem_map.mp hd
      exact ⟨[some (.str s), none, some (.str [c]), none, none], rfl, by simp [in_ab, sg]⟩) (by rw [str_items_len]; exact hl)
  have a1 : (strItems s).all (fun d => isL (sg d)) = s.all isL := by
    unfold strItems
    rw [List.all_map]; rfl
  have a2 := bi_all (k := Γ.kks) (μ := μ) (l := strItems s) (f := fun d => isL (sg d)) (h := fun d => .bl (isL (sg d))) (fun _ _ => rfl)
  rw [a1] at a2
  have lo : lineOk s.length = true := by unfold lineOk; exact decide_eq_true hl
  cases hall : s.all isL with
  | false =>
    refine fn_rt (δ' := [some (.str s), none, none, none, none]) rfl ?_ rfl
    rw [hN]
    rw [hall] at a2
    simp [cIsWord, hs, c1, a2, isW, hall, -bi_allL]
  | true =>
    rw [hall] at a2
    refine fn_rt (δ' := [some (.str s), none, none, none, none]) rfl ?_ rfl
    rw [hN]
    have c2 : mLcB false (evI Γ (.zip (.v 0) (.sl (.v 0) (.som (.k (.int 1))) .no))) (evG (.tup (.cons (.nm 3) (.cons (.nm 4) .nil)))) (evT Γ .yes) (evE Γ (.cmp .eq (.v 3) (.bm .swapcase (.v 4) .nil))) [1, 3, 4] [some (.str s), none, none, none, none] μ
        = .ok (.lst ((zipG (strItems s) (strItems (s.drop 1))).map fun d => match d with | .tup [x, y] => .bl (sg x == swL (sg y)) | _ => .non)) μ := by
      refine mLc_map _ (evI_zip (x := .str s) (y := .str (s.drop 1)) (by simp) (by simp [lo, cut_from1]) (fun _ => rfl) fun _ => rfl) rfl (fun d hd => ?_) ?_
      · unfold zipG at hd
        obtain ⟨i, hi, e⟩ := List.mem_iff_getElem.mp hd
        rw [List.getElem_zipWith] at e
        rw [List.length_zipWith] at hi
        have i1 : i < s.length := by
          have : i < (strItems s).length := by omega
          rw [str_items_len] at this; exact this
        have i2 : i < (s.drop 1).length := by
          have : i < (strItems (s.drop 1)).length := by omega
          rw [str_items_len] at this; exact this
        have e1 : (strItems s)[i] = .str [s[i]] := by simp [strItems]
        have e2 : (strItems (s.drop 1))[i] = .str [(s.drop 1)[i]] := by simp [strItems]
        rw [e1, e2] at e
        have l1 : isL s[i] = true := List.all_eq_true.mp hall _ (List.getElem_mem i1)
        have l2 : isL (s.drop 1)[i] = true := List.all_eq_true.mp hall _ (List.mem_of_mem_drop (List.getElem_mem i2))
        subst e
        refine ⟨[some (.str s), none, none, some (.str [s[i]]), some (.str [(s.drop 1)[i]])], rfl, ?_⟩
        have hg : BM.g .swapcase (.str [(s.drop 1)[i]]) μ = true := rfl
        simp only [ev_cmp, ev_v, ev_bm, List.getElem?_cons_succ, List.getElem?_cons_zero, er_bind_ok, hg, if_true, evA_nil, ar_bindE_ok, swap_sign l2, eq_signs (isL_lt l1).1 (isL_lt l2).2, sg]
      · unfold zipG
        rw [List.length_zipWith, str_items_len]
        omega
    have a3 := bi_any (k := Γ.kks) (μ := μ) (l := zipG (strItems s) (strItems (s.drop 1))) (f := fun d => match d with | .tup [x, y] => sg x == swL (sg y) | _ => false) (h := fun d => match d with | .tup [x, y] => .bl (sg x == swL (sg y)) | _ => .non) (fun d hd => by
      unfold zipG at hd
      obtain ⟨i, hi, e⟩ := List.mem_iff_getElem.mp hd
      rw [List.getElem_zipWith] at e
      subst e; rfl)
    have a4 : (zipG (strItems s) (strItems (s.drop 1))).any (fun d => match d with | .tup [x, y] => sg x == swL (sg y) | _ => false) = okPair s := by
      exact zip_any s (s.drop 1)
    rw [a4] at a3
    obtain ⟨Z, hZ⟩ : ∃ Z : List D, Z = (zipG (strItems s) (strItems (s.drop 1))).map fun d => match d with | .tup [x, y] => .bl (sg x == swL (sg y)) | _ => .non := ⟨_, rfl⟩
    rw [← hZ] at c2 a3
    simp [cIsWord, hs, c1, a2, c2, a3, isW, hall, -bi_allL, -bi_anyL]
theorem at0 {c : Nat} {w : List Nat} : fIx (.str (c :: w)) (.int 0) μ = if lineOk (c :: w).length then .ok (.str [c]) μ else .bad := by
  show (if lineOk (c :: w).length then (match atI (c :: w) 0 with | some c => ER.ok (.str [c]) μ | none => .bad) else .bad) = _
  have e : atI (c :: w) 0 = some c := by unfold atI ixN; simp
  rw [e]
theorem eqS {a b : List Nat} (ha : a.all (· < 0x110000) = true) (hb : b.all (· < 0x110000) = true) : CK.f .eq (.str a) (.str b) μ = .ok (.bl (a == b)) μ ∧ CK.f .ne (.str a) (.str b) μ = .ok (.bl (!(a == b))) μ := by
  have e : eqD (.str a) (.str b) = (a == b) := by
    show ((⟨a.toArray⟩ : Str) == ⟨b.toArray⟩) = _
    by_cases h : a = b
    · subst h; simp
    · have : (⟨a.toArray⟩ : Str) ≠ ⟨b.toArray⟩ := fun z => h (by simpa using congrArg (fun z : Str => z.cps.toList) z)
      rw [beq_eq_false_iff_ne.mpr this, beq_eq_false_iff_ne.mpr h]
  have z1 := fEq_ok (x := .str a) (y := .str b) (neg := false) (k := 1) (j := 1) (μ := μ) (by simpa [top, dok] using ha) (by simpa [top, dok] using hb) (by omega) (by omega)
  have z2 := fEq_ok (x := .str a) (y := .str b) (neg := true) (k := 1) (j := 1) (μ := μ) (by simpa [top, dok] using ha) (by simpa [top, dok] using hb) (by omega) (by omega)
  simp only [top, e] at z1 z2
  exact ⟨z1, z2⟩
theorem isL_all {s : List Nat} (h : s.all isL = true) : s.all (· < 0x110000) = true := List.all_eq_true.mpr fun c hc => decide_eq_true (isL_lt (List.all_eq_true.mp h c hc)).1
/-! ### things made -/
mutual
theorem dLess0 {k : Nat} : ∀ d : D, dLess 0 d = true → dLess k d = true
  | .lst l, h => by simp only [dLess] at h ⊢; exact dsLess0 l h
  | .ro l, h => by simp only [dLess] at h ⊢; exact dsLess0 l h
  | .tup l, h => by simp only [dLess] at h ⊢; exact dsLess0 l h
  | .dic l, h => by simp only [dLess] at h ⊢; exact ksLess0 l h
  | .obj _ l, h => by simp only [dLess] at h ⊢; exact fsLess0 l h
  | .exc _ l, h => by simp only [dLess] at h ⊢; exact fsLess0 l h
  | .loc n, h => by simp [dLess] at h
  | .non, _ => rfl
  | .bl _, _ => rfl
  | .int _, _ => rfl
  | .str _, _ => rfl
  | .ty _, _ => rfl
  | .cls _, _ => rfl
  | .lam, h => by simp [dLess] at h
theorem dsLess0 {k : Nat} : ∀ l : List D, dsLess 0 l = true → dsLess k l = true
  | [], _ => rfl
  | d :: l, h => by
    simp only [dsLess, Bool.and_eq_true] at h ⊢
    exact ⟨dLess0 d h.1, dsLess0 l h.2⟩
theorem ksLess0 {k : Nat} : ∀ l : List (Key × D), ksLess 0 l = true → ksLess k l = true
  | [], _ => rfl
  | (_, d) :: l, h => by
    simp only [ksLess, Bool.and_eq_true] at h ⊢
    exact ⟨dLess0 d h.1, ksLess0 l h.2⟩
theorem fsLess0 {k : Nat} : ∀ l : List (Str × D), fsLess 0 l = true → fsLess k l = true
  | [], _ => rfl
  | (_, d) :: l, h => by
    simp only [fsLess, Bool.and_eq_true] at h ⊢
    exact ⟨dLess0 d h.1, fsLess0 l h.2⟩
end
theorem mLess0 {k : Nat} {m : M} (h : mLess 0 m = true) : mLess k m = true := by
  cases m with
  | lst l => exact dsLess0 l h
  | dic l => exact ksLess0 l h
  | obj c l => exact fsLess0 l h
  | dead => rfl
/-- no cell tells of another -/
def Clean (μ : List M) : Prop := ∀ m ∈ μ, mLess 0 m = true
theorem Clean.less {μ : List M} (h : Clean μ) {k : Nat} {t : List M} (hk : k ≤ μ.length) : μLess k (μ ++ t) = true := by
  refine List.all_eq_true.mpr fun m hm => mLess0 (h m ?_)
  rw [List.take_append_of_le_length hk] at hm
  exact List.mem_of_mem_take hm
theorem Pen.less {n : Int} {m : M} (h : Pen n m) : mLess 0 m = true := by
  obtain ⟨row, a, r, rfl, _⟩ := h.ex
  show ksLess 0 [(kRow, D.lst (row.map .int)), (kAt, .int a), (kRest, .int r)] = true
  simp [ksLess, dLess, dsLess_ints]
theorem finO_new {c : Nat} {fs : List (Str × D)} {μ : List M} (h1 : fsLess 0 fs = true) (h2 : Clean μ) : finO μ.length c (.ok .non (μ ++ [.obj c fs])) = .ok (.obj c fs) μ := by
  have e1 : (μ ++ [M.obj c fs])[μ.length]? = some (.obj c fs) := by simp
  have e2 : frzD μ.length (μ ++ [M.obj c fs]) (.loc μ.length) = some (.obj c fs) := by
    unfold frzD
    dsimp only
    rw [if_neg (Nat.lt_irrefl _), e1]
    dsimp only
    rw [fsLess0 fs h1]; rfl
  unfold finO
  dsimp only
  rw [e2]
  dsimp only
  rw [h2.less (Nat.le_refl _)]
  simp
theorem finO_exc {c c' : Nat} {fs : List (Str × D)} {μ t : List M} (h1 : fsLess 0 fs = true) (h2 : Clean μ) : finO μ.length c (.exc c' fs (μ ++ t)) = .exc c' fs μ := by
  unfold finO
  dsimp only
  rw [fsLess0 fs h1, h2.less (Nat.le_refl _)]
  simp
theorem fLenO_ok {cn c : Nat} {m : FD} {x : D} {fs : List (Str × D)} {i : Int} {μ μ' : List M} (h : objOf μ x = some (c, fs)) (hc : c = cn) (hm : m [x] μ = .ok (.int i) μ') (h0 : 0 ≤ i) (h1 : i < 2 ^ 63) : fLenO cn m x μ = .ok (.int i) μ' := by
  unfold fLenO
  rw [h]
  dsimp only
  rw [if_pos hc, hm]
  exact if_pos (decide_eq_true ⟨h0, h1⟩)
theorem set_last {μ : List M} {a b : M} : (μ ++ [a]).set μ.length b = μ ++ [b] := by simp
end
end DL

/-! repr of small lists. -/
namespace DL
open PySem PySem.Spec PyProof.Rows L2
theorem str_len_app (a b : Str) : (a ++ b).length = a.length + b.length := by
  show (a.cps ++ b.cps).size = _
  rw [Array.size_append]; rfl
theorem text_len : ∀ (n : Nat) (acc : Str) (ts : List Str) (k : Nat), (∀ t ∈ ts, t.length ≤ k) → (textFrom n acc ts).length ≤ acc.length + ts.length * (k + 2)
  | n, acc, [], k, _ => by
    unfold textFrom
    simp
  | n, acc, t :: ts, k, h => by
    have ht := h t List.mem_cons_self
    unfold textFrom
    refine Nat.le_trans (text_len _ _ ts k fun t m => h t (List.mem_cons_of_mem _ m)) ?_
    rw [List.length_cons, Nat.add_mul, str_len_app, str_len_app]
    have e : ((if n > 0 then ", " else "" : String) : Str).length ≤ 2 := by split <;> decide +kernel
    omega
theorem list_len {ts : List Str} {k : Nat} (h : ∀ t ∈ ts, t.length ≤ k) : (listText ts).length ≤ 2 + ts.length * (k + 2) := by
  unfold listText
  rw [str_len_app]
  have := text_len 0 "[" ts k h
  have e1 : ("[" : Str).length = 1 := by decide +kernel
  have e2 : ("]" : Str).length = 1 := by decide +kernel
  omega
theorem small_len {i : Int} (h1 : -1 ≤ i) (h2 : i ≤ 9) : (PyData.shown (.int i)).length ≤ 2 := by
  have h : i = -1 ∨ i = 0 ∨ i = 1 ∨ i = 2 ∨ i = 3 ∨ i = 4 ∨ i = 5 ∨ i = 6 ∨ i = 7 ∨ i = 8 ∨ i = 9 := by omega
  rcases h with rfl | rfl | rfl | rfl | rfl | rfl | rfl | rfl | rfl | rfl | rfl <;> decide +kernel
theorem shown_all {ps : List PyData} {k : Nat} (h : ∀ p ∈ ps, (PyData.shown p).length ≤ k) : ∀ t ∈ PyData.shownAll ps, t.length ≤ k := by
  induction ps with
  | nil => intro t ht; simp [PyData.shownAll] at ht
  | cons p ps ih =>
    intro t ht
    simp only [PyData.shownAll, List.mem_cons] at ht
    rcases ht with rfl | ht
    · exact h p List.mem_cons_self
    · exact ih (fun p m => h p (List.mem_cons_of_mem _ m)) t ht
theorem shown_count (ps : List PyData) : (PyData.shownAll ps).length = ps.length := by
  induction ps with
  | nil => rfl
  | cons p ps ih => simp [PyData.shownAll, ih]
/-- a list is shown in not too many signs -/
theorem list_shown {ps : List PyData} {k : Nat} (h : ∀ p ∈ ps, (PyData.shown p).length ≤ k) : (PyData.shown (.list ps)).length ≤ 2 + ps.length * (k + 2) := by
  have := list_len (shown_all h)
  rw [shown_count] at this
  simpa only [PyData.shown] using this
theorem pys_ints : ∀ l : List Int, pys (l.map .int) = some (l.map .int)
  | [] => rfl
  | i :: l => by simp only [List.map_cons, pys, py, pys_ints l]
theorem ints_shown {l : List Int} (h : ∀ i ∈ l, -1 ≤ i ∧ i ≤ 9) : (PyData.shown (.list (l.map .int))).length ≤ 2 + l.length * 4 := by
  have := list_shown (ps := l.map PyData.int) (k := 2) fun p hp => by
    obtain ⟨i, hi, rfl⟩ := List.mem_map.mp hp
    exact small_len (h i hi).1 (h i hi).2
  simpa using this
theorem ints_showable {l : List Int} (h : ∀ i ∈ l, -1 ≤ i ∧ i ≤ 9) : PyData.showableAll (l.map .int) = true := by
  induction l with
  | nil => rfl
  | cons i l ih =>
    have hi := h i List.mem_cons_self
    have e : (PyData.int i).showable = true := by
      have h : i = -1 ∨ i = 0 ∨ i = 1 ∨ i = 2 ∨ i = 3 ∨ i = 4 ∨ i = 5 ∨ i = 6 ∨ i = 7 ∨ i = 8 ∨ i = 9 := by omega
      rcases h with rfl | rfl | rfl | rfl | rfl | rfl | rfl | rfl | rfl | rfl | rfl <;> decide +kernel
    simp only [List.map_cons, PyData.showableAll, e, Bool.true_and]
    exact ih fun i m => h i (List.mem_cons_of_mem _ m)
/-! signs -/
def okS (s : Str) : Prop := ∀ c ∈ s.cps.toList, c < 0x110000
theorem okS_app {a b : Str} (h1 : okS a) (h2 : okS b) : okS (a ++ b) := fun c hc => by
  have e : (a ++ b).cps.toList = a.cps.toList ++ b.cps.toList := by show (a.cps ++ b.cps).toList = _; simp
  rw [e] at hc
  exact (List.mem_append.mp hc).elim (h1 c) (h2 c)
theorem okS_of {s : Str} (h : s.cps.toList.all (· < 0x110000) = true) : okS s := fun c hc => of_decide_eq_true (List.all_eq_true.mp h c hc)
theorem text_ok : ∀ (n : Nat) (acc : Str) (ts : List Str), okS acc → (∀ t ∈ ts, okS t) → okS (textFrom n acc ts)
  | n, acc, [], ha, _ => ha
  | n, acc, t :: ts, ha, h => text_ok _ _ ts (okS_app (okS_app ha (by split <;> exact okS_of (by decide +kernel))) (h t List.mem_cons_self)) fun t m => h t (List.mem_cons_of_mem _ m)
theorem listText_ok {ts : List Str} (h : ∀ t ∈ ts, okS t) : okS (listText ts) := okS_app (text_ok 0 "[" ts (okS_of (by decide +kernel)) h) (okS_of (by decide +kernel))
theorem shown_allP {P : Str → Prop} {ps : List PyData} (h : ∀ p ∈ ps, P (PyData.shown p)) : ∀ t ∈ PyData.shownAll ps, P t := by
  induction ps with
  | nil => intro t ht; simp [PyData.shownAll] at ht
  | cons p ps ih =>
    intro t ht
    simp only [PyData.shownAll, List.mem_cons] at ht
    rcases ht with rfl | ht
    · exact h p List.mem_cons_self
    · exact ih (fun p m => h p (List.mem_cons_of_mem _ m)) t ht
theorem list_okS {ps : List PyData} (h : ∀ p ∈ ps, okS (PyData.shown p)) : okS (PyData.shown (.list ps)) := by
  simp only [PyData.shown]
  exact listText_ok (shown_allP h)
theorem small_okS {i : Int} (h1 : -1 ≤ i) (h2 : i ≤ 9) : okS (PyData.shown (.int i)) := by
  have h : i = -1 ∨ i = 0 ∨ i = 1 ∨ i = 2 ∨ i = 3 ∨ i = 4 ∨ i = 5 ∨ i = 6 ∨ i = 7 ∨ i = 8 ∨ i = 9 := by omega
  rcases h with rfl | rfl | rfl | rfl | rfl | rfl | rfl | rfl | rfl | rfl | rfl <;> exact okS_of (by decide +kernel)
end DL

/-! Pens that are lists; draws of them. -/
namespace DL
open PySem PySem.Spec PyProof.Rows L2
/-- what holds of pens of any kind -/
structure IsPen (P : Int → M → Prop) : Prop where
  mono : ∀ {n n' m}, P n m → n ≤ n' → P n' m
  less : ∀ {n m}, P n m → mLess 0 m = true
theorem isPen : IsPen Pen := ⟨Pen.mono, Pen.less⟩
def penLM (row : List Int) (at_ rest : Int) : M := .lst [.lst (row.map .int), .int at_, .int rest]
structure PenL (n : Int) (m : M) : Prop where
  ex : ∃ row at_ rest, m = penLM row at_ rest ∧ row.length ≤ 63 ∧ 0 ≤ at_ ∧ at_ ≤ n ∧ 0 ≤ rest
theorem isPenL : IsPen PenL := ⟨fun h l => by
    obtain ⟨r, a, b, e, h1, h2, h3, h4⟩ := h.ex
    exact ⟨r, a, b, e, h1, h2, by omega, h4⟩, fun h => by
    obtain ⟨row, a, r, rfl, _⟩ := h.ex
    show dsLess 0 [D.lst (row.map .int), .int a, .int r] = true
    simp [dsLess, dLess, dsLess_ints]⟩
def cPenL : CSs := (.cons (.ret (.lstM (.cons (.lc false (.seq (.sl (.v 0) .no (.som (.k (.int 63))))) (.nm 2) (.yes) (.bi .int (.cons (.v 2) .nil)) [(".0", 1), ("cell", 2)]) (.cons (.k (.int 0)) (.cons (.k (.int 0)) .nil))))) .nil)
section
variable {Γ : Gam} {μ : List M} {m : M} {n k : Int}
@[simp] theorem fCut_ro {lo hi s} : fCut lo hi (.ro s) μ = .ok (.lst (cutG s lo hi)) μ := rfl
theorem penL_ok {ns : List Int} (hN : Γ.N.length = 3) (hk : Γ.keep = true) (h : ns.length ≤ 63) : mFn Γ 1 cPenL [.ro (ns.map .int)] [] = .ok (.loc 0) [penLM ns 0 0] := by
  have hc : cutG (ns.map D.int) none (some 63) = ns.map D.int := cut_all (by rw [List.length_map]; omega)
  have e : mLcB false (evI Γ (.seq (.sl (.v 0) .no (.som (.k (.int 63)))))) (evG (.nm 2)) (evT Γ .yes) (evE Γ (.bi .int (.cons (.v 2) .nil))) [1, 2] [some (.ro (ns.map .int)), none, none] [] = .ok (.lst ((ns.map D.int).map id)) [] :=
    mLc_map id (evI_seqL (by simp [hc])) rfl (fun d hd => by
      obtain ⟨i, _, rfl⟩ := List.mem_map.mp hd
      exact ⟨[some (.ro (ns.map .int)), none, some (.int i)], rfl, by simp⟩) (by rw [List.length_map]; omega)
  rw [List.map_id] at e
  have hd : dsLess 0 (ns.map D.int) = true := dsLess_ints
  rw [mFn_eq, hN, hk]
  simp [cPenL, e, penLM, cutE, cutA, keepA, mLess, dsLess, dLess, hd, μLess, lineOk]
/-- a draw's numbers -/
structure DC where
  K1 : Int
  K2 : Int
  P1 : Int
  K3 : Int
  K4 : Int
  E1 : Int
  P2 : Int
  K6 : Int
  K5 : Int
  K7 : Int
  E2 : Int
  P3 : Int
def DC.ok (c : DC) : Bool := decide (0 ≤ c.K1 ∧ c.K1 ≤ 1000000 ∧ 0 ≤ c.K2 ∧ c.K2 ≤ 1000000 ∧ 0 < c.P1 ∧ c.P1 ≤ 2147483648 ∧ 0 ≤ c.K3 ∧ c.K3 ≤ 1000000 ∧ 0 ≤ c.K4 ∧ c.K4 ≤ 1000000 ∧ 0 ≤ c.E1 ∧ c.E1 ≤ 10 ∧ 0 < c.P2 ∧ c.P2 ≤ 2147483648 ∧ 0 ≤ c.K6 ∧ c.K6 ≤ 1000000 ∧ 0 ≤ c.K5 ∧ c.K5 ≤ 1000000 ∧ 0 ≤ c.K7 ∧ c.K7 ≤ 1000000 ∧ 0 ≤ c.E2 ∧ c.E2 ≤ 10 ∧ 0 < c.P3 ∧ c.P3 ≤ 2147483648)
def cDrawL (c : DC) (g x : Nat) : CSs :=
  .cons (.ite (.cmp .gt (.ix (.v 0) (.k (.int 2))) (.k (.int 0))) (.cons (.asg (.nm 2) (.bi .int (.cons (.ix (.v 0) (.k (.int 2))) .nil))) (.cons (.lput (.v 0) (.k (.int 2)) (.bin .div (.v 2) (.v 1))) (.cons (.ret (.bin .mod (.bi .int (.cons (.v 2) .nil)) (.v 1))) .nil))) .nil) <|
  .cons (.asg (.nm 3) (.ix (.v 0) (.k (.int 1)))) <|
  .cons (.lput (.v 0) (.k (.int 1)) (.bin .add (.v 3) (.k (.int 1)))) <|
  .cons (.asg (.nm 4) (.bin .add (.bin .mul (.k (.int c.K1)) (.v 3)) (.k (.int c.K2)))) <|
  .cons (.ite (.cmp .ne (.ix (.v 0) (.k (.int 0))) (.lst .nil)) (.cons (.asg (.nm 4) (.ix (.ix (.v 0) (.k (.int 0))) (.bin .mod (.bi .int (.cons (.v 3) .nil)) (.bi .len (.cons (.ix (.v 0) (.k (.int 0))) .nil))))) .nil) .nil) <|
  .cons (.ite (.and (.cons (.cmp .lt (.v 3) (.bi .len (.cons (.ix (.v 0) (.k (.int 0))) .nil))) (.one (.cmp .ge (.bi .abs (.cons (.v 4) .nil)) (.bin .pow (.k (.int 10)) (.k (.int 18))))))) (.cons (.asg (.nm g) (.bin .add (.bin .mul (.k (.int 2)) (.bin .sub (.bi .abs (.cons (.v 4) .nil)) (.bin .pow (.k (.int 10)) (.k (.int 18))))) (.bi .int (.cons (.cmp .lt (.v 4) (.k (.int 0))) .nil)))) (.cons (.lput (.v 0) (.k (.int 2)) (.bin .div (.bi .int (.cons (.v g) .nil)) (.v 1))) (.cons (.ret (.bin .mod (.bi .int (.cons (.v g) .nil)) (.v 1))) .nil))) .nil) <|
  .cons (.asg (.nm x) (.bin .mod (.bi .int (.cons (.bin .pow (.bin .add (.bin .add (.bin .mod (.bi .int (.cons (.v 4) .nil)) (.k (.int c.P1))) (.bin .mul (.k (.int c.K3)) (.v 3))) (.k (.int c.K4))) (.k (.int c.E1))) .nil)) (.k (.int c.P2)))) <|
  .cons (.asg (.nm x) (.bin .mod (.bi .int (.cons (.bin .pow (.bin .add (.bin .add (.bin .mul (.v x) (.bin .add (.bin .mul (.k (.int 2)) (.v 3)) (.k (.int c.K6)))) (.bin .mul (.bin .mul (.k (.int c.K5)) (.v 3)) (.v 3))) (.k (.int c.K7))) (.k (.int c.E2))) .nil)) (.k (.int c.P3)))) <|
  .cons (.ret (.bin .mod (.bi .int (.cons (.bin .div (.v x) (.k (.int 32))) .nil)) (.v 1))) .nil
theorem ixc0 {x y z : D} : fIx (.loc 0) (.int 0) (.lst [x, y, z] :: μ) = .ok x (.lst [x, y, z] :: μ) := rfl
theorem ixc1 {x y z : D} : fIx (.loc 0) (.int 1) (.lst [x, y, z] :: μ) = .ok y (.lst [x, y, z] :: μ) := rfl
theorem ixc2 {x y z : D} : fIx (.loc 0) (.int 2) (.lst [x, y, z] :: μ) = .ok z (.lst [x, y, z] :: μ) := rfl
theorem mLPut_eq {δ : Dv} {mo mk me : EM} : mLPut mo mk me δ μ = (me δ μ).bindS δ fun d μ => (mo δ μ).bindS δ fun o μ => (mk δ μ).bindS δ fun k μ => match o, k with
  | .loc n, .int k => match μ[n]? with
    | some (.lst l) => match ixN l.length k with
      | some j => .nx δ (μ.set n (.lst (l.set j d)))
      | none => .bad
    | _ => .bad
  | _, _ => .bad := rfl
theorem ixN31 : ixN 3 1 = some 1 := rfl
theorem ixN32 : ixN 3 2 = some 2 := rfl
theorem drawL_ok (c : DC) {g x : Nat} (hgx : (g = 2 ∧ x = 5 ∧ Γ.N.length = 6) ∨ (g = 5 ∧ x = 6 ∧ Γ.N.length = 7)) (hc : c.ok = true) : DrawS PenL (mFn Γ 2 (cDrawL c g x)) := by
  intro n k m μ hk hk2 hn h
  obtain ⟨K1, K2, P1, K3, K4, E1, P2, K6, K5, K7, E2, P3⟩ := c
  obtain ⟨row, a, r, rfl, hl, ha0, ha1, hr⟩ := h.ex
  simp only [DC.ok, decide_eq_true_eq] at hc
  obtain ⟨c1, c2, c3, c4, c5, c6, c7, c8, c9, c10, c11, c12, c13, c14, c15, c16, c17, c18, c19, c20, c21, c22, c23, c24⟩ := hc
  obtain ⟨R, hR⟩ : ∃ R : List D, R = row.map .int := ⟨_, rfl⟩
  have pe : ∀ a r, penLM row a r = .lst [.lst R, .int a, .int r] := fun a r => by rw [hR]; rfl
  have hlen : R.length = row.length := by rw [hR]; simp
  have hl2 : (R.length : Int) = (row.length : Int) := by rw [hlen]
  by_cases c0 : 0 < r
  · refine ⟨r % k, penLM row a (r / k), ?_, Int.emod_nonneg _ (by omega), Int.emod_lt_of_pos _ hk, ⟨row, a, r / k, rfl, hl, ha0, by omega, Int.ediv_nonneg hr (by omega)⟩⟩
    refine fn_out rfl ?_ rfl
    rw [pe, pe]
    rcases hgx with ⟨rfl, rfl, hN⟩ | ⟨rfl, rfl, hN⟩
    all_goals
      rw [hN]
      simp [cDrawL, ixc2, mLPut_eq, c0, hk, hk2, ixN32]
  · have hne : ∀ μ, CK.f .ne (.lst R) (.lst []) μ = .ok (.bl (!row.isEmpty)) μ := fun μ => by rw [hR]; exact ne_nil
    have hix : row.isEmpty = false → ∃ cell : Int, ∀ μ, fIx (.lst R) (.int (a % (row.length : Int))) μ = .ok (.int cell) μ := fun z => by rw [hR]; exact ix_mod z
    have q0 : ∀ z w, -1000000 ≤ z → z ≤ 1000000 → mulOk z w = true := fun z w z1 z2 => by simp [mulOk]; left; omega
    have q0' : ∀ z w, -1000000 ≤ w → w ≤ 1000000 → mulOk z w = true := fun z w z1 z2 => by simp [mulOk]; right; omega
    have e1 := q0 K1 a (by omega) c2
    have e3 := q0 K3 a (by omega) c8
    have e5 := q0 K5 a (by omega) c18
    have e2 := q0 2 a (by omega) (by omega)
    have e2' := q0 2 (1 : Int) (by omega) (by omega)
    have e2z : ∀ z, mulOk 2 z = true := fun z => q0 2 z (by omega) (by omega)
    have e6 := q0' (K5 * a) a (by omega) (by omega)
    obtain ⟨cell, hcell⟩ : ∃ cell : Int, (row.isEmpty = true ∧ cell = K1 * a + K2) ∨ (row.isEmpty = false ∧ ∀ μ, fIx (.lst R) (.int (a % (row.length : Int))) μ = .ok (.int cell) μ) := by
      cases he : row.isEmpty with
      | true => exact ⟨_, .inl ⟨rfl, rfl⟩⟩
      | false =>
        obtain ⟨cell, hx⟩ := hix he
        exact ⟨cell, .inr ⟨rfl, hx⟩⟩
    obtain ⟨ab, hab⟩ : ∃ ab : Int, ab = if cell < 0 then -cell else cell := ⟨_, rfl⟩
    have hab0 : 0 ≤ ab := by rw [hab]; split <;> omega
    obtain ⟨b1, hb1⟩ : ∃ b1 : Int, b1 = cell % P1 + K3 * a + K4 := ⟨_, rfl⟩
    have b1n : 0 ≤ cell % P1 := Int.emod_nonneg _ (by omega)
    have b1l : cell % P1 < P1 := Int.emod_lt_of_pos _ (by omega)
    have k3n : 0 ≤ K3 * a := Int.mul_nonneg c7 ha0
    have k3l : K3 * a ≤ 1000000 * 1000000 := Int.mul_le_mul c8 (by omega) ha0 (by omega)
    have s1 : b1.natAbs < 18446744073709551616 := by omega
    obtain ⟨mx, hmx⟩ : ∃ mx : Int, mx = b1 ^ E1.toNat % P2 := ⟨_, rfl⟩
    have mxn : 0 ≤ mx := by rw [hmx]; exact Int.emod_nonneg _ (by omega)
    have mxl : mx < P2 := by rw [hmx]; exact Int.emod_lt_of_pos _ (by omega)
    obtain ⟨b2, hb2⟩ : ∃ b2 : Int, b2 = mx * (2 * a + K6) + K5 * a * a + K7 := ⟨_, rfl⟩
    have t1 : 0 ≤ mx * (2 * a + K6) := Int.mul_nonneg mxn (by omega)
    have t2 : mx * (2 * a + K6) ≤ 2147483648 * 3000000 := Int.mul_le_mul (by omega) (by omega) (by omega) (by omega)
    have t3 : 0 ≤ K5 * a := Int.mul_nonneg c17 ha0
    have t4 : K5 * a ≤ 1000000 * 1000000 := Int.mul_le_mul c18 (by omega) ha0 (by omega)
    have t5 : 0 ≤ K5 * a * a := Int.mul_nonneg t3 ha0
    have t6 : K5 * a * a ≤ 1000000 * 1000000 * 1000000 := Int.mul_le_mul t4 (by omega) ha0 (by omega)
    have s2 : b2.natAbs < 18446744073709551616 := by omega
    have e7 : mulOk mx (2 * a + K6) = true := by simp [mulOk]; left; omega
    obtain ⟨my, hmy⟩ : ∃ my : Int, my = b2 ^ E2.toNat % P3 := ⟨_, rfl⟩
    have p1 : E1 ≤ 1000000 := by omega
    have p2 : E2 ≤ 1000000 := by omega
    by_cases d2 : a < (row.length : Int) ∧ 1000000000000000000 ≤ ab
    · refine ⟨(2 * (ab - 1000000000000000000) + (if cell < 0 then 1 else 0)) % k, penLM row (a + 1) ((2 * (ab - 1000000000000000000) + (if cell < 0 then 1 else 0)) / k), ?_, Int.emod_nonneg _ (by omega), Int.emod_lt_of_pos _ hk,
        ⟨row, a + 1, _, rfl, hl, by omega, by omega, Int.ediv_nonneg (by split <;> omega) (by omega)⟩⟩
      refine fn_out rfl ?_ rfl
      rw [pe, pe]
      rcases hcell with ⟨he, hcl⟩ | ⟨he, hx⟩
      · have : row.length = 0 := by simpa using he
        omega
      · have hp : 0 < row.length := by
          cases row with
          | nil => cases he
          | cons _ _ => simp
        rcases hgx with ⟨rfl, rfl, hN⟩ | ⟨rfl, rfl, hN⟩
        all_goals
          rw [hN]
          simp [cDrawL, ixc0, ixc1, ixc2, mLPut_eq, c0, hk, hk2, ixN31, ixN32, e1, hne, he, hlen, hp, hx, ← hab, d2, e2z, lineOk]
    · have d3 : a < (row.length : Int) → ¬ 1000000000000000000 ≤ ab := fun z y => d2 ⟨z, y⟩
      refine ⟨my / 32 % k, penLM row (a + 1) r, ?_, Int.emod_nonneg _ (by omega), Int.emod_lt_of_pos _ hk, ⟨row, a + 1, _, rfl, hl, by omega, by omega, hr⟩⟩
      refine fn_out rfl ?_ rfl
      rw [pe, pe]
      rcases hcell with ⟨he, hcl⟩ | ⟨he, hx⟩
      · have hz : row.length = 0 := by simpa using he
        have hnl : ¬ a < (row.length : Int) := by omega
        rcases hgx with ⟨rfl, rfl, hN⟩ | ⟨rfl, rfl, hN⟩
        all_goals
          rw [hN]
          simp [cDrawL, ixc0, ixc1, ixc2, mLPut_eq, c0, hk, hk2, ixN31, ixN32, e1, hne, he, hlen, ← hcl, hnl, e2z, e3, c5, ← hb1, c11, p1, s1, c13, ← hmx, e2, e7, e5, e6, ← hb2, c21, p2, s2, c23, ← hmy, lineOk]
      · have hp : 0 < row.length := by
          cases row with
          | nil => cases he
          | cons _ _ => simp
        by_cases d4 : a < (row.length : Int)
        · have d5 := d3 d4
          rcases hgx with ⟨rfl, rfl, hN⟩ | ⟨rfl, rfl, hN⟩
          all_goals
            rw [hN]
            simp [cDrawL, ixc0, ixc1, ixc2, mLPut_eq, c0, hk, hk2, ixN31, ixN32, e1, hne, he, hlen, hp, hx, ← hab, d4, d5, e2z, e3, c5, ← hb1, c11, p1, s1, c13, ← hmx, e2, e7, e5, e6, ← hb2, c21, p2, s2, c23, ← hmy, lineOk]
        · rcases hgx with ⟨rfl, rfl, hN⟩ | ⟨rfl, rfl, hN⟩
          all_goals
            rw [hN]
            simp [cDrawL, ixc0, ixc1, ixc2, mLPut_eq, c0, hk, hk2, ixN31, ixN32, e1, hne, he, hlen, hp, hx, ← hab, d4, e2z, e3, c5, ← hb1, c11, p1, s1, c13, ← hmx, e2, e7, e5, e6, ← hb2, c21, p2, s2, c23, ← hmy, lineOk]
end
end DL

/-! repr of any plain data: there, not too long, compared. -/
namespace DL
open PySem PySem.Spec PyProof.Rows L2
mutual
/-- in how many signs data are shown, at the most -/
def szD : D → Nat
  | .non => 4
  | .bl _ => 5
  | .int i => if i.natAbs.log2 < 1920 then i.natAbs.log2 + 3 else 33554432
  | .str s => 10 * s.length + 2
  | .lst l => 2 + szDs l
  | .ro l => 2 + szDs l
  | .tup l => 3 + szDs l
  | _ => 33554432
def szDs : List D → Nat
  | [] => 0
  | d :: l => szD d + 2 + szDs l
end
theorem char_ok (c : Char) : c.toNat < 0x110000 := by
  rcases c.valid with h | ⟨_, h⟩
  · have : c.val.toNat < 0xd800 := h
    show c.val.toNat < _
    omega
  · exact h
theorem okS_str (s : String) : okS (Str.ofString s) := fun c hc => by
  have e : (Str.ofString s).cps.toList = s.toList.map Char.toNat := by simp [Str.ofString, cpsOfBytes_string]
  rw [e] at hc
  obtain ⟨x, _, rfl⟩ := List.mem_map.mp hc
  exact char_ok x
theorem reprChar_ok {q c : Nat} (hq : q < 0x110000) (hc : c < 0x110000) : ∀ n ∈ Builtin.Str.reprChar q c, n < 0x110000 := by
  have hx : ∀ width : Nat, ∀ n ∈ (List.replicate (width - ((Nat.toDigits 16 c).map Char.toNat).length) 48 ++ (Nat.toDigits 16 c).map Char.toNat), n < 0x110000 := fun width n hn => by
    rcases List.mem_append.mp hn with h | h
    · rw [(List.mem_replicate.mp h).2]; decide
    · obtain ⟨x, _, rfl⟩ := List.mem_map.mp h
      exact char_ok x
  intro n hn
  unfold Builtin.Str.reprChar at hn
  dsimp only at hn
  split at hn
  · simp at hn; rcases hn with rfl | rfl <;> omega
  split at hn
  · simp at hn; rcases hn with rfl | rfl <;> omega
  split at hn
  · simp at hn; rcases hn with rfl | rfl <;> omega
  split at hn
  · simp at hn; rcases hn with rfl | rfl <;> omega
  split at hn
  · simp at hn; subst hn; exact hc
  split at hn
  · rcases List.mem_append.mp hn with h | h
    · simp at h; rcases h with rfl | rfl <;> omega
    · exact hx _ n h
  split at hn
  · rcases List.mem_append.mp hn with h | h
    · simp at h; rcases h with rfl | rfl <;> omega
    · exact hx _ n h
  · rcases List.mem_append.mp hn with h | h
    · simp at h; rcases h with rfl | rfl <;> omega
    · exact hx _ n h
theorem okS_repr {x : Str} (h : okS x) : okS (reprText x) := fun c hc => by
  have hq : reprQuote x < 0x110000 := by unfold reprQuote; split <;> decide
  have gen : ∀ (l : List Nat) (acc : Array Nat), (∀ c ∈ l, c < 0x110000) → (∀ c ∈ acc.toList, c < 0x110000) → ∀ c ∈ (l.foldl (fun out c => out ++ (Builtin.Str.reprChar (reprQuote x) c).toArray) acc).toList, c < 0x110000 := by
    intro l
    induction l with
    | nil => exact fun acc _ h => h
    | cons y l ih =>
      intro acc h1 h2
      refine ih _ (fun c m => h1 c (List.mem_cons_of_mem _ m)) fun c m => ?_
      rw [Array.toList_append] at m
      rcases List.mem_append.mp m with z | z
      · exact h2 c z
      · exact reprChar_ok hq (h1 y List.mem_cons_self) c (by simpa using z)
  have e : (reprText x).cps.toList = (x.cps.toList.foldl (fun out c => out ++ (Builtin.Str.reprChar (reprQuote x) c).toArray) #[reprQuote x]).toList ++ [reprQuote x] := by
    unfold reprText
    rw [Array.toList_push, ← Array.foldl_toList]
  rw [e] at hc
  rcases List.mem_append.mp hc with z | z
  · exact gen _ _ h (fun c m => by simp at m; rw [m]; exact hq) c z
  · rw [List.mem_singleton.mp z]; exact hq
theorem okS_join {sep : Str} (hs : okS sep) : ∀ ts : List Str, (∀ t ∈ ts, okS t) → okS (Str.join sep ts)
  | [], _ => by unfold Str.join; exact fun c hc => by cases hc
  | [x], h => h x List.mem_cons_self
  | x :: y :: r, h => by
    show okS (x ++ sep ++ Str.join sep (y :: r))
    exact okS_app (okS_app (h x List.mem_cons_self) hs) (okS_join hs (y :: r) fun t m => h t (List.mem_cons_of_mem _ m))
theorem okS_tuple {ts : List Str} (h : ∀ t ∈ ts, okS t) : okS (tupleText ts) := by
  unfold tupleText
  exact okS_app (okS_app (okS_str "(") (okS_join (okS_str ", ") ts h)) (by split <;> exact okS_str _)
def sumL (ts : List Str) : Nat := (ts.map fun t => t.length + 2).sum
theorem text_sum : ∀ (n : Nat) (acc : Str) (ts : List Str), (textFrom n acc ts).length ≤ acc.length + sumL ts
  | n, acc, [] => by unfold textFrom; simp [sumL]
  | n, acc, t :: ts => by
    unfold textFrom
    refine Nat.le_trans (text_sum _ _ ts) ?_
    rw [str_len_app, str_len_app]
    have e : ((if n > 0 then ", " else "" : String) : Str).length ≤ 2 := by split <;> decide +kernel
    simp only [sumL, List.map_cons, List.sum_cons]
    omega
theorem list_sum (ts : List Str) : (listText ts).length ≤ 2 + sumL ts := by
  unfold listText
  rw [str_len_app]
  have := text_sum 0 "[" ts
  have e1 : ("[" : Str).length = 1 := by decide +kernel
  have e2 : ("]" : Str).length = 1 := by decide +kernel
  omega
theorem join_sum : ∀ ts : List Str, (Str.join ", " ts).length ≤ sumL ts
  | [] => by unfold Str.join; simp [sumL]; rfl
  | [x] => by show x.length ≤ _; simp [sumL]
  | x :: y :: r => by
    have := join_sum (y :: r)
    show (x ++ ", " ++ Str.join ", " (y :: r)).length ≤ _
    have e2 : ((", " : String) : Str).length = 2 := rfl
    rw [str_len_app, str_len_app, e2]
    simp only [sumL, List.map_cons, List.sum_cons] at this ⊢
    omega
theorem tuple_sum (ts : List Str) : (tupleText ts).length ≤ 3 + sumL ts := by
  unfold tupleText
  rw [str_len_app, str_len_app]
  have := join_sum ts
  have e1 : ((("(" : String) : Str)).length = 1 := rfl
  have e3 : (((if ts.length == 1 then ",)" else ")" : String) : Str)).length ≤ 2 := by split <;> decide +kernel
  omega
mutual
theorem shown_ok : ∀ (d : D) (k : Nat) (p : PyData), dok d k = true → py d = some p → szD d < 33554432 → p.showable = true ∧ p.shown.length ≤ szD d ∧ okS p.shown
  | .non, _, p, _, e, _ => by cases e; exact ⟨rfl, by decide +kernel, okS_str "None"⟩
  | .bl b, _, p, _, e, _ => by
    cases e
    cases b
    · exact ⟨rfl, by decide +kernel, okS_str "False"⟩
    · exact ⟨rfl, by decide +kernel, okS_str "True"⟩
  | .int i, _, p, _, e, h => by
    cases e
    simp only [szD] at h ⊢
    by_cases hl : i.natAbs.log2 < 1920
    · rw [if_pos hl]
      refine ⟨by simpa [PyData.showable] using hl, ?_, okS_str _⟩
      have z := int_text_length_le (a := i) (k := i.natAbs.log2 + 1) (by omega) (by omega)
      show (Str.ofString (toString i)).length ≤ _
      rw [PySem.ofString_length]
      omega
    · rw [if_neg hl] at h; omega
  | .str s, _, p, hd, e, _ => by
    cases e
    have hd' : s.all (· < 0x110000) = true := hd
    have h1 : okS ⟨s.toArray⟩ := fun c hc => of_decide_eq_true (List.all_eq_true.mp hd' c (by simpa using hc))
    refine ⟨rfl, ?_, okS_repr h1⟩
    have z := PySem.StrLaws.reprText_len ⟨s.toArray⟩ fun c hc => Nat.lt_of_lt_of_le (h1 c hc) (by decide)
    simp only [szD]
    have e2 : (⟨s.toArray⟩ : Str).length = s.length := str_len s
    show (reprText ⟨s.toArray⟩).length ≤ _
    omega
  | .lst l, k, p, hd, e, h => by
    obtain ⟨_, hd2⟩ := pairB (by simpa only [dok] using hd)
    simp only [py] at e
    cases z : pys l with
    | none => rw [z] at e; cases e
    | some ps =>
      rw [z] at e; cases e
      obtain ⟨a, b, c⟩ := showns_ok l _ ps hd2 z (by simp only [szD] at h; omega)
      refine ⟨by simpa [PyData.showable] using a, ?_, ?_⟩
      · simp only [PyData.shown, szD]
        have := list_sum (PyData.shownAll ps)
        omega
      · simp only [PyData.shown]; exact listText_ok c
  | .ro l, k, p, hd, e, h => by
    obtain ⟨_, hd2⟩ := pairB (by simpa only [dok] using hd)
    simp only [py] at e
    cases z : pys l with
    | none => rw [z] at e; cases e
    | some ps =>
      rw [z] at e; cases e
      obtain ⟨a, b, c⟩ := showns_ok l _ ps hd2 z (by simp only [szD] at h; omega)
      refine ⟨by simpa [PyData.showable] using a, ?_, ?_⟩
      · simp only [PyData.shown, szD]
        have := list_sum (PyData.shownAll ps)
        omega
      · simp only [PyData.shown]; exact listText_ok c
  | .tup l, k, p, hd, e, h => by
    obtain ⟨_, hd2⟩ := pairB (by simpa only [dok] using hd)
    simp only [py] at e
    cases z : pys l with
    | none => rw [z] at e; cases e
    | some ps =>
      rw [z] at e; cases e
      obtain ⟨a, b, c⟩ := showns_ok l _ ps hd2 z (by simp only [szD] at h; omega)
      refine ⟨by simpa [PyData.showable] using a, ?_, ?_⟩
      · simp only [PyData.shown, szD]
        have := tuple_sum (PyData.shownAll ps)
        omega
      · simp only [PyData.shown]; exact okS_tuple c
  | .dic _, _, _, h, _, _ => by simp [dok] at h
  | .obj _ _, _, _, h, _, _ => by simp [dok] at h
  | .exc _ _, _, _, h, _, _ => by simp [dok] at h
  | .ty _, _, _, h, _, _ => by simp [dok] at h
  | .cls _, _, _, h, _, _ => by simp [dok] at h
  | .lam, _, _, h, _, _ => by simp [dok] at h
  | .loc _, _, _, h, _, _ => by simp [dok] at h
theorem showns_ok : ∀ (l : List D) (k : Nat) (ps : List PyData), doks l k = true → pys l = some ps → szDs l < 33554432 → PyData.showableAll ps = true ∧ sumL (PyData.shownAll ps) ≤ szDs l ∧ ∀ t ∈ PyData.shownAll ps, okS t
  | [], _, ps, _, e, _ => by cases e; exact ⟨rfl, by simp [PyData.shownAll, sumL], fun t m => by simp [PyData.shownAll] at m⟩
  | d :: l, k, ps, h, e, hz => by
    obtain ⟨h1, h2⟩ := pairB (by simpa only [doks] using h)
    simp only [pys] at e
    cases z1 : py d with
    | none => rw [z1] at e; cases e
    | some p =>
      cases z2 : pys l with
      | none => rw [z1, z2] at e; cases e
      | some qs =>
        rw [z1, z2] at e; cases e
        simp only [szDs] at hz ⊢
        obtain ⟨a1, a2, a3⟩ := shown_ok d k p h1 z1 (by omega)
        obtain ⟨b1, b2, b3⟩ := showns_ok l k qs h2 z2 (by omega)
        refine ⟨by simp [PyData.showableAll, a1, b1], ?_, fun t m => ?_⟩
        · simp only [PyData.shownAll, sumL, List.map_cons, List.sum_cons] at b2 ⊢
          omega
        · simp only [PyData.shownAll, List.mem_cons] at m
          rcases m with rfl | m
          · exact a3
          · exact b3 t m
end
/-- repr of data is told -/
theorem repr_ok {K : Kks} {d : D} {k : Nat} (h : dok d k = true) (hk : k ≤ 60) (hz : szD d ≤ 16777216) : ∃ s : List Nat, s.all (· < 0x110000) = true ∧ ∀ μ, BI.f K .repr [d] μ = .ok (.str s) μ := by
  obtain ⟨p, e1, e2, e3⟩ := py_ok d k h
  obtain ⟨a, b, c⟩ := shown_ok d k p h e1 (by omega)
  refine ⟨p.shown.cps.toList, List.all_eq_true.mpr fun x hx => decide_eq_true (c x hx), fun μ => ?_⟩
  have ht : top μ d = d := by
    cases d with
    | loc n => simp [dok] at h
    | _ => rfl
  show (match py (top μ d) with | some p => if reprOk p then ER.ok (.str p.shown.cps.toList) μ else .bad | none => .bad) = _
  rw [ht, e1]
  have z : reprOk p = true := by
    unfold reprOk
    rw [a, decide_eq_true (show p.depth ≤ 100 by omega), show lineOk p.shown.length = true from decide_eq_true (by omega)]
    rfl
  dsimp only
  rw [z, if_pos rfl]
section
variable {Γ : Gam} {δ : Dv} {μ μ1 μ2 : List M} {d : D} {a b : CE} {k : Nat}
/-- repr(a) != repr(b) of the same -/
theorem repr_ne (h : dok d k = true) (hk : k ≤ 60) (hz : szD d ≤ 16777216) (ha : evE Γ a δ μ = .ok d μ1) (hb : evE Γ b δ μ1 = .ok d μ2) : evT Γ (.cmp .ne (.bi .repr (.cons a .nil)) (.bi .repr (.cons b .nil))) δ μ = .ok false μ2 := by
  obtain ⟨s, hs, e⟩ := repr_ok (K := Γ.kks) h hk hz
  rw [evT_cmp, ev_cmp, ev_bi, evA_cons, ha, er_bindA_ok, evA_nil, ar_bind_ok, ar_bindE_ok, e, er_bind_ok, ev_bi, evA_cons, hb, er_bindA_ok, evA_nil, ar_bind_ok, ar_bindE_ok, e, er_bind_ok, (eqS hs hs).2]
  simp
theorem repr_eq (h : dok d k = true) (hk : k ≤ 60) (hz : szD d ≤ 16777216) (ha : evE Γ a δ μ = .ok d μ1) (hb : evE Γ b δ μ1 = .ok d μ2) : evE Γ (.cmp .eq (.bi .repr (.cons a .nil)) (.bi .repr (.cons b .nil))) δ μ = .ok (.bl true) μ2 := by
  obtain ⟨s, hs, e⟩ := repr_ok (K := Γ.kks) h hk hz
  rw [ev_cmp, ev_bi, evA_cons, ha, er_bindA_ok, evA_nil, ar_bind_ok, ar_bindE_ok, e, er_bind_ok, ev_bi, evA_cons, hb, er_bindA_ok, evA_nil, ar_bind_ok, ar_bindE_ok, e, er_bind_ok, (eqS hs hs).1]
  simp
/-- a == b, a != b of the same data -/
theorem ne_same (h : dok d k = true) (hk : k ≤ 60) (ha : evE Γ a δ μ = .ok d μ1) (hb : evE Γ b δ μ1 = .ok d μ2) : evT Γ (.cmp .ne a b) δ μ = .ok false μ2 := by
  have ht : ∀ μ, top μ d = d := fun μ => by
    cases d with
    | loc n => simp [dok] at h
    | _ => rfl
  have z := fEq_ok (x := d) (y := d) (neg := true) (k := k) (j := k) (μ := μ2) (by rw [ht]; exact h) (by rw [ht]; exact h) (by omega) (by omega)
  rw [ht, eqD_self h] at z
  have z : CK.f .ne d d μ2 = .ok (.bl false) μ2 := z
  rw [evT_cmp, ev_cmp, ha, er_bind_ok, hb, er_bind_ok, z]; rfl
theorem eq_same (h : dok d k = true) (hk : k ≤ 60) (ha : evE Γ a δ μ = .ok d μ1) (hb : evE Γ b δ μ1 = .ok d μ2) : evE Γ (.cmp .eq a b) δ μ = .ok (.bl true) μ2 := by
  have ht : ∀ μ, top μ d = d := fun μ => by
    cases d with
    | loc n => simp [dok] at h
    | _ => rfl
  have z := fEq_ok (x := d) (y := d) (neg := false) (k := k) (j := k) (μ := μ2) (by rw [ht]; exact h) (by rw [ht]; exact h) (by omega) (by omega)
  rw [ht, eqD_self h] at z
  have z : CK.f .eq d d μ2 = .ok (.bl true) μ2 := z
  rw [ev_cmp, ha, er_bind_ok, hb, er_bind_ok, z]
end
end DL

/-! Words, plainly: products, what is struck out. -/
namespace DL
/-- no sign beside its undoing -/
def chW : List Nat → Bool
  | [] => true
  | [_] => true
  | a :: b :: r => !(a == swL b) && chW (b :: r)
theorem chW_tail {a : Nat} {s : List Nat} (h : chW (a :: s) = true) : chW s = true := by
  cases s with
  | nil => rfl
  | cons b r => simp only [chW, Bool.and_eq_true] at h; exact h.2
theorem swL_swL {c : Nat} (h : isL c = true) : swL (swL c) = c := by
  rcases isL_cases h with rfl | rfl | rfl | rfl <;> rfl
theorem swL_isL {c : Nat} (h : isL c = true) : isL (swL c) = true := by
  rcases isL_cases h with rfl | rfl | rfl | rfl <;> rfl
theorem okPair_ch : ∀ s : List Nat, okPair s = !chW s
  | [] => rfl
  | [_] => rfl
  | a :: b :: r => by
    have ih := okPair_ch (b :: r)
    unfold okPair at ih ⊢
    simp only [List.drop_succ_cons, List.drop_zero, List.zip_cons_cons, List.any_cons] at ih ⊢
    rw [ih]
    simp [chW]
theorem isW_eq (s : List Nat) : isW s = (s.all isL && chW s) := by
  unfold isW
  rw [okPair_ch, Bool.not_not]
theorem isW_nil : isW [] = true := rfl
/-- a letter ahead -/
def fitsA (c : Nat) (w : List Nat) : Bool := match w with
  | [] => true
  | d :: _ => !(c == swL d)
theorem isW_cons {c : Nat} {w : List Nat} : isW (c :: w) = (isL c && fitsA c w && isW w) := by
  rw [isW_eq, isW_eq]
  cases w with
  | nil => simp [fitsA, chW]
  | cons d r =>
    simp only [List.all_cons, fitsA, chW]
    cases isL c <;> cases isL d <;> cases (c == swL d) <;> simp
theorem isW_L {w : List Nat} (h : isW w = true) : w.all isL = true := by
  rw [isW_eq] at h
  exact (Bool.and_eq_true_iff.mp h).1
theorem isW_ch {w : List Nat} (h : isW w = true) : chW w = true := by
  rw [isW_eq] at h
  exact (Bool.and_eq_true_iff.mp h).2
/-! letters put behind, one by one; the word is told from its end -/
def stR (acc : List Nat) (c : Nat) : List Nat := match acc with
  | [] => [c]
  | x :: r => if x == swL c then r else c :: x :: r
def runR (acc s : List Nat) : List Nat := s.foldl stR acc
def times (a b : List Nat) : List Nat := (runR a.reverse b).reverse
/-- how much is struck out -/
def mt : List Nat → List Nat → Nat
  | x :: r, c :: s => if x == swL c then mt r s + 1 else 0
  | _, _ => 0
theorem mt_le : ∀ a b, mt a b ≤ a.length ∧ mt a b ≤ b.length
  | [], b => by simp [mt]
  | _ :: _, [] => by simp [mt]
  | x :: r, c :: s => by
    have := mt_le r s
    simp only [mt]
    split <;> simp <;> omega
theorem run_fits : ∀ (s : List Nat) (acc : List Nat) (c : Nat), chW (c :: s) = true → (∀ d ∈ c :: s, isL d = true) → runR (c :: acc) s = s.reverse ++ c :: acc
  | [], acc, c, _, _ => rfl
  | d :: s, acc, c, h, hl => by
    have h1 : (c == swL d) = false := by
      simp only [chW, Bool.and_eq_true, Bool.not_eq_true'] at h
      exact h.1
    show runR (stR (c :: acc) d) s = _
    simp only [stR, h1]
    rw [if_neg (by simp)]
    rw [run_fits s (c :: acc) d (chW_tail h) fun x hx => hl x (List.mem_cons_of_mem _ hx)]
    simp
theorem run_mt : ∀ (s acc : List Nat), chW s = true → (∀ d ∈ s, isL d = true) → runR acc s = (s.drop (mt acc s)).reverse ++ acc.drop (mt acc s)
  | [], acc, _, _ => by cases acc <;> simp [runR, mt]
  | c :: s, [], h, hl => by
    show runR (stR [] c) s = _
    rw [show stR [] c = [c] from rfl, run_fits s [] c h hl]
    simp [mt]
  | c :: s, x :: r, h, hl => by
    show runR (stR (x :: r) c) s = _
    simp only [stR, mt]
    by_cases e : (x == swL c) = true
    · rw [if_pos e, if_pos e, run_mt s r (chW_tail h) fun d hd => hl d (List.mem_cons_of_mem _ hd)]
      simp
    · rw [if_neg e, if_neg e, run_fits s (x :: r) c h hl]
      simp
/-- struck, as the program does it -/
def struckW (a b : List Nat) : List Nat := a.take (a.length - mt a.reverse b) ++ b.drop (mt a.reverse b)
theorem times_struck {a b : List Nat} (h : isW b = true) : times a b = struckW a b := by
  unfold times struckW
  rw [run_mt b a.reverse (isW_ch h) fun d hd => List.all_eq_true.mp (isW_L h) d hd]
  rw [List.reverse_append, List.reverse_reverse, List.drop_reverse, List.reverse_reverse]
theorem times_len {a b : List Nat} (h : isW b = true) : (times a b).length = a.length + b.length - 2 * mt a.reverse b := by
  rw [times_struck h]
  unfold struckW
  have := mt_le a.reverse b
  simp at this
  simp only [List.length_append, List.length_take, List.length_drop]
  omega
/-- a word goes on well -/
def fitsW (a b : List Nat) : Bool := match a.reverse, b with
  | x :: _, c :: _ => !(x == swL c)
  | _, _ => true
theorem fits_mt (a b : List Nat) : fitsW a b = decide (mt a.reverse b = 0) := by
  unfold fitsW
  cases a.reverse with
  | nil => simp [mt]
  | cons x r =>
    cases b with
    | nil => simp [mt]
    | cons c s =>
      by_cases e : (x == swL c) = true
      · have z : mt (x :: r) (c :: s) = mt r s + 1 := by simp only [mt]; rw [if_pos e]
        rw [z]; dsimp only; rw [e]; simp
      · have z : mt (x :: r) (c :: s) = 0 := by simp only [mt]; rw [if_neg e]
        rw [Bool.not_eq_true] at e
        rw [z]; dsimp only; rw [e]; simp
theorem times_due {a b : List Nat} (h : isW b = true) : decide ((times a b).length = a.length + b.length) = fitsW a b := by
  rw [times_len h, fits_mt]
  have := mt_le a.reverse b
  simp at this
  congr 1
  apply propext
  constructor <;> intro z <;> omega
/-! letters of what is made -/
theorem stR_L {acc : List Nat} {c : Nat} (h : acc.all isL = true) (hc : isL c = true) : (stR acc c).all isL = true := by
  cases acc with
  | nil => simp [stR, hc]
  | cons x r =>
    simp only [stR]
    split
    · simp only [List.all_cons, Bool.and_eq_true] at h; exact h.2
    · simp only [List.all_cons, Bool.and_eq_true] at h ⊢; exact ⟨hc, h⟩
theorem chW_rev_snoc {c x : Nat} {r : List Nat} (h : chW (x :: r) = true) (hx : isL x = true) (hc : isL c = true) (e : (x == swL c) = false) : chW (c :: x :: r) = true := by
  simp only [chW, Bool.and_eq_true, Bool.not_eq_true']
  refine ⟨?_, h⟩
  rcases isL_cases hx with rfl | rfl | rfl | rfl <;> rcases isL_cases hc with rfl | rfl | rfl | rfl <;> first | rfl | cases e
/-- a row told from its end is a word, too -/
theorem stR_ch {acc : List Nat} {c : Nat} (h : acc.all isL = true) (hc : isL c = true) (hw : chW acc = true) : chW (stR acc c) = true := by
  cases acc with
  | nil => rfl
  | cons x r =>
    simp only [stR]
    split
    · exact chW_tail hw
    · rename_i e
      have hx : isL x = true := by simp only [List.all_cons, Bool.and_eq_true] at h; exact h.1
      exact chW_rev_snoc hw hx hc (by simpa using e)
theorem runR_ok : ∀ (s acc : List Nat), acc.all isL = true → chW acc = true → s.all isL = true → (runR acc s).all isL = true ∧ chW (runR acc s) = true
  | [], acc, h1, h2, _ => ⟨h1, h2⟩
  | c :: s, acc, h1, h2, h3 => by
    simp only [List.all_cons, Bool.and_eq_true] at h3
    exact runR_ok s (stR acc c) (stR_L h1 h3.1) (stR_ch h1 h3.1 h2) h3.2
/-- a row turned about -/
theorem chW_append : ∀ (s : List Nat) (a b : Nat) (t : List Nat), chW (s ++ [a]) = true → (a == swL b) = false → chW (b :: t) = true → chW (s ++ a :: b :: t) = true
  | [], a, b, t, _, e, h => by simp only [List.nil_append, chW, e, Bool.not_false, Bool.true_and]; exact h
  | [x], a, b, t, h1, e, h => by
    simp only [List.cons_append, List.nil_append, chW, Bool.and_true] at h1 ⊢
    rw [h1, e]; simpa using h
  | x :: y :: s, a, b, t, h1, e, h => by
    have z := chW_append (y :: s) a b t (chW_tail h1) e h
    simp only [List.cons_append, chW, Bool.and_eq_true] at h1 z ⊢
    exact ⟨h1.1, z⟩
theorem chW_reverse : ∀ s : List Nat, s.all isL = true → chW s = true → chW s.reverse = true
  | [], _, _ => rfl
  | [_], _, _ => rfl
  | a :: b :: r, hl, h => by
    simp only [List.all_cons, Bool.and_eq_true] at hl
    have ih := chW_reverse (b :: r) (by simp [hl.2.1, hl.2.2]) (chW_tail h)
    have e : (b == swL a) = false := by
      simp only [chW, Bool.and_eq_true, Bool.not_eq_true'] at h
      have z := h.1
      rcases isL_cases hl.1 with rfl | rfl | rfl | rfl <;> rcases isL_cases hl.2.1 with rfl | rfl | rfl | rfl <;> first | rfl | cases z
    rw [List.reverse_cons] at ih
    rw [List.reverse_cons, List.reverse_cons, List.append_assoc]
    exact chW_append r.reverse b a [] ih e rfl
theorem isW_reverse {s : List Nat} (h : isW s = true) : isW s.reverse = true := by
  have h1 := isW_L h
  have h2 := isW_ch h
  rw [isW_eq, List.all_reverse, h1, chW_reverse s h1 h2]; rfl
theorem isW_times {a b : List Nat} (ha : isW a = true) (hb : b.all isL = true) : isW (times a b) = true := by
  unfold times
  have h1 := isW_L (isW_reverse ha)
  have h2 := isW_ch (isW_reverse ha)
  obtain ⟨z1, z2⟩ := runR_ok b a.reverse h1 h2 hb
  exact isW_reverse (by rw [isW_eq, z1, z2]; rfl)
theorem stR_len (acc : List Nat) (c : Nat) : (stR acc c).length ≤ acc.length + 1 := by
  cases acc with
  | nil => simp [stR]
  | cons x r => simp only [stR]; split <;> simp <;> omega
theorem runR_len : ∀ (s acc : List Nat), (runR acc s).length ≤ acc.length + s.length
  | [], acc => by simp [runR]
  | c :: s, acc => by
    have := runR_len s (stR acc c)
    have := stR_len acc c
    show (runR (stR acc c) s).length ≤ _
    simp only [List.length_cons]; omega
theorem times_len_le (a b : List Nat) : (times a b).length ≤ a.length + b.length := by
  unfold times
  rw [List.length_reverse]
  have := runR_len b a.reverse
  simpa using this
/-- what is read off one after another, told from the front -/
def stF (acc : List Nat) (c : Nat) : List Nat := (stR acc.reverse c).reverse
theorem foldF : ∀ (s acc : List Nat), s.foldl stF acc = (runR acc.reverse s).reverse
  | [], acc => by simp [runR]
  | c :: s, acc => by
    rw [List.foldl_cons, foldF s (stF acc c)]
    show _ = (runR (stR acc.reverse c) s).reverse
    unfold stF
    rw [List.reverse_reverse]
theorem times_foldF (a b : List Nat) : times a b = b.foldl stF a := (foldF b a).symm
theorem stF_nil (c : Nat) : stF [] c = [c] := rfl
theorem stF_snoc (r : List Nat) (x c : Nat) : stF (r ++ [x]) c = if x == swL c then r else r ++ [x, c] := by
  unfold stF
  rw [List.reverse_append]
  show (stR (x :: r.reverse) c).reverse = _
  simp only [stR]
  split <;> simp
end DL

/-! Words: what the program's and the laws' defs on words answer. -/
namespace DL
open PySem PySem.Spec PyProof.Rows L2
section
variable {Γ : Gam} {δ : Dv} {μ t : List M} {d : D}
/-- cells of its own are let go -/
theorem cut_plain {kp : Bool} (hd : dLess 0 d = true) (hc : Clean μ) : cutE kp μ.length (.ok d (μ ++ t)) = .ok d μ := by
  have h1 : dLess μ.length d = true := dLess0 d hd
  have h2 : μLess μ.length (μ ++ t) = true := hc.less (Nat.le_refl _)
  have h3 : (μ ++ t).take μ.length = μ := by simp
  unfold cutE
  dsimp only
  by_cases hl : (μ ++ t).length = μ.length
  · rw [if_pos hl]
    have : t = [] := by
      rw [List.length_append] at hl
      exact List.length_eq_zero_iff.mp (by omega)
    rw [this, List.append_nil]
  · rw [if_neg hl]
    have h4 : cutL μ.length (.ok d (μ ++ t)) = .ok d μ := by
      have e : frzD μ.length (μ ++ t) d = some d := by
        cases d with
        | loc n => simp [dLess] at hd
        | _ => unfold frzD; dsimp only; rw [h1]; rfl
      unfold cutL
      dsimp only
      rw [e]
      dsimp only
      rw [h2, h3]; rfl
    cases d with
    | loc n => simp [dLess] at hd
    | _ => cases kp <;> simp only [if_true, if_false, cutA, cutD, h4, Bool.false_eq_true]
theorem cut_exc {kp : Bool} {c : Nat} {fs : List (Str × D)} (hd : fsLess 0 fs = true) (hc : Clean μ) : cutE kp μ.length (.exc c fs (μ ++ t)) = .exc c fs μ := by
  have h1 : fsLess μ.length fs = true := fsLess0 fs hd
  have h2 : μLess μ.length (μ ++ t) = true := hc.less (Nat.le_refl _)
  have h3 : (μ ++ t).take μ.length = μ := by simp
  unfold cutE
  dsimp only
  by_cases hl : (μ ++ t).length = μ.length
  · rw [if_pos hl]
    have : t = [] := by
      rw [List.length_append] at hl
      exact List.length_eq_zero_iff.mp (by omega)
    rw [this, List.append_nil]
  · rw [if_neg hl]
    unfold cutL
    dsimp only
    rw [h1, h2, h3]; rfl
theorem fn_cut {n c ds δ'} (hn : ds.length = n) (h : evSs Γ c (ds.map some ++ List.replicate (Γ.N.length - n) none) μ = .rt d δ' (μ ++ t)) (hd : dLess 0 d = true) (hc : Clean μ) : mFn Γ n c ds μ = .ok d μ := by
  rw [mFn_eq, if_pos hn, h, retE_rt, cut_plain hd hc]
/-- what a body hands back, its own cells besides -/
theorem fn_cutO {n c ds} (hn : ds.length = n) (h : outS (evSs Γ c (ds.map some ++ List.replicate (Γ.N.length - n) none) μ) = some (d, μ ++ t)) (hd : dLess 0 d = true) (hc : Clean μ) : mFn Γ n c ds μ = .ok d μ := by
  cases e : evSs Γ c (ds.map some ++ List.replicate (Γ.N.length - n) none) μ with
  | rt d' δ' μ2 =>
    rw [e] at h
    cases h
    exact fn_cut hn e hd hc
  | _ => rw [e] at h; cases h
theorem Clean.cons {m : M} (hm : mLess 0 m = true) (hc : Clean μ) : Clean (m :: μ) := fun x hx => (List.mem_cons.mp hx).elim (fun z => by rw [z]; exact hm) (hc x)
theorem Clean.snoc {m : M} (hc : Clean μ) (hm : mLess 0 m = true) : Clean (μ ++ [m]) := fun x hx => by
  rcases List.mem_append.mp hx with z | z
  · exact hc x z
  · rw [List.mem_singleton.mp z]; exact hm
theorem Clean.nil : Clean [] := fun _ h => by cases h
theorem dicOf_last {l} : dicOf (μ ++ [.dic l]) (.loc μ.length) = some l := by
  show (match (μ ++ [M.dic l])[μ.length]? with | some (.dic l) => some l | _ => none) = _
  simp
/-! ### the law's undoing of a letter -/
def cLawUndo : CSs := (.cons (.ret (.dget (.dicD (.cons (.k (.str [65])) (.k (.str [97])) (.cons (.k (.str [97])) (.k (.str [65])) (.cons (.k (.str [66])) (.k (.str [98])) (.cons (.k (.str [98])) (.k (.str [66])) .nil))))) (.v 0))) .nil)
def UndoSp (f : FD) : Prop := ∀ (c : Nat) (μ : List M), isL c = true → Clean μ → f [.str [c]] μ = .ok (.str [swL c]) μ
theorem undo_ok (hN : Γ.N.length = 1) : UndoSp (mFn Γ 1 cLawUndo) := by
  intro c μ hc hm
  refine fn_out rfl ?_ rfl
  rw [hN]
  have e : ∀ δ, mDicD (evPs Γ (.cons (.k (.str [65])) (.k (.str [97])) (.cons (.k (.str [97])) (.k (.str [65])) (.cons (.k (.str [66])) (.k (.str [98])) (.cons (.k (.str [98])) (.k (.str [66])) .nil))))) δ μ = .ok (.dic [(.inr ⟨[65].toArray⟩, .str [97]), (.inr ⟨[97].toArray⟩, .str [65]), (.inr ⟨[66].toArray⟩, .str [98]), (.inr ⟨[98].toArray⟩, .str [66])]) μ := fun δ => rfl
  rcases isL_cases hc with rfl | rfl | rfl | rfl <;>
  · simp only [cLawUndo, evSs_one, evS_ret, ev_dget, ev_dicD, e, er_bind_ok, ev_v, List.map_cons, List.map_nil, List.cons_append, List.nil_append, List.getElem?_cons_zero, fDGet, keyOf_str, er_bindS_ok]
    rfl
/-! ### signs in a list -/
theorem items_nil : strItems [] = [] := rfl
theorem items_app (a b : List Nat) : strItems (a ++ b) = strItems a ++ strItems b := by unfold strItems; simp
theorem items_one (c : Nat) : strItems [c] = [.str [c]] := rfl
theorem items_less (s : List Nat) (k : Nat) : dsLess k (strItems s) = true := by
  induction s with
  | nil => rfl
  | cons c s ih => show (dLess k (.str [c]) && dsLess k (strItems s)) = true; rw [ih]; rfl
theorem items_doks {s : List Nat} (h : s.all isL = true) (k : Nat) : doks (strItems s) k = true := by
  induction s with
  | nil => rfl
  | cons c s ih =>
    simp only [List.all_cons, Bool.and_eq_true] at h
    show (dok (.str [c]) k && doks (strItems s) k) = true
    rw [ih h.2, Bool.and_true]
    simp only [dok, List.all_cons, List.all_nil, Bool.and_true, decide_eq_true_eq]
    exact (isL_lt h.1).1
theorem items_eqnil (s : List Nat) : eqD (.lst (strItems s)) (.lst []) = s.isEmpty := by
  have e : ∀ s : List Nat, pys (strItems s) = some (s.map fun c => .str ⟨[c].toArray⟩) := fun s => by
    induction s with
    | nil => rfl
    | cons c s ih =>
      show pys (.str [c] :: strItems s) = _
      simp only [pys, py, ih, List.map_cons]
  cases s with
  | nil => rfl
  | cons c s =>
    have e2 := e (c :: s)
    unfold eqD
    simp only [py, e2]
    rfl
theorem strs_items : ∀ s : List Nat, strsOf (strItems s) = some (s.map fun c => [c])
  | [] => rfl
  | c :: s => by
    show strsOf (.str [c] :: strItems s) = _
    simp only [strsOf, strs_items s]
    rfl
theorem flat_one : ∀ s : List Nat, (s.map fun c => [c]).flatten = s
  | [] => rfl
  | c :: s => by simp [flat_one s]
theorem sum_one : ∀ s : List Nat, ((s.map fun c => [c]).map List.length).sum = s.length
  | [] => rfl
  | c :: s => by
    have := sum_one s
    simp only [List.map_cons, List.sum_cons, List.length_cons, List.length_nil] at this ⊢
    omega
/-- "".join of signs -/
theorem join_items {y : D} {s : List Nat} (h : sqOf μ y = some (strItems s)) (hl : s.length ≤ 16777216) : BM.f .join0 (.str []) [y] μ = .ok (.str s) μ := by
  show fJoin0 (.str []) [y] μ = _
  unfold fJoin0
  dsimp only
  rw [h]
  dsimp only
  rw [strs_items]
  dsimp only
  rw [sum_one, show lineOk s.length = true from decide_eq_true hl, if_pos rfl, flat_one]
theorem cell_last {l} : sqOf (μ ++ [.lst l]) (.loc μ.length) = some l := by
  show cellL (μ ++ [.lst l]) μ.length = _
  unfold cellL
  simp
theorem top_last {l} : top (μ ++ [.lst l]) (.loc μ.length) = .lst l := by
  unfold top
  dsimp only
  rw [show cellL (μ ++ [.lst l]) μ.length = some l from cell_last]
/-- the body: a sign is put behind, or struck out; u: what undoes the sign -/
def cStep (u : CE) (i j : Nat) : CS := .ite (.and (.cons (.cmp .ne (.v i) (.lst .nil)) (.one (.cmp .eq (.ix (.v i) (.neg (.k (.int 1)))) u)))) (.cons (.expr (.bm .pop (.v i) .nil)) .nil) (.cons (.expr (.bm .append (.v i) (.cons (.v j) .nil))) .nil)
theorem step_ok {u : CE} {i j c : Nat} {acc : List Nat} (hi : δ[i]? = some (some (.loc μ.length))) (hj : δ[j]? = some (some (.str [c]))) (hu : ∀ acc : List Nat, evE Γ u δ (μ ++ [.lst (strItems acc)]) = .ok (.str [swL c]) (μ ++ [.lst (strItems acc)])) (ha : acc.all isL = true) (hc : isL c = true) (hl : acc.length < 16777216) :
    evSs Γ (.cons (cStep u i j) .nil) δ (μ ++ [.lst (strItems acc)]) = .nx δ (μ ++ [.lst (strItems (stF acc c))]) := by
  have ne : CK.f .ne (.loc μ.length) (.lst []) (μ ++ [.lst (strItems acc)]) = .ok (.bl (!acc.isEmpty)) (μ ++ [.lst (strItems acc)]) := by
    have z := fEq_ok (x := .loc μ.length) (y := .lst []) (neg := true) (k := 2) (j := 1) (μ := μ ++ [.lst (strItems acc)]) (by rw [top_last]; simp [dok, items_doks ha]) (by simp [top, dok, doks]) (by omega) (by omega)
    rw [top_last] at z
    simp only [top, items_eqnil] at z
    exact z
  rw [evSs_one]
  unfold cStep
  rw [evS_ite, evT_and, evTAnd_cons, evT_cmp, ev_cmp, ev_v, hi]
  dsimp only
  rw [er_bind_ok, ev_lst, evA_nil, ar_bindE_ok, show lineOk ([] : List D).length = true from rfl, if_pos rfl, er_bind_ok, ne, er_bindT_ok]
  dsimp only
  rw [tr_bind_ok]
  rcases List.eq_nil_or_concat acc with rfl | ⟨r, x, rfl⟩
  · rw [show ([] : List Nat).isEmpty = true from rfl, Bool.not_true, if_neg (by decide), tr_bindS_ok, if_neg (by decide), evSs_one, evS_expr, ev_bm, ev_v, hi]
    dsimp only
    rw [er_bind_ok]
    have hg : BM.g .append (.loc μ.length) (μ ++ [.lst (strItems [])]) = true := by
      show (lsOf _ (.loc μ.length)).isSome = true
      rw [show lsOf (μ ++ [.lst (strItems [])]) (.loc μ.length) = some (strItems []) from cell_last]; rfl
    rw [hg, if_pos rfl, evA_cons, ev_v, hj]
    dsimp only
    rw [er_bindA_ok, evA_nil, ar_bind_ok, ar_bindE_ok]
    show (fAppend (.loc μ.length) [.str [c]] (μ ++ [.lst (strItems [])])).bindS δ _ = _
    unfold fAppend
    simp [strItems, lineOk, stF_nil]
  · rw [List.concat_eq_append] at *
    have hx : isL x = true := by simp only [List.all_append, Bool.and_eq_true] at ha; simpa using ha.2
    rw [show (r ++ [x]).isEmpty = false from by simp, Bool.not_false, if_pos rfl, evTAnd_one, evT_cmp, ev_cmp, ev_ix, ev_v, hi]
    dsimp only
    rw [er_bind_ok, ev_neg, ev_k, er_bind_ok]
    have hix : fIx (.loc μ.length) (.int (-1)) (μ ++ [.lst (strItems (r ++ [x]))]) = .ok (.str [x]) (μ ++ [.lst (strItems (r ++ [x]))]) := by
      unfold fIx
      dsimp only
      rw [show lsOf (μ ++ [.lst (strItems (r ++ [x]))]) (.loc μ.length) = some (strItems (r ++ [x])) from cell_last]
      dsimp only
      have e : atI (strItems (r ++ [x])) (-1) = some (.str [x]) := by
        unfold atI ixN
        rw [if_neg (by decide), if_pos (by rw [str_items_len]; simp; omega)]
        rw [items_app]
        have e0 : ((-1 : Int) + (((strItems r).length : Int) + 1)).toNat = (strItems r).length := by omega
        simp [items_one, e0]
      rw [e]
    show ((((fNeg (Kc.d (.int 1)) _).bind _).bind _).bindT _).bindS δ _ = _
    rw [show fNeg (Kc.d (.int 1)) (μ ++ [.lst (strItems (r ++ [x]))]) = .ok (.int (-1)) (μ ++ [.lst (strItems (r ++ [x]))]) from rfl, er_bind_ok, hix, er_bind_ok, hu, er_bind_ok, eq_signs (isL_lt hx).1 (isL_lt hc).2, er_bindT_ok]
    dsimp only
    rw [tr_bindS_ok, stF_snoc]
    cases e : (x == swL c) with
    | true =>
      rw [if_pos rfl, if_pos rfl, evSs_one, evS_expr, ev_bm, ev_v, hi]
      dsimp only
      rw [er_bind_ok]
      have hg : BM.g .pop (.loc μ.length) (μ ++ [.lst (strItems (r ++ [x]))]) = true := by
        show (lsOf _ (.loc μ.length)).isSome = true
        rw [show lsOf (μ ++ [.lst (strItems (r ++ [x]))]) (.loc μ.length) = some (strItems (r ++ [x])) from cell_last]; rfl
      rw [hg, if_pos rfl, evA_nil, ar_bindE_ok]
      show (fPop (.loc μ.length) [] (μ ++ [.lst (strItems (r ++ [x]))])).bindS δ _ = _
      unfold fPop
      simp [items_app, items_one, strItems]
    | false =>
      rw [if_neg (by decide), if_neg (by decide), evSs_one, evS_expr, ev_bm, ev_v, hi]
      dsimp only
      rw [er_bind_ok]
      have hg : BM.g .append (.loc μ.length) (μ ++ [.lst (strItems (r ++ [x]))]) = true := by
        show (lsOf _ (.loc μ.length)).isSome = true
        rw [show lsOf (μ ++ [.lst (strItems (r ++ [x]))]) (.loc μ.length) = some (strItems (r ++ [x])) from cell_last]; rfl
      rw [hg, if_pos rfl, evA_cons, ev_v, hj]
      dsimp only
      rw [er_bindA_ok, evA_nil, ar_bind_ok, ar_bindE_ok]
      show (fAppend (.loc μ.length) [.str [c]] (μ ++ [.lst (strItems (r ++ [x]))])).bindS δ _ = _
      unfold fAppend
      have hl2 : lineOk ((strItems (r ++ [x])).length + 1) = true := by rw [str_items_len]; exact decide_eq_true (by omega)
      have e3 : strItems (r ++ [x]) ++ [.str [c]] = strItems (r ++ [x, c]) := by
        have : r ++ [x, c] = (r ++ [x]) ++ [c] := by simp
        rw [this, items_app (r ++ [x]) [c]]; rfl
      simp only [List.getElem?_concat_length, hl2, if_true, e3, er_bindS_ok, List.set_append_right, Nat.le_refl, Nat.sub_self, List.set_cons_zero]
/-- the loop: signs put behind one by one -/
theorem loop_ok {u : CE} {i j : Nat} {it : CE} {b : List Nat} {acc : List Nat} (hij : i ≠ j) (hjl : j < δ.length) (hi : δ[i]? = some (some (.loc μ.length))) (hit : ∀ x, evE Γ it (δ.set j x) (μ ++ [.lst (strItems acc)]) = .ok (.str b) (μ ++ [.lst (strItems acc)]) ) (hit0 : evE Γ it δ (μ ++ [.lst (strItems acc)]) = .ok (.str b) (μ ++ [.lst (strItems acc)]))
    (hu : ∀ (c : Nat) (acc : List Nat), isL c = true → evE Γ u (δ.set j (some (.str [c]))) (μ ++ [.lst (strItems acc)]) = .ok (.str [swL c]) (μ ++ [.lst (strItems acc)])) (ha : acc.all isL = true) (hb : b.all isL = true) (hl : acc.length + b.length ≤ 16777216) :
    ∃ x, evS Γ (.loop (.seq it) (.nm j) (.cons (cStep u i j) .nil)) δ (μ ++ [.lst (strItems acc)]) = .nx (δ.set j x) (μ ++ [.lst (strItems (times acc b))]) := by
  have key : ∃ δ' μ', mFor (evI Γ (.seq it)) (evG (.nm j)) (evSs Γ (.cons (cStep u i j) .nil)) δ (μ ++ [.lst (strItems acc)]) = .nx δ' μ' ∧ ((∃ x, δ' = δ.set j x) ∧ ∃ a', a' = (b.take (strItems b).length).foldl stF acc ∧ μ' = μ ++ [.lst (strItems a')]) := by
    refine mFor_thru (l := strItems b) (gg := fun _ => some (strItems b)) (μ1 := μ ++ [.lst (strItems acc)]) (fun k δ' μ' => (∃ x, δ' = δ.set j x) ∧ ∃ a', a' = (b.take k).foldl stF acc ∧ μ' = μ ++ [.lst (strItems a')]) (evI_seqS hit0) (fun _ _ _ _ => rfl) (fun k hk δ1 μ1 ⟨⟨x, e1⟩, a', e2, e3⟩ => ?_) ⟨⟨δ[j]'hjl, by rw [List.set_getElem_self]⟩, acc, rfl, rfl⟩
    subst e1 e3
    have hk' : k < b.length := by rw [str_items_len] at hk; exact hk
    have ec : (strItems b)[k] = .str [b[k]] := by simp [strItems]
    have hc : isL b[k] = true := List.all_eq_true.mp hb _ (List.getElem_mem hk')
    have hset : ∀ y, (δ.set j x).set j y = δ.set j y := fun y => List.set_set ..
    have la : a'.all isL = true ∧ a'.length ≤ acc.length + k := by
      rw [e2, foldF, List.all_reverse, List.length_reverse]
      have q1 : (b.take k).all isL = true := List.all_eq_true.mpr fun y hy => List.all_eq_true.mp hb y (List.mem_of_mem_take hy)
      have q2 := runR_len (b.take k) acc.reverse
      have q3 : ∀ (s acc : List Nat), acc.all isL = true → s.all isL = true → (runR acc s).all isL = true := fun s => by
        induction s with
        | nil => intro acc h1 _; exact h1
        | cons y s ih =>
          intro acc h1 h2
          simp only [List.all_cons, Bool.and_eq_true] at h2
          exact ih _ (stR_L h1 h2.1) h2.2
      refine ⟨q3 _ _ (by rw [List.all_reverse]; exact ha) q1, ?_⟩
      rw [List.length_reverse, List.length_take] at q2
      omega
    have hi2 : (δ.set j (some (.str [b[k]])))[i]? = some (some (.loc μ.length)) := by rw [List.getElem?_set_ne hij.symm]; exact hi
    have hj2 : (δ.set j (some (.str [b[k]])))[j]? = some (some (.str [b[k]])) := by rw [List.getElem?_set_self hjl]
    refine ⟨δ.set j (some (.str [b[k]])), δ.set j (some (.str [b[k]])), μ ++ [.lst (strItems (stF a' b[k]))], ?_, step_ok hi2 hj2 (fun ac => hu _ ac hc) la.1 hc (by omega), ⟨_, rfl⟩, stF a' b[k], ?_, rfl⟩
    · rw [evG_nm, hset, ec]
    · rw [e2, List.take_succ, List.getElem?_eq_getElem hk', List.foldl_append]; rfl
  obtain ⟨δ', μ', e, ⟨x, rfl⟩, a', e2, rfl⟩ := key
  refine ⟨x, ?_⟩
  rw [evS_loop, e, e2, str_items_len, List.take_length, times_foldF]
end
end DL

/-! Words: products, undoings, what goes ahead. -/
namespace DL
open PySem PySem.Spec PyProof.Rows L2
section
variable {Γ : Gam} {δ : Dv} {μ t : List M} {d : D}
theorem line_ok {n : Nat} (h : n ≤ 16777216) : lineOk n = true := decide_eq_true h
theorem cut_to {α : Type} {l : List α} {k : Int} (h0 : 0 ≤ k) (h : k ≤ l.length) : cutG l none (some k) = l.take k.toNat := by
  have e1 : HT.sIx l.length 0 none = 0 := rfl
  have e2 : HT.sIx l.length l.length (some k) = k.toNat := by
    show (if k < 0 then (k + (l.length : Int)).toNat else min k.toNat l.length) = _
    rw [if_neg (by omega)]
    omega
  unfold cutG
  rw [e1, e2]
  simp
theorem cut_from {α : Type} {l : List α} {k : Int} (h0 : 0 ≤ k) (h : k ≤ l.length) : cutG l (some k) none = l.drop k.toNat := by
  have e1 : HT.sIx l.length 0 (some k) = k.toNat := by
    show (if k < 0 then (k + (l.length : Int)).toNat else min k.toNat l.length) = _
    rw [if_neg (by omega)]
    omega
  have e2 : HT.sIx l.length l.length none = l.length := rfl
  unfold cutG
  rw [e1, e2, List.take_of_length_le (by rw [List.length_drop]; omega)]
theorem ixS {s : List Nat} {k : Int} {c : Nat} (hl : s.length ≤ 16777216) (h0 : 0 ≤ k) (h : s[k.toNat]? = some c) : fIx (.str s) (.int k) μ = .ok (.str [c]) μ := by
  have h1 := (List.getElem?_eq_some_iff.mp h).1
  show (if lineOk s.length then (match atI s k with | some c => ER.ok (.str [c]) μ | none => .bad) else .bad) = _
  have e : atI s k = some c := by
    unfold atI ixN
    rw [if_pos h0, if_pos (by omega)]
    exact h
  rw [line_ok hl, if_pos rfl, e]
/-! ### all of it letters -/
def qAll (i : Nat) (own : List (Str × Nat)) : CE := .bi .all (.cons (.lc false (.seq (.v 0)) (.nm i) (.yes) (.cmp .inS (.v i) (.k (.str [65, 66, 97, 98]))) own) .nil)
theorem all_ok {i : Nat} {own : List (Str × Nat)} {s : List Nat} (h0 : ∀ e, (δ[0]? = some e → e = some (.str s))) (hw : ∀ c, (wipeD δ (own.map (·.2))).set i (some (.str [c])) = ((wipeD δ (own.map (·.2))).set i (some (.str [c])))) (hi : i < (wipeD δ (own.map (·.2))).length) (hv : evE Γ (.v 0) δ μ = .ok (.str s) μ) (hl : s.length ≤ 16777216) : evE Γ (qAll i own) δ μ = .ok (.bl (s.all isL)) μ := by
  have c1 : mLcB false (evI Γ (.seq (.v 0))) (evG (.nm i)) (evT Γ .yes) (evE Γ (.cmp .inS (.v i) (.k (.str [65, 66, 97, 98])))) (own.map (·.2)) δ μ = .ok (.lst ((strItems s).map fun d => .bl (isL (sg d)))) μ :=
    mLc_map (fun d => .bl (isL (sg d))) (evI_seqS hv) rfl (fun d hd => by
      obtain ⟨c, _, rfl⟩ := List.mem_map.mp hd
      refine ⟨_, rfl, ?_⟩
      rw [ev_cmp, ev_v, List.getElem?_set_self hi]
      dsimp only
      rw [er_bind_ok, ev_k, kd_str, er_bind_ok, in_ab]
      rfl) (by rw [str_items_len]; exact hl)
  have a1 : (strItems s).all (fun d => isL (sg d)) = s.all isL := by
    unfold strItems
    rw [List.all_map]; rfl
  have a2 := bi_all (k := Γ.kks) (μ := μ) (l := strItems s) (f := fun d => isL (sg d)) (h := fun d => .bl (isL (sg d))) (fun _ _ => rfl)
  rw [a1] at a2
  unfold qAll
  rw [ev_bi, evA_cons, ev_lc, c1, er_bindA_ok, evA_nil, ar_bind_ok, ar_bindE_ok, a2]
/-! ### what is left of signs -/
def cReduced (k : Nat) : CSs := (.cons (.ite (.or (.cons (.not (.val (.bi .isi (.cons (.v 0) (.cons (.k (.ty "str")) .nil))))) (.one (.not (.val (qAll 1 [(".0", 3), ("sign", 1)])))))) (.cons (.rse k "value" (.v 0)) .nil) .nil)
  (.cons (.asg (.nm 2) (.lstM .nil)) (.cons (.loop (.seq (.v 0)) (.nm 1) (.cons (cStep (.bm .swapcase (.v 1) .nil) 2 1) .nil)) (.cons (.ret (.bm .join0 (.k (.str [])) (.cons (.v 2) .nil))) .nil))))
theorem join_last {δ : Dv} {i : Nat} {s : List Nat} (hi : δ[i]? = some (some (.loc μ.length))) (hl : s.length ≤ 16777216) : evS Γ (.ret (.bm .join0 (.k (.str [])) (.cons (.v i) .nil))) δ (μ ++ [.lst (strItems s)]) = .rt (.str s) δ (μ ++ [.lst (strItems s)]) := by
  rw [evS_ret, ev_bm, ev_k, kd_str, er_bind_ok, show BM.g .join0 (.str []) (μ ++ [.lst (strItems s)]) = true from rfl, if_pos rfl, evA_cons, ev_v, hi]
  dsimp only
  rw [er_bindA_ok, evA_nil, ar_bind_ok, ar_bindE_ok, join_items cell_last hl, er_bindS_ok]
theorem reduced_ok {k : Nat} (hN : Γ.N.length = 4) (hs : ∀ s μ, BI.f Γ.kks .isi [.str s, .ty "str"] μ = .ok (.bl true) μ) {s : List Nat} (hL : s.all isL = true) (hl : s.length ≤ 16777216) (hc : Clean μ) : mFn Γ 1 (cReduced k) [.str s] μ = .ok (.str (times [] s)) μ := by
  have ea := all_ok (Γ := Γ) (δ := [some (.str s), none, none, none]) (μ := μ) (i := 1) (own := [(".0", 3), ("sign", 1)]) (s := s) (fun _ e => (Option.some.inj e).symm) (fun _ => rfl) (by show 1 < 4; omega) rfl hl
  obtain ⟨x, e3⟩ := loop_ok (Γ := Γ) (δ := [some (.str s), none, some (.loc μ.length), none]) (μ := μ) (u := .bm .swapcase (.v 1) .nil) (i := 2) (j := 1) (it := .v 0) (b := s) (acc := []) (by decide) (by show 1 < 4; omega) rfl (fun _ => rfl) rfl (fun c acc hc => by
    rw [ev_bm, ev_v]
    show (ER.ok (D.str [c]) _).bind _ = _
    rw [er_bind_ok, show BM.g .swapcase (.str [c]) (μ ++ [.lst (strItems acc)]) = true from rfl, if_pos rfl, evA_nil, ar_bindE_ok, swap_sign hc]) rfl hL (by simpa using hl)
  have lt : (times [] s).length ≤ 16777216 := by have := times_len_le [] s; simp at this; omega
  have e4 := join_last (Γ := Γ) (μ := μ) (δ := [some (.str s), x, some (.loc μ.length), none]) (i := 2) (s := times [] s) rfl lt
  refine fn_cut (t := [.lst (strItems (times [] s))]) (δ' := [some (.str s), x, some (.loc μ.length), none]) rfl ?_ rfl hc
  rw [hN]
  have e1 : evS Γ (.ite (.or (.cons (.not (.val (.bi .isi (.cons (.v 0) (.cons (.k (.ty "str")) .nil))))) (.one (.not (.val (qAll 1 [(".0", 3), ("sign", 1)])))))) (.cons (.rse k "value" (.v 0)) .nil) .nil) [some (.str s), none, none, none] μ = .nx [some (.str s), none, none, none] μ := by
    simp [hs, ea, hL]
  exact (step e1).trans ((step (show evS Γ (.asg (.nm 2) (.lstM .nil)) [some (.str s), none, none, none] μ = .nx [some (.str s), none, some (.loc μ.length), none] (μ ++ [.lst (strItems [])]) from rfl)).trans ((step e3).trans e4))
/-! ### the law's products -/
abbrev Ent1 (x : Str) (f : FD) (la : Bool) : Ent := { x := x, kd := .fn, n := 1, np := 1, ks := [], gD := ordG [.pos 0] [], m := f, la := la }
abbrev Ent2 (x : Str) (f : FD) (la : Bool) : Ent := { x := x, kd := .fn, n := 2, np := 2, ks := [], gD := ordG [.pos 0, .pos 1] [], m := f, la := la }
theorem call1 {i : Nat} {x : Str} {f : FD} {la : Bool} {a : CE} {y : D} {μ' : List M} (he : Γ.ents[i]? = some (Ent1 x f la)) (ha : evE Γ a δ μ = .ok y μ') : evE Γ (.call i (.cons a .nil) .nil) δ μ = f [y] μ' := by
  rw [ev_call, ent_eq he]
  simp [mCallK_eq, ha]
theorem call2 {i : Nat} {x : Str} {f : FD} {la : Bool} {a b : CE} {y z : D} {μ' μ2 : List M} (he : Γ.ents[i]? = some (Ent2 x f la)) (ha : evE Γ a δ μ = .ok y μ') (hb : evE Γ b δ μ' = .ok z μ2) : evE Γ (.call i (.cons a (.cons b .nil)) .nil) δ μ = f [y, z] μ2 := by
  rw [ev_call, ent_eq he]
  simp [mCallK_eq, ha, hb]
def cTimes : CSs := (.cons (.asg (.nm 2) (.bi .listM (.cons (.v 0) .nil))) (.cons (.loop (.seq (.v 1)) (.nm 3) (.cons (cStep (.call 0 (.cons (.v 3) .nil) .nil) 2 3) .nil)) (.cons (.ret (.bm .join0 (.k (.str [])) (.cons (.v 2) .nil))) .nil)))
def TimesSp (f : FD) : Prop := ∀ (a b : List Nat) (μ : List M), a.all isL = true → b.all isL = true → a.length + b.length ≤ 16777216 → Clean μ → f [.str a, .str b] μ = .ok (.str (times a b)) μ
theorem bi_listS {k s} : BI.f k .listM [.str s] μ = if lineOk s.length then .ok (.loc μ.length) (μ ++ [.lst (strItems s)]) else .bad := rfl
theorem bi_listS0 {k s} : BI.f k .list [.str s] μ = if lineOk s.length then .ok (.lst (strItems s)) μ else .bad := rfl
theorem times_ok {x : Str} {la : Bool} {fu : FD} (hN : Γ.N.length = 4) (he : Γ.ents[0]? = some (Ent1 x fu la)) (hu : UndoSp fu) : TimesSp (mFn Γ 2 cTimes) := by
  intro a b μ ha hb hl hc
  have lt : (times a b).length ≤ 16777216 := by have := times_len_le a b; omega
  obtain ⟨y, e3⟩ := loop_ok (Γ := Γ) (δ := [some (.str a), some (.str b), some (.loc μ.length), none]) (μ := μ) (u := .call 0 (.cons (.v 3) .nil) .nil) (i := 2) (j := 3) (it := .v 1) (b := b) (acc := a) (by decide) (by show 3 < 4; omega) rfl (fun _ => rfl) rfl (fun c acc hcl => by
    rw [call1 (y := .str [c]) (μ' := μ ++ [.lst (strItems acc)]) he rfl]
    exact hu c _ hcl (hc.snoc (items_less _ _))) ha hb hl
  have e4 := join_last (Γ := Γ) (μ := μ) (δ := [some (.str a), some (.str b), some (.loc μ.length), y]) (i := 2) (s := times a b) rfl lt
  refine fn_cut (t := [.lst (strItems (times a b))]) (δ' := [some (.str a), some (.str b), some (.loc μ.length), y]) rfl ?_ rfl hc
  rw [hN]
  have e1 : evS Γ (.asg (.nm 2) (.bi .listM (.cons (.v 0) .nil))) [some (.str a), some (.str b), none, none] μ = .nx [some (.str a), some (.str b), some (.loc μ.length), none] (μ ++ [.lst (strItems a)]) := by
    simp [bi_listS, line_ok (show a.length ≤ 16777216 by omega)]
  exact (step e1).trans ((step e3).trans e4)
/-! ### words are needed -/
def cNeed (k : Nat) : CSs := (.cons (.ite (.not (.val (.call 0 (.cons (.v 0) .nil) .nil))) (.cons (.rse k "value" (.v 0)) .nil) .nil) .nil)
def NeedSp (k : Nat) (f : FD) : Prop := ∀ (s : List Nat) (μ : List M), s.length ≤ 16777216 → f [.str s] μ = if isW s then .ok .non μ else .exc k [("value", .str s)] μ
theorem need_ok {k : Nat} {x : Str} {la : Bool} {f : FD} (hN : Γ.N.length = 1) (he : Γ.ents[0]? = some (Ent1 x f la)) (hf : IsWordSp f) : NeedSp k (mFn Γ 1 (cNeed k)) := by
  intro s μ hl
  have e1 : evE Γ (.call 0 (.cons (.v 0) .nil) .nil) [some (.str s)] μ = .ok (.bl (isW s)) μ := by
    rw [call1 (y := .str s) (μ' := μ) he rfl]
    exact hf s μ hl
  cases h : isW s with
  | true =>
    rw [if_pos rfl]
    refine fn_nx (δ' := [some (.str s)]) rfl ?_ rfl
    rw [hN]
    simp only [h, cNeed, evSs_one, evS_ite, evT_not, evT_val, List.map_cons, List.map_nil, Nat.sub_self, List.replicate_zero, List.append_nil, e1, er_bindT_ok, tr_bind_ok, tr_bindS_ok, Bool.not_true, Bool.false_eq_true, if_false, evSs_nil]
  | false =>
    rw [if_neg (by decide)]
    refine fn_exc (δ' := [some (.str s)]) rfl ?_ rfl
    rw [hN]
    simp only [h, cNeed, evSs_one, evS_ite, evT_not, evT_val, List.map_cons, List.map_nil, Nat.sub_self, List.replicate_zero, List.append_nil, e1, er_bindT_ok, tr_bind_ok, tr_bindS_ok, Bool.not_false, if_true, evS_rse, ev_v, List.getElem?_cons_zero, er_bindS_ok]
/-! ### two words struck together -/
def cStruck : CSs := (.cons (.asg (.nm 2) (.k (.int 0))) (.cons (.whl 1000000000000 (.and (.cons (.cmp .lt (.v 2) (.bi .min2 (.cons (.bi .len (.cons (.v 0) .nil)) (.cons (.bi .len (.cons (.v 1) .nil)) .nil)))) (.one (.cmp .eq (.ix (.v 0) (.bin .sub (.bin .sub (.bi .len (.cons (.v 0) .nil)) (.k (.int 1))) (.v 2))) (.bm .swapcase (.ix (.v 1) (.v 2)) .nil))))) (.cons (.aug .add 2 (.k (.int 1))) .nil)) (.cons (.ret (.bin .add (.sl (.v 0) .no (.som (.bin .sub (.bi .len (.cons (.v 0) .nil)) (.v 2)))) (.sl (.v 1) (.som (.v 2)) .no))) .nil)))
def tStruck : CT := (.and (.cons (.cmp .lt (.v 2) (.bi .min2 (.cons (.bi .len (.cons (.v 0) .nil)) (.cons (.bi .len (.cons (.v 1) .nil)) .nil)))) (.one (.cmp .eq (.ix (.v 0) (.bin .sub (.bin .sub (.bi .len (.cons (.v 0) .nil)) (.k (.int 1))) (.v 2))) (.bm .swapcase (.ix (.v 1) (.v 2)) .nil)))))
theorem mt_pos {x c : Nat} {r s : List Nat} : decide (0 < mt (x :: r) (c :: s)) = (x == swL c) := by
  by_cases e : (x == swL c) = true
  · have z : mt (x :: r) (c :: s) = mt r s + 1 := by simp only [mt]; rw [if_pos e]
    rw [z, e]; simp
  · have z : mt (x :: r) (c :: s) = 0 := by simp only [mt]; rw [if_neg e]
    rw [Bool.not_eq_true] at e
    rw [z, e]; simp
def StruckSp (f : FD) : Prop := ∀ (a b : List Nat) (μ : List M), a.all isL = true → b.all isL = true → a.length + b.length ≤ 16777216 → f [.str a, .str b] μ = .ok (.str (struckW a b)) μ
theorem struck_test {a b : List Nat} {j : Nat} (ha : a.all isL = true) (hb : b.all isL = true) (la : a.length ≤ 16777216) (lb : b.length ≤ 16777216) : evT Γ tStruck [some (.str a), some (.str b), some (.int j)] μ = .ok (decide (0 < mt (a.reverse.drop j) (b.drop j))) μ := by
  have e1 : evE Γ (.cmp .lt (.v 2) (.bi .min2 (.cons (.bi .len (.cons (.v 0) .nil)) (.cons (.bi .len (.cons (.v 1) .nil)) .nil)))) [some (.str a), some (.str b), some (.int j)] μ = .ok (.bl (decide ((j : Int) < if (b.length : Int) < a.length then (b.length : Int) else a.length))) μ := by
    simp [line_ok la, line_ok lb]
  by_cases hj : j < a.length ∧ j < b.length
  · obtain ⟨h1, h2⟩ := hj
    have t1 : (j : Int) < if (b.length : Int) < a.length then (b.length : Int) else a.length := by split <;> omega
    have ea : a.reverse.drop j = a[a.length - 1 - j] :: a.reverse.drop (j + 1) := by
      rw [List.drop_eq_getElem_cons (by rw [List.length_reverse]; exact h1), List.getElem_reverse]
    have eb : b.drop j = b[j] :: b.drop (j + 1) := List.drop_eq_getElem_cons h2
    have x1 : isL a[a.length - 1 - j] = true := List.all_eq_true.mp ha _ (List.getElem_mem _)
    have x2 : isL b[j] = true := List.all_eq_true.mp hb _ (List.getElem_mem h2)
    have i1 : fIx (.str a) (.int ((a.length : Int) - 1 - j)) μ = .ok (.str [a[a.length - 1 - j]]) μ := ixS la (by omega) (by
      rw [show ((a.length : Int) - 1 - j).toNat = a.length - 1 - j from by omega]
      exact List.getElem?_eq_getElem _)
    have i2 : fIx (.str b) (.int (j : Int)) μ = .ok (.str [b[j]]) μ := ixS lb (by omega) (by
      rw [Int.toNat_natCast]; exact List.getElem?_eq_getElem h2)
    have e2 : evE Γ (.cmp .eq (.ix (.v 0) (.bin .sub (.bin .sub (.bi .len (.cons (.v 0) .nil)) (.k (.int 1))) (.v 2))) (.bm .swapcase (.ix (.v 1) (.v 2)) .nil)) [some (.str a), some (.str b), some (.int j)] μ = .ok (.bl (a[a.length - 1 - j] == swL b[j])) μ := by
      have hg : ∀ s, BM.g .swapcase (.str s) μ = true := fun _ => rfl
      simp only [ev_cmp, ev_ix, ev_v, ev_bin, ev_bi, evA_cons, evA_nil, ev_k, kd_int, List.getElem?_cons_zero, List.getElem?_cons_succ, er_bind_ok, er_bindA_ok, ar_bind_ok, ar_bindE_ok, bi_lenS, line_ok la, if_true, bf_sub, i1, i2, ev_bm, hg, swap_sign x2, eq_signs (isL_lt x1).1 (isL_lt x2).2]
    unfold tStruck
    rw [evT_and, evTAnd_cons, evT_cmp, e1, er_bindT_ok]
    dsimp only
    rw [tr_bind_ok, decide_eq_true t1, if_pos rfl, evTAnd_one, evT_cmp, e2, er_bindT_ok, ea, eb]
    rw [mt_pos]
  · have t1 : ¬ (j : Int) < if (b.length : Int) < a.length then (b.length : Int) else a.length := by split <;> omega
    have em : mt (a.reverse.drop j) (b.drop j) = 0 := by
      have := mt_le (a.reverse.drop j) (b.drop j)
      simp only [List.length_drop, List.length_reverse] at this
      omega
    unfold tStruck
    rw [evT_and, evTAnd_cons, evT_cmp, e1, er_bindT_ok]
    dsimp only
    rw [tr_bind_ok, decide_eq_false t1, if_neg (by decide), em]
    simp
theorem mt_step {a b : List Nat} {j : Nat} (h : 0 < mt (a.drop j) (b.drop j)) : mt (a.drop j) (b.drop j) = mt (a.drop (j + 1)) (b.drop (j + 1)) + 1 := by
  have := mt_le (a.drop j) (b.drop j)
  simp only [List.length_drop] at this
  have ea : a.drop j = a[j]'(by omega) :: a.drop (j + 1) := List.drop_eq_getElem_cons (by omega)
  have eb : b.drop j = b[j]'(by omega) :: b.drop (j + 1) := List.drop_eq_getElem_cons (by omega)
  rw [ea, eb] at h ⊢
  simp only [mt] at h ⊢
  split
  · rfl
  · rename_i z; rw [if_neg z] at h; omega
theorem struck_while {a b : List Nat} (ha : a.all isL = true) (hb : b.all isL = true) (la : a.length ≤ 16777216) (lb : b.length ≤ 16777216) : ∀ (k fuel j : Nat), mt (a.reverse.drop j) (b.drop j) = k → k < fuel → whileGo (evT Γ tStruck) (evSs Γ (.cons (.aug .add 2 (.k (.int 1))) .nil)) fuel [some (.str a), some (.str b), some (.int j)] μ = .nx [some (.str a), some (.str b), some (.int ((j + k : Nat) : Int))] μ
  | 0, fuel + 1, j, h, _ => by
    unfold whileGo
    rw [struck_test ha hb la lb, h, tr_bindS_ok]
    rfl
  | k + 1, fuel + 1, j, h, hf => by
    have hs := mt_step (a := a.reverse) (b := b) (j := j) (by omega)
    have ih := struck_while ha hb la lb k fuel (j + 1) (by omega) (by omega)
    unfold whileGo
    rw [struck_test ha hb la lb, h, tr_bindS_ok, show decide (0 < k + 1) = true from by simp, if_pos rfl]
    have e : evSs Γ (.cons (.aug .add 2 (.k (.int 1))) .nil) [some (.str a), some (.str b), some (.int (j : Int))] μ = .nx [some (.str a), some (.str b), some (.int ((j + 1 : Nat) : Int))] μ := rfl
    rw [e]
    dsimp only
    rw [ih, show j + 1 + k = j + (k + 1) from by omega]
theorem struck_ok (hN : Γ.N.length = 3) : StruckSp (mFn Γ 2 cStruck) := by
  intro a b μ ha hb hl
  have la : a.length ≤ 16777216 := by omega
  have lb : b.length ≤ 16777216 := by omega
  obtain ⟨k, hk⟩ : ∃ k, k = mt a.reverse b := ⟨_, rfl⟩
  have hle := mt_le a.reverse b
  rw [List.length_reverse, ← hk] at hle
  have w := struck_while (Γ := Γ) (μ := μ) ha hb la lb k 1000000000000 0 (by simpa using hk.symm) (by omega)
  rw [Nat.zero_add] at w
  refine fn_rt (δ' := [some (.str a), some (.str b), some (.int (k : Int))]) rfl ?_ rfl
  rw [hN]
  have e3 : evS Γ (.ret (.bin .add (.sl (.v 0) .no (.som (.bin .sub (.bi .len (.cons (.v 0) .nil)) (.v 2)))) (.sl (.v 1) (.som (.v 2)) .no))) [some (.str a), some (.str b), some (.int (k : Int))] μ = .rt (.str (struckW a b)) [some (.str a), some (.str b), some (.int (k : Int))] μ := by
    have p1 : evP Γ (.som (.bin .sub (.bi .len (.cons (.v 0) .nil)) (.v 2))) [some (.str a), some (.str b), some (.int (k : Int))] μ = .ok (.int ((a.length : Int) - k)) μ := evP_int (by simp [line_ok la])
    have p2 : evP Γ (.som (.v 2)) [some (.str a), some (.str b), some (.int (k : Int))] μ = .ok (.int (k : Int)) μ := evP_int rfl
    have q1 : cutG a none (some ((a.length : Int) - k)) = a.take (a.length - k) := by
      rw [cut_to (by omega) (by omega)]
      congr 1; omega
    have q2 : cutG b (some (k : Int)) none = b.drop k := by
      rw [cut_from (by omega) (by omega), Int.toNat_natCast]
    have q3 : catOk (a.take (a.length - k)).length (b.drop k).length = true := decide_eq_true (by rw [List.length_take, List.length_drop]; omega)
    have v0 : evE Γ (.v 0) [some (.str a), some (.str b), some (.int (k : Int))] μ = .ok (.str a) μ := rfl
    have v1 : evE Γ (.v 1) [some (.str a), some (.str b), some (.int (k : Int))] μ = .ok (.str b) μ := rfl
    rw [evS_ret, ev_bin, ev_sl, v0, er_bind_ok, evP_no, er_bind_ok, ixOf_non]
    dsimp only
    rw [p1, er_bind_ok, ixOf_int]
    dsimp only
    rw [fCut_str, line_ok la, if_pos rfl, er_bind_ok, ev_sl, v1, er_bind_ok, p2, er_bind_ok, ixOf_int]
    dsimp only
    rw [evP_no, er_bind_ok, ixOf_non]
    dsimp only
    rw [fCut_str, line_ok lb, if_pos rfl, er_bind_ok, q1, q2, bf_addS, q3, if_pos rfl, er_bindS_ok]
    unfold struckW
    rw [hk]
  exact (step (show evS Γ (.asg (.nm 2) (.k (.int 0))) [some (.str a), some (.str b), none] μ = .nx [some (.str a), some (.str b), some (.int 0)] μ from rfl)).trans ((step (show evS Γ (.whl 1000000000000 tStruck (.cons (.aug .add 2 (.k (.int 1))) .nil)) [some (.str a), some (.str b), some (.int 0)] μ = _ from w)).trans e3)
end
end DL

/-! Words: more defs; drawn words. -/
namespace DL
open PySem PySem.Spec PyProof.Rows L2
section
variable {Γ : Gam} {δ : Dv} {μ t : List M} {d : D}
theorem need_step {k i : Nat} {x : Str} {la : Bool} {f : FD} {a : CE} {s : List Nat} (he : Γ.ents[i]? = some (Ent1 x f la)) (hf : NeedSp k f) (hs : isW s = true) (hl : s.length ≤ 16777216) (ha : evE Γ a δ μ = .ok (.str s) μ) : evS Γ (.expr (.call i (.cons a .nil) .nil)) δ μ = .nx δ μ := by
  rw [evS_expr, call1 he ha, hf s μ hl, if_pos hs, er_bindS_ok]
/-! product -/
def cProduct : CSs := (.cons (.expr (.call 0 (.cons (.v 0) .nil) .nil)) (.cons (.expr (.call 0 (.cons (.v 1) .nil) .nil)) (.cons (.ret (.call 1 (.cons (.v 0) (.cons (.v 1) .nil)) .nil)) .nil)))
theorem product_ok {k : Nat} {x y : Str} {la lb : Bool} {f g : FD} (hN : Γ.N.length = 2) (he : Γ.ents[0]? = some (Ent1 x f la)) (he2 : Γ.ents[1]? = some (Ent2 y g lb)) (hf : NeedSp k f) (hg : StruckSp g) {a b : List Nat} (ha : isW a = true) (hb : isW b = true) (hl : a.length + b.length ≤ 16777216) : mFn Γ 2 cProduct [.str a, .str b] μ = .ok (.str (times a b)) μ := by
  refine fn_rt (δ' := [some (.str a), some (.str b)]) rfl ?_ rfl
  rw [hN]
  refine (step (need_step he hf ha (by omega) rfl)).trans ((step (need_step he hf hb (by omega) rfl)).trans ?_)
  rw [evSs_one, evS_ret, call2 (y := .str a) (z := .str b) (μ' := μ) (μ2 := μ) he2 rfl rfl, hg a b μ (isW_L ha) (isW_L hb) hl, ← times_struck hb]
  rfl
/-! ahead -/
def cAhead : CSs := (.cons (.expr (.call 0 (.cons (.v 0) .nil) .nil)) (.cons (.ret (.tup (.cons (.bi .len (.cons (.v 0) .nil)) (.cons (.v 0) .nil)))) .nil))
theorem ahead_ok {k : Nat} {x : Str} {la : Bool} {f : FD} (hN : Γ.N.length = 1) (he : Γ.ents[0]? = some (Ent1 x f la)) (hf : NeedSp k f) {a : List Nat} (ha : isW a = true) (hl : a.length ≤ 16777216) : mFn Γ 1 cAhead [.str a] μ = .ok (.tup [.int a.length, .str a]) μ := by
  refine fn_rt (δ' := [some (.str a)]) rfl ?_ rfl
  rw [hN]
  refine (step (need_step he hf ha hl rfl)).trans ?_
  rw [evSs_one, evS_ret]
  simp [line_ok hl, show lineOk 2 = true from rfl]
/-! fits -/
def cFits : CSs := (.cons (.expr (.call 0 (.cons (.v 0) .nil) .nil)) (.cons (.expr (.call 0 (.cons (.v 1) .nil) .nil)) (.cons (.ret (.or (.cons (.cmp .eq (.v 0) (.k (.str []))) (.cons (.cmp .eq (.v 1) (.k (.str []))) (.cons (.cmp .ne (.ix (.v 0) (.neg (.k (.int 1)))) (.bm .swapcase (.ix (.v 1) (.k (.int 0))) .nil)) .nil))))) .nil)))
theorem ix_neg1 {s : List Nat} {x : Nat} (hl : (s ++ [x]).length ≤ 16777216) : fIx (.str (s ++ [x])) (.int (-1)) μ = .ok (.str [x]) μ := by
  show (if lineOk (s ++ [x]).length then (match atI (s ++ [x]) (-1) with | some c => ER.ok (.str [c]) μ | none => .bad) else .bad) = _
  have e : atI (s ++ [x]) (-1) = some x := by
    unfold atI ixN
    rw [if_neg (by decide), if_pos (by simp; omega)]
    have e0 : ((-1 : Int) + ((s.length : Int) + 1)).toNat = s.length := by omega
    simp [e0]
  rw [line_ok hl, if_pos rfl, e]
theorem str_eq0 {s : List Nat} (h : s.all isL = true) : CK.f .eq (.str s) (.str []) μ = .ok (.bl s.isEmpty) μ := by
  rw [(eqS (isL_all h) rfl).1]
  cases s <;> rfl
theorem fits_ok {k : Nat} {x : Str} {la : Bool} {f : FD} (hN : Γ.N.length = 2) (he : Γ.ents[0]? = some (Ent1 x f la)) (hf : NeedSp k f) {a b : List Nat} (ha : isW a = true) (hb : isW b = true) (hl : a.length + b.length ≤ 16777216) : mFn Γ 2 cFits [.str a, .str b] μ = .ok (.bl (fitsW a b)) μ := by
  refine fn_rt (δ' := [some (.str a), some (.str b)]) rfl ?_ rfl
  rw [hN]
  refine (step (need_step he hf ha (by omega) rfl)).trans ((step (need_step he hf hb (by omega) rfl)).trans ?_)
  have v0 : evE Γ (.v 0) [some (.str a), some (.str b)] μ = .ok (.str a) μ := rfl
  have v1 : evE Γ (.v 1) [some (.str a), some (.str b)] μ = .ok (.str b) μ := rfl
  show evSs Γ _ [some (.str a), some (.str b)] μ = _
  rw [evSs_one, evS_ret, ev_or, evOr_cons, ev_cmp, v0, er_bind_ok, ev_k, kd_str, er_bind_ok, str_eq0 (isW_L ha), er_bind_ok]
  rcases List.eq_nil_or_concat a with rfl | ⟨r, x, rfl⟩
  · rfl
  · rw [List.concat_eq_append] at *
    have hx : isL x = true := by have z := isW_L ha; simp only [List.all_append, Bool.and_eq_true] at z; simpa using z.2
    rw [show (r ++ [x]).isEmpty = false from by simp]
    dsimp only
    rw [if_neg (by decide), evOr_cons, ev_cmp, v1, er_bind_ok, ev_k, kd_str, er_bind_ok, str_eq0 (isW_L hb), er_bind_ok]
    cases b with
    | nil => simp [fitsW]
    | cons c s =>
      have hc : isL c = true := by have z := isW_L hb; simp only [List.all_cons, Bool.and_eq_true] at z; exact z.1
      have i0 : fIx (.str (c :: s)) (.int 0) μ = .ok (.str [c]) μ := ixS (by omega) (by omega) rfl
      have hg : ∀ s, BM.g .swapcase (.str s) μ = true := fun _ => rfl
      have e2 := (eqS (μ := μ) (a := [x]) (b := [swL c]) (by simpa using (isL_lt hx).1) (by simpa using (isL_lt hc).2)).2
      rw [show (c :: s).isEmpty = false from rfl]
      dsimp only
      rw [if_neg (by decide), evOr_one, ev_cmp, ev_ix, v0, er_bind_ok, ev_neg, ev_k, er_bind_ok, show fNeg (Kc.d (.int 1)) μ = .ok (.int (-1)) μ from rfl, er_bind_ok, ix_neg1 (by omega), er_bind_ok, ev_bm, ev_ix, v1, er_bind_ok, ev_k, kd_int, er_bind_ok, i0, er_bind_ok, hg, if_pos rfl, evA_nil, ar_bindE_ok, swap_sign hc, er_bind_ok, e2, er_bindS_ok]
      simp [fitsW]
/-! undone -/
def cUndone : CSs := (.cons (.expr (.call 0 (.cons (.v 0) .nil) .nil)) (.cons (.ret (.bm .swapcase (.rev (.v 0)) .nil)) .nil))
def undW (s : List Nat) : List Nat := s.reverse.map swL
theorem fRev_ok {s : List Nat} (hl : s.length ≤ 16777216) : fRev (.str s) μ = .ok (.str s.reverse) μ := by
  show (if lineOk s.length then ER.ok (.str s.reverse) μ else .bad) = _
  rw [line_ok hl]; rfl
theorem undone_ok {k : Nat} {x : Str} {la : Bool} {f : FD} (hN : Γ.N.length = 1) (he : Γ.ents[0]? = some (Ent1 x f la)) (hf : NeedSp k f) {a : List Nat} (ha : isW a = true) (hl : a.length ≤ 16777216) : mFn Γ 1 cUndone [.str a] μ = .ok (.str (undW a)) μ := by
  refine fn_rt (δ' := [some (.str a)]) rfl ?_ rfl
  rw [hN]
  refine (step (need_step he hf ha hl rfl)).trans ?_
  have v0 : evE Γ (.v 0) [some (.str a)] μ = .ok (.str a) μ := rfl
  have hs : BM.f .swapcase (.str a.reverse) [] μ = .ok (.str (undW a)) μ := by
    show (if a.reverse.all isL && lineOk a.reverse.length then ER.ok (.str (a.reverse.map swL)) μ else .bad) = _
    rw [List.all_reverse, isW_L ha, List.length_reverse, line_ok hl]; rfl
  show evSs Γ _ [some (.str a)] μ = _
  rw [evSs_one, evS_ret, ev_bm, ev_rev, v0, er_bind_ok, fRev_ok hl, er_bind_ok, show BM.g .swapcase (.str a.reverse) μ = true from rfl, if_pos rfl, evA_nil, ar_bindE_ok, hs, er_bindS_ok]
/-! the law's undoing of words -/
def cBack : CSs := (.cons (.ret (.bm .join0 (.k (.str [])) (.cons (.lc false (.seq (.rev (.v 0))) (.nm 2) (.yes) (.call 0 (.cons (.v 2) .nil) .nil) [(".0", 1), ("sign", 2)]) .nil))) .nil)
theorem items_map (s : List Nat) (f : Nat → Nat) : (strItems s).map (fun d => D.str [f (sg d)]) = strItems (s.map f) := by
  unfold strItems
  simp [sg]
theorem back_ok {x : Str} {la : Bool} {fu : FD} (hN : Γ.N.length = 3) (he : Γ.ents[0]? = some (Ent1 x fu la)) (hu : UndoSp fu) {a : List Nat} (ha : a.all isL = true) (hl : a.length ≤ 16777216) (hc : Clean μ) : mFn Γ 1 cBack [.str a] μ = .ok (.str (undW a)) μ := by
  have v0 : evE Γ (.v 0) [some (.str a), none, none] μ = .ok (.str a) μ := rfl
  have hr : evE Γ (.rev (.v 0)) [some (.str a), none, none] μ = .ok (.str a.reverse) μ := by rw [ev_rev, v0, er_bind_ok, fRev_ok hl]
  have e : mLcB false (evI Γ (.seq (.rev (.v 0)))) (evG (.nm 2)) (evT Γ .yes) (evE Γ (.call 0 (.cons (.v 2) .nil) .nil)) [1, 2] [some (.str a), none, none] μ = .ok (.lst (strItems (undW a))) μ := by
    rw [mLc_map (fun d => .str [swL (sg d)]) (evI_seqS hr) rfl (fun d hd => by
      obtain ⟨c, hc1, rfl⟩ := List.mem_map.mp hd
      refine ⟨_, rfl, ?_⟩
      have hcl : isL c = true := List.all_eq_true.mp ha c (List.mem_reverse.mp hc1)
      rw [call1 (y := .str [c]) (μ' := μ) he rfl]
      exact hu c μ hcl hc) (by rw [str_items_len, List.length_reverse]; exact hl), items_map]
    rfl
  refine fn_rt (δ' := [some (.str a), none, none]) rfl ?_ rfl
  rw [hN]
  show evSs Γ _ [some (.str a), none, none] μ = _
  unfold cBack
  rw [evSs_one, evS_ret, ev_bm, ev_k, kd_str, er_bind_ok, show BM.g .join0 (.str []) μ = true from rfl, if_pos rfl, evA_cons, ev_lc]
  rw [show List.map (·.2) [((".0" : Str), 1), (("sign" : Str), 2)] = [1, 2] from rfl, e, er_bindA_ok, evA_nil, ar_bind_ok, ar_bindE_ok, join_items (s := undW a) rfl (by unfold undW; simpa using hl), er_bindS_ok]
/-! further -/
def cFurther : CSs := (.cons (.expr (.call 0 (.cons (.v 0) .nil) .nil)) (.cons (.ret (.bi .tuple (.cons (.lc false (.seq (.k (.str [65, 66, 97, 98]))) (.nm 2) (.or (.cons (.cmp .eq (.v 0) (.k (.str []))) (.one (.cmp .ne (.v 2) (.bm .swapcase (.ix (.v 0) (.k (.int 0))) .nil))))) (.bin .add (.v 2) (.v 0)) [(".0", 1), ("letter", 2)]) .nil))) .nil))
def furtherW (w : List Nat) : List (List Nat) := ([65, 66, 97, 98].filter fun c => fitsA c w).map fun c => c :: w
theorem all4 {P : D → Prop} (h : ∀ c, isL c = true → P (.str [c])) : ∀ d ∈ strItems [65, 66, 97, 98], P d := fun d hd => by
  obtain ⟨c, hc, rfl⟩ := List.mem_map.mp hd
  refine h c ?_
  simp at hc
  rcases hc with rfl | rfl | rfl | rfl <;> rfl
theorem flt4 (p : Nat → Bool) (w : List Nat) : ((strItems [65, 66, 97, 98]).filter (fun d => p (sg d))).map (fun d => D.str (sg d :: w)) = ((([65, 66, 97, 98] : List Nat).filter p).map fun c => c :: w).map D.str := by
  unfold strItems
  rw [List.filter_map, List.map_map, List.map_map]
  rfl
theorem further_ok {k : Nat} {x : Str} {la : Bool} {f : FD} (hN : Γ.N.length = 3) (he : Γ.ents[0]? = some (Ent1 x f la)) (hf : NeedSp k f) {a : List Nat} (ha : isW a = true) (hl : a.length < 16777216) : mFn Γ 1 cFurther [.str a] μ = .ok (.tup ((furtherW a).map D.str)) μ := by
  refine fn_rt (δ' := [some (.str a), none, none]) rfl ?_ rfl
  rw [hN]
  refine (step (need_step he hf ha (by omega) rfl)).trans ?_
  have v0 : ∀ x y, evE Γ (.v 0) [some (.str a), x, y] μ = .ok (.str a) μ := fun _ _ => rfl
  have v2 : ∀ x c, evE Γ (.v 2) [some (.str a), x, some (.str [c])] μ = .ok (.str [c]) μ := fun _ _ => rfl
  have e : mLcB false (evI Γ (.seq (.k (.str [65, 66, 97, 98])))) (evG (.nm 2)) (evT Γ (.or (.cons (.cmp .eq (.v 0) (.k (.str []))) (.one (.cmp .ne (.v 2) (.bm .swapcase (.ix (.v 0) (.k (.int 0))) .nil)))))) (evE Γ (.bin .add (.v 2) (.v 0))) [1, 2] [some (.str a), none, none] μ = .ok (.lst ((furtherW a).map D.str)) μ := by
    rw [mLc_pure (fun d => fitsA (sg d) a) (fun d => .str (sg d :: a)) (l := strItems [65, 66, 97, 98]) (evI_seqS (by rw [ev_k, kd_str])) rfl (all4 fun c hc => by
      refine ⟨[some (.str a), none, some (.str [c])], rfl, ?_, fun _ => ?_⟩
      · rw [evT_or, evTOr_cons, evT_cmp, ev_cmp, v0, er_bind_ok, ev_k, kd_str, er_bind_ok, str_eq0 (isW_L ha), er_bindT_ok]
        dsimp only
        rw [tr_bind_ok]
        cases a with
        | nil => rfl
        | cons y s =>
          have hy : isL y = true := by have z := isW_L ha; simp only [List.all_cons, Bool.and_eq_true] at z; exact z.1
          have i0 : fIx (.str (y :: s)) (.int 0) μ = .ok (.str [y]) μ := ixS (by omega) (by omega) rfl
          have e2 := (eqS (μ := μ) (a := [c]) (b := [swL y]) (by simpa using (isL_lt hc).1) (by simpa using (isL_lt hy).2)).2
          rw [show (y :: s).isEmpty = false from rfl, if_neg (by decide), evTOr_one, evT_cmp, ev_cmp, v2, er_bind_ok, ev_bm, ev_ix, v0, er_bind_ok, ev_k, kd_int, er_bind_ok, i0, er_bind_ok, show BM.g .swapcase (.str [y]) μ = true from rfl, if_pos rfl, evA_nil, ar_bindE_ok, swap_sign hy, er_bind_ok, e2, er_bindT_ok]
          simp [fitsA, sg]
      · rw [ev_bin, v2, er_bind_ok, v0, er_bind_ok, bf_addS, show catOk [c].length a.length = true from decide_eq_true (by simp; omega), if_pos rfl]
        rfl) (by rw [str_items_len]; decide)]
    exact congrArg (fun l => ER.ok (.lst l) μ) (flt4 (fun c => fitsA c a) a)
  show evSs Γ _ [some (.str a), none, none] μ = _
  rw [evSs_one, evS_ret, ev_bi, evA_cons, ev_lc]
  rw [show List.map (·.2) [((".0" : Str), 1), (("letter" : Str), 2)] = [1, 2] from rfl, e, er_bindA_ok, evA_nil, ar_bind_ok, ar_bindE_ok, bi_tupL, er_bindS_ok]
/-! ### drawn words -/
variable {P : Int → M → Prop}
def lABab : List D := [.str [65], .str [66], .str [97], .str [98]]
theorem lABab_L {d : D} (h : d ∈ lABab) : ∃ c, d = .str [c] ∧ isL c = true := by
  simp [lABab] at h
  rcases h with rfl | rfl | rfl | rfl
  · exact ⟨65, rfl, rfl⟩
  · exact ⟨66, rfl, rfl⟩
  · exact ⟨97, rfl, rfl⟩
  · exact ⟨98, rfl, rfl⟩
def pickE (i : Nat) : CE := .call i (.cons (.v 0) (.cons (.lst (.cons (.k (.str [65])) (.cons (.k (.str [66])) (.cons (.k (.str [97])) (.cons (.k (.str [98])) .nil))))) .nil)) .nil
theorem pick4 {i : Nat} {x : Str} {la : Bool} {f : FD} {m : M} {n : Int} (he : Γ.ents[i]? = some (Ent2 x f la)) (hp : PickS P f) (hv : δ[0]? = some (some (.loc 0))) (hn : n ≤ 1000000) (h : P n m) : ∃ c m', evE Γ (pickE i) δ (m :: μ) = .ok (.str [c]) (m' :: μ) ∧ isL c = true ∧ P (n + 1) m' := by
  obtain ⟨d, m', e, hd, h'⟩ := hp n lABab m μ (by simp [lABab]) (by simp [lABab]) hn h
  obtain ⟨c, rfl, hc⟩ := lABab_L hd
  refine ⟨c, m', ?_, hc, h'⟩
  unfold pickE
  rw [call2 (y := .loc 0) (z := .lst lABab) (μ' := m :: μ) (μ2 := m :: μ) he (by rw [ev_v, hv]) rfl, e]
def cWord : CSs := (.cons (.asg (.nm 2) (.k (.str []))) (.cons (.loop (.rng1 (.call 0 (.cons (.v 0) (.cons (.bin .add (.v 1) (.k (.int 1))) .nil)) .nil)) (.nm 3) (.cons (.asg (.nm 2) (.call 1 (.cons (.v 2) (.cons (pickE 2) .nil)) .nil)) .nil)) (.cons (.ret (.v 2)) .nil)))
def WordSp (P : Int → M → Prop) (f : FD) : Prop := ∀ (n : Int) (k : Nat) (m : M) (μ : List M), k ≤ 1000 → n ≤ 900000 → P n m → Clean μ → ∃ w m', f [.loc 0, .int k] (m :: μ) = .ok (.str w) (m' :: μ) ∧ isW w = true ∧ w.length ≤ k ∧ P (n + 1 + k) m'
theorem word_ok {x y z : Str} {la lb lc : Bool} {fd ft fp : FD} (hP : IsPen P) (hN : Γ.N.length = 4) (he0 : Γ.ents[0]? = some (Ent2 x fd la)) (he1 : Γ.ents[1]? = some (Ent2 y ft lb)) (he2 : Γ.ents[2]? = some (Ent2 z fp lc)) (hd : DrawS P fd) (ht : TimesSp ft) (hp : PickS P fp) : WordSp P (mFn Γ 2 cWord) := by
  intro n k m μ hk hn h hc
  obtain ⟨v, m1, e1, v0, v1, p1⟩ := hd n ((k : Int) + 1) m μ (by omega) (by omega) (by omega) h
  obtain ⟨j, rfl⟩ : ∃ j : Nat, v = j := ⟨v.toNat, by omega⟩
  have i0 : evE Γ (.call 0 (.cons (.v 0) (.cons (.bin .add (.v 1) (.k (.int 1))) .nil)) .nil) [some (.loc 0), some (.int k), some (.str []), none] (m :: μ) = .ok (.int (j : Int)) (m1 :: μ) := by
    rw [call2 (y := .loc 0) (z := .int ((k : Int) + 1)) (μ' := m :: μ) (μ2 := m :: μ) he0 rfl rfl, e1]
  have rj : rngOk (j : Int) = true := by simp [rngOk]; omega
  obtain ⟨δ', μ', e, w, m2, x3, rfl, rfl, hw, hwl, hp2⟩ := mFor_thru (Γ := Γ) (δ := [some (.loc 0), some (.int k), some (.str []), none]) (μ := m :: μ) (it := .rng1 (.call 0 (.cons (.v 0) (.cons (.bin .add (.v 1) (.k (.int 1))) .nil)) .nil)) (g := .nm 3) (b := .cons (.asg (.nm 2) (.call 1 (.cons (.v 2) (.cons (pickE 2) .nil)) .nil)) .nil) (l := rngItems 0 j) (gg := fun _ => some (rngItems 0 j)) (μ1 := m1 :: μ)
    (fun i δ μ' => ∃ (w : List Nat) (m2 : M) (x3 : Option D), δ = [some (.loc 0), some (.int k), some (.str w), x3] ∧ μ' = m2 :: μ ∧ isW w = true ∧ w.length ≤ i ∧ P (n + 1 + i) m2) (by rw [rng_len]; exact evI_rng1 i0 rj) (fun _ _ _ _ => rfl)
    (fun i hi δ μ' ⟨w, m2, x3, e1, e2, hw, hwl, hp2⟩ => by
      subst e1 e2
      rw [rng_len] at hi
      obtain ⟨c, m3, e3, hcl, p3⟩ := pick4 (Γ := Γ) (δ := [some (.loc 0), some (.int k), some (.str w), some (rngItems 0 j)[i]]) (μ := μ) he2 hp rfl (by omega) hp2
      refine ⟨[some (.loc 0), some (.int k), some (.str w), some (rngItems 0 j)[i]], [some (.loc 0), some (.int k), some (.str (times w [c])), some (rngItems 0 j)[i]], m3 :: μ, rfl, ?_, times w [c], m3, _, rfl, rfl, isW_times hw (by simpa using hcl), ?_, ?_⟩
      · rw [evSs_one, evS_asg, call2 (y := .str w) (z := .str [c]) (μ' := m2 :: μ) (μ2 := m3 :: μ) he1 rfl e3, ht w [c] (m3 :: μ) (isW_L hw) (by simpa using hcl) (by simp; omega) (hc.cons (hP.less p3)), er_bindS_ok]
        rfl
      · have := times_len_le w [c]
        simp at this; omega
      · refine hP.mono p3 (by push_cast; omega)) ⟨[], m1, none, rfl, rfl, rfl, by simp, by simpa using p1⟩
  rw [rng_len] at hwl hp2
  refine ⟨w, m2, ?_, hw, by omega, hP.mono hp2 (by omega)⟩
  refine fn_rt (δ' := [some (.loc 0), some (.int k), some (.str w), x3]) rfl ?_ rfl
  rw [hN]
  exact (step (show evS Γ (.asg (.nm 2) (.k (.str []))) [some (.loc 0), some (.int (k : Int)), none, none] (m :: μ) = .nx [some (.loc 0), some (.int k), some (.str []), none] (m :: μ) from rfl)).trans ((step (evS_loop.trans e)).trans rfl)
/-! drawn signs -/
def cSigns (k : Int) : CSs := (.cons (.ret (.bm .join0 (.k (.str [])) (.cons (.lc false (.rng1 (.call 0 (.cons (.v 0) (.cons (.k (.int k)) .nil)) .nil)) (.nm 2) (.yes) (pickE 1) [(".0", 1), ("lap", 2)]) .nil))) .nil)
/-- a comprehension of drawn letters over a drawn range -/
theorem lc_signs {own : List (Str × Nat)} {j g ip : Nat} {it : CE} {y : Str} {la : Bool} {fp : FD} {m m1 : M} {n : Int} (hP : IsPen P) (he : Γ.ents[ip]? = some (Ent2 y fp la)) (hp : PickS P fp) (hi : evE Γ it δ (m :: μ) = .ok (.int (j : Int)) (m1 :: μ)) (hj : j ≤ 1000000) (h0 : ∀ x, ((wipeD δ (own.map (·.2))).set g x)[0]? = some (some (.loc 0))) (hn : n + j ≤ 1000000) (h : P n m1) :
    ∃ s m2, evE Γ (.lc false (.rng1 it) (.nm g) .yes (pickE ip) own) δ (m :: μ) = .ok (.lst (strItems s)) (m2 :: μ) ∧ s.all isL = true ∧ s.length = j ∧ P (n + j) m2 := by
  have rj : rngOk (j : Int) = true := by simp [rngOk]; omega
  obtain ⟨out, μ', e, s, m2, rfl, rfl, hs, hl, hp2⟩ := mLc_inv (Γ := Γ) (δ := δ) (μ := m :: μ) (it := .rng1 it) (g := .nm g) (t := .yes) (e := pickE ip) (vs := own.map (·.2)) (l := rngItems 0 j) (gg := fun _ => some (rngItems 0 j)) (μ1 := m1 :: μ)
    (fun i acc μ' => ∃ (s : List Nat) (m2 : M), acc = strItems s ∧ μ' = m2 :: μ ∧ s.all isL = true ∧ s.length = i ∧ P (n + i) m2) (by rw [rng_len]; exact evI_rng1 hi rj) (fun _ _ _ _ => rfl)
    (fun i acc μ' ⟨s, m2, e1, e2, hs, hl, hp2⟩ => by rw [e1, str_items_len]; omega)
    (fun i hi acc μ' ⟨s, m2, e1, e2, hs, hl, hp2⟩ => by
      subst e1 e2
      rw [rng_len] at hi
      obtain ⟨c, m3, e3, hcl, p3⟩ := pick4 (Γ := Γ) (δ := (wipeD δ (own.map (·.2))).set g (some (rngItems 0 j)[i])) (μ := μ) he hp (h0 _) (by omega) hp2
      refine ⟨(wipeD δ (own.map (·.2))).set g (some (rngItems 0 j)[i]), rfl, .inl ⟨m2 :: μ, .str [c], m3 :: μ, rfl, e3, s ++ [c], m3, by rw [items_app]; rfl, rfl, by simp [hs, hcl], by simp [hl], hP.mono p3 (by push_cast; omega)⟩⟩) (by rw [rng_len]; omega) ⟨[], m1, rfl, rfl, rfl, rfl, by simpa using h⟩
  rw [rng_len] at hl hp2
  exact ⟨s, m2, by rw [ev_lc, e], hs, hl, hp2⟩
def SignsSp (P : Int → M → Prop) (k : Nat) (f : FD) : Prop := ∀ (n : Int) (m : M) (μ : List M), n ≤ 900000 → P n m → ∃ s m', f [.loc 0] (m :: μ) = .ok (.str s) (m' :: μ) ∧ s.all isL = true ∧ s.length < k ∧ P (n + 1 + k) m'
theorem signs_ok {k : Nat} {x y : Str} {la lb : Bool} {fd fp : FD} (hP : IsPen P) (hk : 0 < k) (hk2 : k ≤ 1000) (hN : Γ.N.length = 3) (he0 : Γ.ents[0]? = some (Ent2 x fd la)) (he1 : Γ.ents[1]? = some (Ent2 y fp lb)) (hd : DrawS P fd) (hp : PickS P fp) : SignsSp P k (mFn Γ 1 (cSigns k)) := by
  intro n m μ hn h
  obtain ⟨v, m1, e1, v0, v1, p1⟩ := hd n k m μ (by omega) (by omega) (by omega) h
  obtain ⟨j, rfl⟩ : ∃ j : Nat, v = j := ⟨v.toNat, by omega⟩
  have i0 : evE Γ (.call 0 (.cons (.v 0) (.cons (.k (.int k)) .nil)) .nil) [some (.loc 0), none, none] (m :: μ) = .ok (.int (j : Int)) (m1 :: μ) := by
    rw [call2 (y := .loc 0) (z := .int (k : Int)) (μ' := m :: μ) (μ2 := m :: μ) he0 rfl rfl, e1]
  obtain ⟨s, m2, e, hs, hl, hp2⟩ := lc_signs (Γ := Γ) (δ := [some (.loc 0), none, none]) (μ := μ) (own := [(".0", 1), ("lap", 2)]) (g := 2) (ip := 1) hP he1 hp i0 (by omega) (fun _ => rfl) (by omega) p1
  refine ⟨s, m2, fn_rt (δ' := [some (.loc 0), none, none]) rfl ?_ rfl, hs, by omega, hP.mono hp2 (by omega)⟩
  rw [hN]
  show evSs Γ _ [some (.loc 0), none, none] (m :: μ) = _
  unfold cSigns
  rw [evSs_one, evS_ret, ev_bm, ev_k, kd_str, er_bind_ok, show BM.g .join0 (.str []) (m :: μ) = true from rfl, if_pos rfl, evA_cons, e, er_bindA_ok, evA_nil, ar_bind_ok, ar_bindE_ok, join_items (s := s) rfl (by omega), er_bindS_ok]
end
end DL

/-! Words are a group, plainly; all words in order. -/
namespace DL
open PySem PySem.Spec PyProof.Rows L2
theorem stR_back {acc : List Nat} {c : Nat} (hw : chW acc = true) (hc : isL c = true) : stR (stR acc c) (swL c) = acc := by
  have e := swL_swL hc
  cases acc with
  | nil => simp [stR, e]
  | cons x r =>
    by_cases h : x = swL c
    · subst h
      cases r with
      | nil => simp [stR]
      | cons y r =>
        have hy : (y == c) = false := by
          simp only [chW, Bool.and_eq_true, Bool.not_eq_true'] at hw
          cases z : (y == c) with
          | false => rfl
          | true =>
            rw [beq_iff_eq.mp z] at hw
            simp at hw
        simp [stR, e, hy]
    · simp [stR, h, e]
theorem runR_app (acc a b : List Nat) : runR acc (a ++ b) = runR (runR acc a) b := List.foldl_append
theorem runR_cons (acc : List Nat) (c : Nat) (s : List Nat) : runR acc (c :: s) = runR (stR acc c) s := rfl
theorem runR_pair {acc l r : List Nat} {c : Nat} (hL : acc.all isL = true) (hw : chW acc = true) (hl : l.all isL = true) (hc : isL c = true) : runR acc (l ++ c :: swL c :: r) = runR acc (l ++ r) := by
  rw [runR_app, runR_cons, runR_cons, stR_back (runR_ok l acc hL hw hl).2 hc, ← runR_app]
theorem runR_stF {acc s : List Nat} {c : Nat} (hL : acc.all isL = true) (hw : chW acc = true) (hs : s.all isL = true) (hc : isL c = true) : runR acc (stF s c) = runR acc (s ++ [c]) := by
  rcases List.eq_nil_or_concat s with rfl | ⟨r, x, rfl⟩
  · rw [stF_nil]; rfl
  · rw [List.concat_eq_append] at *
    rw [stF_snoc]
    simp only [List.all_append, List.all_cons, List.all_nil, Bool.and_true, Bool.and_eq_true] at hs
    by_cases h : x = swL c
    · rw [if_pos (by simp [h])]
      have e : c = swL x := by rw [h, swL_swL hc]
      have z := runR_pair (r := []) hL hw hs.1 hs.2
      rw [← e] at z
      rw [List.append_assoc]
      simpa using z.symm
    · rw [if_neg (by simp [h])]
      simp
theorem stF_L {s : List Nat} {c : Nat} (hs : s.all isL = true) (hc : isL c = true) : (stF s c).all isL = true := by
  unfold stF
  rw [List.all_reverse]
  exact stR_L (by rw [List.all_reverse]; exact hs) hc
theorem runR_times {acc : List Nat} (hL : acc.all isL = true) (hw : chW acc = true) : ∀ (t s : List Nat), s.all isL = true → t.all isL = true → runR acc (times s t) = runR acc (s ++ t)
  | [], s, _, _ => by rw [times_foldF]; simp
  | c :: t, s, hs, ht => by
    simp only [List.all_cons, Bool.and_eq_true] at ht
    have ih := runR_times hL hw t (stF s c) (stF_L hs ht.1) ht.2
    rw [times_foldF] at ih
    rw [times_foldF, List.foldl_cons, ih, runR_app, runR_stF hL hw hs ht.1, ← runR_app]
    simp
theorem rev_L {a : List Nat} (h : a.all isL = true) : a.reverse.all isL = true := by rw [List.all_reverse]; exact h
theorem times_assoc {a b c : List Nat} (ha : isW a = true) (hb : b.all isL = true) (hc : c.all isL = true) : times (times a b) c = times a (times b c) := by
  have h1 := runR_times (rev_L (isW_L ha)) (isW_ch (isW_reverse ha)) c b hb hc
  unfold times at h1 ⊢
  rw [h1, List.reverse_reverse, runR_app]
theorem times_nilR (a : List Nat) : times a [] = a := by unfold times runR; simp
theorem times_nilL {b : List Nat} (h : isW b = true) : times [] b = b := by
  rw [times_struck h]
  unfold struckW
  simp [mt]
theorem runR_undo : ∀ r : List Nat, r.all isL = true → runR r (r.map swL) = []
  | [], _ => rfl
  | x :: r, h => by
    simp only [List.all_cons, Bool.and_eq_true] at h
    rw [List.map_cons, runR_cons]
    have : stR (x :: r) (swL x) = r := by simp [stR, swL_swL h.1]
    rw [this]
    exact runR_undo r h.2
theorem times_undo {a : List Nat} (h : a.all isL = true) : times a (undW a) = [] := by
  unfold times undW
  rw [runR_undo _ (rev_L h)]; rfl
theorem undW_L {a : List Nat} (h : a.all isL = true) : (undW a).all isL = true := by
  unfold undW
  rw [List.all_map, List.all_eq_true]
  intro x hx
  exact swL_isL (List.all_eq_true.mp h x (by simpa using hx))
theorem undW_undW {b : List Nat} (h : b.all isL = true) : undW (undW b) = b := by
  unfold undW
  rw [← List.map_reverse, List.reverse_reverse, List.map_map]
  conv => rhs; rw [← List.map_id b]
  refine List.map_congr_left fun x hx => ?_
  exact swL_swL (List.all_eq_true.mp h x hx)
theorem isW_undW {s : List Nat} (h : isW s = true) : isW (undW s) = true := by
  have h2 := isW_ch (isW_reverse h)
  have h3 := isW_L (isW_reverse h)
  unfold undW
  generalize s.reverse = r at *
  rw [isW_eq]
  have hm : ∀ r : List Nat, r.all isL = true → chW r = true → (r.map swL).all isL = true ∧ chW (r.map swL) = true := fun r => by
    induction r with
    | nil => intro _ _; exact ⟨rfl, rfl⟩
    | cons c r ih =>
      intro a b
      simp only [List.all_cons, Bool.and_eq_true] at a
      obtain ⟨i1, i2⟩ := ih a.2 (chW_tail b)
      refine ⟨by simp only [List.map_cons, List.all_cons, swL_isL a.1, i1]; rfl, ?_⟩
      cases r with
      | nil => rfl
      | cons d r =>
        simp only [List.all_cons, Bool.and_eq_true] at a
        simp only [chW, Bool.and_eq_true, Bool.not_eq_true'] at b
        simp only [List.map_cons] at i2 ⊢
        simp only [chW, i2, Bool.and_true, Bool.not_eq_true']
        have b1 := b.1
        rcases isL_cases a.1 with rfl | rfl | rfl | rfl <;> rcases isL_cases a.2.1 with rfl | rfl | rfl | rfl <;> first | rfl | cases b1
  obtain ⟨a, b⟩ := hm r h3 h2
  rw [a, b]; rfl
theorem undW_times {a b : List Nat} (ha : isW a = true) (hb : isW b = true) : undW (times a b) = times (undW b) (undW a) := by
  have la := isW_L ha
  have lb := isW_L hb
  have hp := isW_times ha lb
  have lp := isW_L hp
  have ua := isW_undW ha
  have ub := isW_undW hb
  have up := isW_undW hp
  have lq := isW_L (isW_times ub (isW_L ua))
  have e1 : times (times a b) (times (undW b) (undW a)) = [] := by
    rw [times_assoc ha lb lq, ← times_assoc hb (isW_L ub) (isW_L ua), times_undo lb, times_nilL ua, times_undo la]
  have e2 : times (undW (times a b)) (times a b) = [] := by
    have z := times_undo (isW_L up)
    rw [undW_undW lp] at z
    exact z
  have e3 := times_assoc up lp lq
  rw [e1, e2, times_nilR, times_nilL (isW_times ub (isW_L ua))] at e3
  exact e3.symm
theorem undW_len (s : List Nat) : (undW s).length = s.length := by unfold undW; simp
theorem undW_nil : undW [] = [] := rfl
/-! ### strings struck out -/
theorem chW_look : ∀ s : List Nat, s.all isL = true → (chW s = true ↔ ∀ i (h : i + 1 < s.length), (s[i + 1] == swL s[i]) = false)
  | [], _ => by simp [chW]
  | [a], _ => by simp [chW]
  | a :: b :: r, hl => by
    simp only [List.all_cons, Bool.and_eq_true] at hl
    have ih := chW_look (b :: r) (by simp [hl.2.1, hl.2.2])
    have e : (a == swL b) = (b == swL a) := by
      rcases isL_cases hl.1 with rfl | rfl | rfl | rfl <;> rcases isL_cases hl.2.1 with rfl | rfl | rfl | rfl <;> rfl
    simp only [chW, Bool.and_eq_true, Bool.not_eq_true']
    rw [ih, e]
    constructor
    · rintro ⟨h1, h2⟩ i hi
      cases i with
      | zero => exact h1
      | succ j => exact h2 j (by simpa using hi)
    · intro h
      exact ⟨h 0 (by simp), fun i hi => h (i + 1) (by simpa using hi)⟩
theorem times_cut {s : List Nat} (hs : s.all isL = true) {i : Nat} (h : i + 1 < s.length) (e : s[i + 1] = swL s[i]) : times [] (s.take i ++ s.drop (i + 2)) = times [] s := by
  have es : s = s.take i ++ s[i] :: swL s[i] :: s.drop (i + 2) := by
    conv => lhs; rw [← List.take_append_drop i s]
    rw [List.drop_eq_getElem_cons (by omega : i < s.length), List.drop_eq_getElem_cons h, ← e]
  have hi : isL s[i] = true := List.all_eq_true.mp hs _ (List.getElem_mem _)
  have ht : (s.take i).all isL = true := List.all_eq_true.mpr fun x hx => List.all_eq_true.mp hs x (List.mem_of_mem_take hx)
  have z := runR_pair (acc := []) (r := s.drop (i + 2)) rfl rfl ht hi
  unfold times
  rw [List.reverse_nil, ← z, ← es]
theorem times_whole {s : List Nat} (hs : s.all isL = true) (hw : chW s = true) : times [] s = s := times_nilL (by rw [isW_eq, hs, hw]; rfl)
/-! ### all words -/
theorem isW_rev (s : List Nat) : isW s.reverse = isW s := by
  cases h : isW s with
  | true => exact isW_reverse h
  | false =>
    cases h2 : isW s.reverse with
    | false => rfl
    | true =>
      have z := isW_reverse h2
      rw [List.reverse_reverse, h] at z
      cases z
theorem isW_snoc {c : Nat} {w : List Nat} : isW (w ++ [c]) = (isL c && fitsA c w.reverse && isW w) := by
  rw [← isW_rev (w ++ [c]), List.reverse_append, List.reverse_cons, List.reverse_nil, List.nil_append, List.cons_append, List.nil_append, isW_cons, isW_rev]
def ab4 : List Nat := [65, 66, 97, 98]
theorem ab4_L {c : Nat} : c ∈ ab4 ↔ isL c = true := by
  constructor
  · intro h
    simp only [ab4, List.mem_cons, List.not_mem_nil, or_false] at h
    rcases h with rfl | rfl | rfl | rfl <;> rfl
  · intro h
    rcases isL_cases h with rfl | rfl | rfl | rfl <;> decide
def sufx (w : List Nat) : List (List Nat) := (ab4.filter fun c => fitsA c w.reverse).map fun c => w ++ [c]
def wl : Nat → List (List Nat)
  | 0 => [[]]
  | k + 1 => (wl k).flatMap sufx
theorem mem_wl : ∀ (k : Nat) (w : List Nat), w ∈ wl k ↔ isW w = true ∧ w.length = k
  | 0, w => by
    simp only [wl, List.mem_singleton]
    constructor
    · rintro rfl; exact ⟨rfl, rfl⟩
    · rintro ⟨_, h⟩; exact List.length_eq_zero_iff.mp h
  | k + 1, w => by
    simp only [wl, List.mem_flatMap, sufx, List.mem_map, List.mem_filter, ab4_L]
    constructor
    · rintro ⟨v, hv, c, ⟨h1, h2⟩, rfl⟩
      obtain ⟨h3, h4⟩ := (mem_wl k v).mp hv
      exact ⟨by rw [isW_snoc, h1, h2, h3]; rfl, by simp [h4]⟩
    · rintro ⟨h, hl⟩
      rcases List.eq_nil_or_concat w with rfl | ⟨v, c, rfl⟩
      · simp at hl
      · rw [List.concat_eq_append] at *
        rw [isW_snoc] at h
        simp only [Bool.and_eq_true] at h
        exact ⟨v, (mem_wl k v).mpr ⟨h.2, by simpa using hl⟩, c, h.1, rfl⟩
theorem snoc_lt : ∀ {a b : List Nat} {c d : Nat}, a.length = b.length → (a < b ∨ a = b ∧ c < d) → a ++ [c] < b ++ [d]
  | [], [], c, d, _, h => by
    rcases h with h | ⟨_, h⟩
    · exact absurd h (List.lt_irrefl [])
    · exact List.Lex.rel h
  | x :: a, y :: b, c, d, hl, h => by
    have hl2 : a.length = b.length := by simpa using hl
    rcases h with h | ⟨e, h⟩
    · cases h with
      | cons h => exact List.Lex.cons (snoc_lt hl2 (.inl h))
      | rel h => exact List.Lex.rel h
    · cases e
      exact List.Lex.cons (snoc_lt hl2 (.inr ⟨rfl, h⟩))
theorem wl_sorted : ∀ k, (wl k).Pairwise (· < ·)
  | 0 => List.pairwise_singleton _ _
  | k + 1 => by
    unfold wl
    rw [List.pairwise_flatMap]
    refine ⟨fun a _ => ?_, ?_⟩
    · unfold sufx
      rw [List.pairwise_map]
      refine List.Pairwise.imp (fun h => snoc_lt rfl (.inr ⟨rfl, h⟩)) (List.Pairwise.filter _ (by decide : ab4.Pairwise (· < ·)))
    · refine List.Pairwise.imp_of_mem (fun {a b} ha hb h x hx y hy => ?_) (wl_sorted k)
      obtain ⟨c, _, rfl⟩ := List.mem_map.mp hx
      obtain ⟨d, _, rfl⟩ := List.mem_map.mp hy
      exact snoc_lt (by rw [((mem_wl k a).mp ha).2, ((mem_wl k b).mp hb).2]) (.inl h)
theorem wl_nodup (k : Nat) : (wl k).Nodup := by
  unfold List.Nodup
  exact List.Pairwise.imp (fun {a b} h (e : a = b) => List.lt_irrefl b (by rw [e] at h; exact h)) (wl_sorted k)
theorem further_nodup (k : Nat) : ((wl k).flatMap furtherW).Nodup := by
  unfold List.Nodup
  rw [List.pairwise_flatMap]
  refine ⟨fun a _ => ?_, ?_⟩
  · unfold furtherW
    rw [List.pairwise_map]
    exact List.Pairwise.imp (fun h e => h (List.cons.inj e).1) (List.Pairwise.filter _ (by decide : ([65, 66, 97, 98] : List Nat).Nodup))
  · refine List.Pairwise.imp (fun {a b} h x hx y hy e => ?_) (wl_nodup k)
    obtain ⟨c, _, rfl⟩ := List.mem_map.mp hx
    obtain ⟨d, _, rfl⟩ := List.mem_map.mp hy
    exact h (List.cons.inj e).2
theorem mem_further (k : Nat) (w : List Nat) : w ∈ (wl k).flatMap furtherW ↔ isW w = true ∧ w.length = k + 1 := by
  have h4 : ∀ c, c ∈ ([65, 66, 97, 98] : List Nat) ↔ isL c = true := fun c => ab4_L
  simp only [List.mem_flatMap, furtherW, List.mem_map, List.mem_filter, h4]
  constructor
  · rintro ⟨v, hv, c, ⟨h1, h2⟩, rfl⟩
    obtain ⟨h3, h4⟩ := (mem_wl k v).mp hv
    exact ⟨by rw [isW_cons, h1, h2, h3]; rfl, by simp [h4]⟩
  · rintro ⟨h, hl⟩
    cases w with
    | nil => simp at hl
    | cons c v =>
      rw [isW_cons] at h
      simp only [Bool.and_eq_true] at h
      exact ⟨v, (mem_wl k v).mpr ⟨h.2, by simpa using hl⟩, c, h.1, rfl⟩
def leW (a b : List Nat) : Bool := !decide (b < a)
theorem leW_iff {a b : List Nat} : leW a b = true ↔ a ≤ b := by
  unfold leW
  rw [Bool.not_eq_true', decide_eq_false_iff_not, List.not_lt]
theorem further_sorted (k : Nat) : ((wl k).flatMap furtherW).mergeSort leW = wl (k + 1) := by
  refine List.Perm.eq_of_pairwise (le := fun a b => leW a b = true) (fun a b _ _ h1 h2 => List.le_antisymm (leW_iff.mp h1) (leW_iff.mp h2)) (List.pairwise_mergeSort (le := leW) (fun a b c h1 h2 => leW_iff.mpr (List.le_trans (leW_iff.mp h1) (leW_iff.mp h2))) (fun a b => ?_) _) (List.Pairwise.imp (fun {a b} h => leW_iff.mpr (List.not_lt.mp (List.lt_asymm h))) (wl_sorted (k + 1))) ((List.mergeSort_perm _ _).trans ((List.perm_ext_iff_of_nodup (further_nodup k) (wl_nodup (k + 1))).mpr fun w => (mem_further k w).trans (mem_wl (k + 1) w).symm))
  rcases List.le_total a b with h | h
  · rw [leW_iff.mpr h]; rfl
  · rw [leW_iff.mpr h, Bool.or_true]
theorem dKey_str (a : List Nat) : dKey (.str a) = .str ⟨a.toArray⟩ := rfl
theorem dLe_str (a b : List Nat) : dLe (.str a) (.str b) = leW a b := by
  unfold dLe leW
  rw [dKey_str, dKey_str, PySem.W.dataLt_str]
theorem sort_words (k : Nat) : (((wl k).flatMap furtherW).map D.str).mergeSort dLe = (wl (k + 1)).map D.str := by
  rw [← further_sorted k, List.map_mergeSort (s := dLe) (fun a _ b _ => (dLe_str a b).symm)]
theorem srt_strs (l : List (List Nat)) : srtOk (l.map D.str) = true := by
  unfold srtOk
  simp only [Bool.and_eq_true, Bool.or_eq_true, List.all_map, List.all_eq_true, Function.comp]
  refine ⟨fun x _ => ⟨rfl, ?_⟩, fun x _ y _ => ?_, .inr fun x _ => ?_⟩
  · simp [dKey_str, PyData.depth]
  · simp [dKey_str, PySem.W.alike]
  · simp [dKey_str, isOthK]
theorem flat_len {f : List Nat → List (List Nat)} (h : ∀ w, (f w).length ≤ 4) : ∀ l : List (List Nat), (l.flatMap f).length ≤ 4 * l.length
  | [] => by simp
  | w :: l => by
    rw [List.flatMap_cons, List.length_append, List.length_cons]
    have := flat_len h l
    have := h w
    omega
theorem sufx_len (w : List Nat) : (sufx w).length ≤ 4 := by
  unfold sufx
  rw [List.length_map]
  exact Nat.le_trans (List.length_filter_le _ _) (by decide)
theorem furtherW_len (w : List Nat) : (furtherW w).length ≤ 4 := by
  unfold furtherW
  rw [List.length_map]
  exact Nat.le_trans (List.length_filter_le _ _) (by decide)
theorem wl_len : ∀ k, (wl k).length ≤ 4 ^ k
  | 0 => by simp [wl]
  | k + 1 => by
    have := wl_len k
    have := flat_len sufx_len (wl k)
    unfold wl
    rw [Nat.pow_succ]
    omega
/-- of at most so many letters -/
def upW : Nat → List (List Nat)
  | 0 => wl 0
  | n + 1 => upW n ++ wl (n + 1)
theorem up_len : ∀ n, (upW n).length ≤ (n + 1) * 4 ^ n
  | 0 => by simp [upW, wl]
  | n + 1 => by
    have := up_len n
    have := wl_len (n + 1)
    unfold upW
    rw [List.length_append, Nat.pow_succ]
    have e : (n + 1 + 1) * (4 ^ n * 4) = 4 * ((n + 1) * 4 ^ n) + 4 ^ n * 4 := by
      rw [Nat.add_mul (n + 1) 1, Nat.one_mul, ← Nat.mul_assoc, Nat.mul_comm _ 4]
    rw [e]
    rw [Nat.pow_succ] at *
    omega
theorem mem_up : ∀ (n : Nat) (w : List Nat), w ∈ upW n → isW w = true ∧ w.length ≤ n
  | 0, w, h => by
    obtain ⟨h1, h2⟩ := (mem_wl 0 w).mp h
    exact ⟨h1, by omega⟩
  | n + 1, w, h => by
    rcases List.mem_append.mp h with h | h
    · obtain ⟨h1, h2⟩ := mem_up n w h
      exact ⟨h1, by omega⟩
    · obtain ⟨h1, h2⟩ := (mem_wl _ w).mp h
      exact ⟨h1, by omega⟩
theorem wl_flt (p : Nat → Bool) (k : Nat) : (wl k).filter (fun w => p w.length) = if p k then wl k else [] := by
  by_cases h : p k = true
  · rw [if_pos h, List.filter_eq_self]
    intro w hw
    rw [((mem_wl k w).mp hw).2, h]
  · rw [if_neg h, List.filter_eq_nil_iff]
    intro w hw
    rw [((mem_wl k w).mp hw).2]
    exact h
theorem up_eq (s : Nat) : ∀ n, (upW n).filter (fun w => w.length == s) = if s ≤ n then wl s else []
  | 0 => by
    unfold upW
    rw [wl_flt (fun k => k == s) 0]
    by_cases h : s = 0
    · subst h; rfl
    · rw [if_neg (by simp; omega), if_neg (by omega)]
  | n + 1 => by
    unfold upW
    rw [List.filter_append, up_eq s n, wl_flt (fun k => k == s) (n + 1)]
    by_cases h : s ≤ n
    · rw [if_pos h, if_neg (by simp; omega), if_pos (by omega), List.append_nil]
    · by_cases h2 : s = n + 1
      · subst h2
        rw [if_neg h, if_pos (by simp), if_pos (by omega), List.nil_append]
      · rw [if_neg h, if_neg (by simp; omega), if_neg (by omega), List.append_nil]
theorem up_le (s : Nat) : ∀ n, s ≤ n → (upW n).filter (fun w => decide (w.length ≤ s)) = upW s
  | 0, h => by
    have e : s = 0 := by omega
    subst e
    rfl
  | n + 1, h => by
    by_cases h2 : s = n + 1
    · subst h2
      rw [List.filter_eq_self]
      intro w hw
      exact decide_eq_true (mem_up _ w hw).2
    · show (upW n ++ wl (n + 1)).filter _ = _
      rw [List.filter_append, up_le s n (by omega), wl_flt (fun k => decide (k ≤ s)) (n + 1), if_neg (by simp; omega), List.append_nil]
theorem up_flat : ∀ n, (List.range (n + 1)).flatMap wl = upW n
  | 0 => rfl
  | n + 1 => by
    rw [List.range_succ, List.flatMap_append, up_flat n]
    simp [upW]
theorem szDs_strs {n : Nat} : ∀ l : List (List Nat), (∀ w ∈ l, w.length ≤ n) → szDs (l.map D.str) ≤ l.length * (10 * n + 4)
  | [], _ => by simp [szDs]
  | w :: l, h => by
    have := szDs_strs l fun x hx => h x (List.mem_cons_of_mem _ hx)
    have h1 := h w List.mem_cons_self
    simp only [List.map_cons, szDs, szD, List.length_cons]
    rw [Nat.add_mul, Nat.one_mul]
    omega
theorem doks_strs : ∀ l : List (List Nat), (∀ w ∈ l, isW w = true) → ∀ k, doks (l.map D.str) k = true
  | [], _, _ => rfl
  | w :: l, h, k => by
    have h1 := isL_all (isW_L (h w List.mem_cons_self))
    simp only [List.map_cons, doks, doks_strs l (fun x hx => h x (List.mem_cons_of_mem _ hx)) k, Bool.and_true, dok]
    exact h1
end DL

/-! comprehensions of two fors that change nothing; compared data. -/
namespace DL
open PySem PySem.Spec PyProof.Rows L2
section
variable {Γ : Gam} {δ : Dv} {μ : List M}
theorem lc_acc {gm : GM} {me : EM} {g : List M → Option (List D)} {l : List D} {δ : Dv} {μ : List M} (f : D → D) (hg : g μ = some l) (h : ∀ d ∈ l, ∃ δ1, gm d μ δ = some δ1 ∧ me δ1 μ = .ok (f d) μ) :
    ∀ (k i : Nat) (acc : List D), k + i = l.length → acc.length + k ≤ 16777216 → lcGo gm (fun _ μ => .ok true μ) me g l.length k i δ μ acc = .ok (acc ++ (l.drop i).map f) μ
  | 0, i, acc, e, _ => by
    have hi : i = l.length := by omega
    subst hi
    unfold lcGo
    simp only [hg, if_true]
    simp
  | k + 1, i, acc, e, hl => by
    have hi : i < l.length := by omega
    obtain ⟨δ1, e1, e2⟩ := h l[i] (List.getElem_mem hi)
    have lo : lineOk (acc.length + 1) = true := by unfold lineOk; exact decide_eq_true (by omega)
    have ih := lc_acc f hg h k (i + 1) (acc ++ [f l[i]]) (by omega) (by rw [List.length_append]; simp; omega)
    unfold lcGo
    simp only [hg, if_true, List.getElem?_eq_getElem hi, e1, e2, lo]
    rw [ih, List.append_assoc, List.drop_eq_getElem_cons hi]
    rfl
theorem lc2_acc {gm gm1 : GM} {mi1 : IM} {me : EM} {vs1 : List Nat} {g : List M → Option (List D)} {l : List D} {δ : Dv} {μ : List M} (F : D → List D) (f : D → D → D) (hg : g μ = some l)
    (h : ∀ d ∈ l, ∃ δ1 g1, gm d μ δ = some δ1 ∧ mi1 δ1 μ = .ok (F d).length g1 μ ∧ g1 μ = some (F d) ∧ ∀ y ∈ F d, ∃ δ2, gm1 y μ (wipeD δ1 vs1) = some δ2 ∧ me δ2 μ = .ok (f d y) μ) :
    ∀ (k i : Nat) (acc : List D), k + i = l.length → acc.length + ((l.drop i).flatMap F).length ≤ 16777216 → lcGo2 gm (fun _ μ => .ok true μ) mi1 gm1 (fun _ μ => .ok true μ) me vs1 g l.length k i δ μ acc = .ok (acc ++ (l.drop i).flatMap fun d => (F d).map (f d)) μ
  | 0, i, acc, e, _ => by
    have hi : i = l.length := by omega
    subst hi
    unfold lcGo2
    simp only [hg, if_true]
    simp
  | k + 1, i, acc, e, hl => by
    have hi : i < l.length := by omega
    obtain ⟨δ1, g1, e1, e2, e3, e4⟩ := h l[i] (List.getElem_mem hi)
    rw [List.drop_eq_getElem_cons hi, List.flatMap_cons, List.length_append] at hl
    have z := lc_acc (gm := gm1) (me := me) (δ := wipeD δ1 vs1) (f l[i]) e3 e4 (F l[i]).length 0 acc (by omega) (by omega)
    have ih := lc2_acc F f hg h k (i + 1) (acc ++ (F l[i]).map (f l[i])) (by omega) (by rw [List.length_append, List.length_map]; omega)
    unfold lcGo2
    simp only [hg, if_true, List.getElem?_eq_getElem hi, e1, e2]
    rw [List.drop_zero] at z
    rw [z]
    dsimp only
    rw [ih, List.append_assoc, List.drop_eq_getElem_cons hi]
    rfl
theorem mLc2_map {it it1 : CI} {g g1 : CG} {e : CE} {vs vs1 : List Nat} {l : List D} {gg : List M → Option (List D)} (F : D → List D) (f : D → D → D) (hi : evI Γ it δ μ = .ok l.length gg μ) (hg : gg μ = some l)
    (h : ∀ d ∈ l, ∃ δ1 gg1, evG g d μ (wipeD δ vs) = some δ1 ∧ evI Γ it1 δ1 μ = .ok (F d).length gg1 μ ∧ gg1 μ = some (F d) ∧ ∀ y ∈ F d, ∃ δ2, evG g1 y μ (wipeD δ1 vs1) = some δ2 ∧ evE Γ e δ2 μ = .ok (f d y) μ) (hl : (l.flatMap F).length ≤ 16777216) :
    mLc2B false (evI Γ it) (evG g) (evT Γ .yes) (evI Γ it1) (evG g1) (evT Γ .yes) (evE Γ e) vs vs1 δ μ = .ok (.lst (l.flatMap fun d => (F d).map (f d))) μ := by
  unfold mLc2B mLc2A
  rw [hi]
  dsimp only
  have z := lc2_acc (gm := evG g) (gm1 := evG g1) (mi1 := evI Γ it1) (me := evE Γ e) (vs1 := vs1) (δ := wipeD δ vs) F f hg h l.length 0 [] (by omega) (by simpa using hl)
  have z' : lcGo2 (evG g) (evT Γ .yes) (evI Γ it1) (evG g1) (evT Γ .yes) (evE Γ e) vs1 gg l.length l.length 0 (wipeD δ vs) μ [] = _ := z
  rw [z']
  rfl
theorem ev_lc2 {cell it g t it1 g1 t1 e own vs1} : evE Γ (.lc2 cell it g t it1 g1 t1 e own vs1) δ μ = mLc2B cell (evI Γ it) (evG g) (evT Γ t) (evI Γ it1) (evG g1) (evT Γ t1) (evE Γ e) (own.map (·.2)) vs1 δ μ := rfl
theorem bi_sorted {k : Kks} {l : List D} (h : srtOk l = true) : BI.f k .sorted [.lst l] μ = .ok (.lst (l.mergeSort dLe)) μ := by
  show (if srtOk l then ER.ok (.lst (l.mergeSort dLe)) μ else .bad) = _
  rw [if_pos h]
/-! ### <, of texts and of pairs -/
theorem lt_strs {a b : List Nat} : CK.f .ltD (.str a) (.str b) μ = .ok (.bl (decide (a < b))) μ := by
  show (if PySem.W.alike (.str ⟨a.toArray⟩) (.str ⟨b.toArray⟩) && (notNone (.str ⟨a.toArray⟩) && decide (min (PyData.str ⟨a.toArray⟩).depth (PyData.str ⟨b.toArray⟩).depth ≤ 60)) then ER.ok (.bl (gLt (.str ⟨a.toArray⟩) (.str ⟨b.toArray⟩))) μ else .bad) = _
  rw [if_pos (by simp [PySem.W.alike, notNone, PyData.depth])]
  unfold gLt
  rw [PySem.W.dataLt_str]
theorem lt_keys {a b : List Nat} {i j : Int} : CK.f .ltD (.tup [.int i, .str a]) (.tup [.int j, .str b]) μ = .ok (.bl (decide (i < j ∨ (i = j ∧ a < b)))) μ := by
  show (if PySem.W.alike (.tuple [.int i, .str ⟨a.toArray⟩]) (.tuple [.int j, .str ⟨b.toArray⟩]) && (notNone (.tuple [.int i, .str ⟨a.toArray⟩]) && decide (min (PyData.tuple [.int i, .str ⟨a.toArray⟩]).depth (PyData.tuple [.int j, .str ⟨b.toArray⟩]).depth ≤ 60)) then ER.ok (.bl (gLt (.tuple [.int i, .str ⟨a.toArray⟩]) (.tuple [.int j, .str ⟨b.toArray⟩]))) μ else .bad) = _
  rw [if_pos (by simp [PySem.W.alike, PySem.W.alikeAll, notNone, PyData.depth, PyData.depthAll])]
  unfold gLt
  rw [PySem.W.dataLt_pair rfl rfl, PySem.W.dataLt_int, PySem.W.dataLt_str]
  congr 2
  have e1 : PyData.eqv (.int i) (.int j) = decide (i = j) := by
    by_cases h : i = j <;> simp [PyData.eqv, h]
  have e2 : PyData.eqv (.str ⟨a.toArray⟩) (.str ⟨b.toArray⟩) = decide (a = b) := by
    by_cases h : a = b
    · subst h; simp [PyData.eqv]
    · have h2 : (⟨a.toArray⟩ : Str) ≠ ⟨b.toArray⟩ := fun z => h (by simpa using z)
      simp [PyData.eqv, h, h2]
  rw [e1, e2]
  by_cases h : i = j
  · subst h
    by_cases h2 : a = b
    · subst h2
      simp [List.lt_irrefl]
    · simp [h2]
  · simp [h]
end
end DL

/-! Printed by gen.py. -/
namespace K01
open PySem PySem.Spec PyProof.Rows L2 DL
abbrev pg : Program := PySem.Challenge.pw_giventurns_k01_whole_words_are_a_group_a
def stm (i : Nat) : Stmt := pg.main.body.getD i (.Pass ⟨0, 0, 0, 0⟩)
def inC (s : Stmt) (j : Nat) : Stmt := match s with
  | .ClassDef _ _ _ b _ _ _ _ _ _ _ => b.getD j (.Pass ⟨0, 0, 0, 0⟩)
  | _ => .Pass ⟨0, 0, 0, 0⟩
def law : LawD where
  cn := ["BadWord", "BadNumber", "TurnError", "BadGrowth", "BadLot", "BadTask", "BadText", "Unlike", "TooMany", "Nothing"]
  gl := [("BadGrowth", .cls 3), ("BadLot", .cls 4), ("BadNumber", .cls 1), ("BadTask", .cls 5), ("BadText", .cls 6), ("BadWord", .cls 0), ("LETTERS", .str [65, 66, 97, 98]), ("MOST_LISTED", .int 6), ("Nothing", .cls 9), ("TooMany", .cls 8), ("Unlike", .cls 7)]
  free := ["abs", "all", "any", "bool", "int", "isinstance", "len", "list", "min", "range", "repr", "sorted", "str", "tuple", "zip"]
  glo := ["BadGrowth", "BadLot", "BadNumber", "BadTask", "BadText", "BadWord", "Nothing", "TooMany", "TurnError", "Unlike", "_law_draw", "_law_heard", "_law_pen", "_law_pick", "_law_struck", "_law_times", "_law_undo", "_law_word", "_law_words", "ahead", "further", "is_between", "is_integer", "is_word", "law", "need_word", "product", "reduced", "struck", "undone", "words_of", "words_upto"]
  fld := []
  fldX := [(1, "value"), (0, "value")]
  mth := []
  mkr := []
  own := []
  kk := [(.inl "int", .inl "bool", false), (.inl "bool", .inl "bool", true), (.inl "str", .inl "bool", false), (.inl "NoneType", .inl "bool", false), (.inl "list", .inl "bool", false), (.inl "tuple", .inl "bool", false), (.inl "dict", .inl "bool", false), (.inl "int", .inl "int", true), (.inl "bool", .inl "int", true), (.inl "str", .inl "int", false), (.inl "NoneType", .inl "int", false), (.inl "list", .inl "int", false), (.inl "tuple", .inl "int", false), (.inl "dict", .inl "int", false), (.inl "int", .inl "str", false), (.inl "bool", .inl "str", false), (.inl "str", .inl "str", true), (.inl "NoneType", .inl "str", false), (.inl "list", .inl "str", false), (.inl "tuple", .inl "str", false), (.inl "dict", .inl "str", false), (.inl "int", .inr 3, false), (.inl "bool", .inr 3, false), (.inl "str", .inr 3, false), (.inl "NoneType", .inr 3, false), (.inl "list", .inr 3, false), (.inl "tuple", .inr 3, false), (.inl "dict", .inr 3, false), (.inl "int", .inr 4, false), (.inl "bool", .inr 4, false), (.inl "str", .inr 4, false), (.inl "NoneType", .inr 4, false), (.inl "list", .inr 4, false), (.inl "tuple", .inr 4, false), (.inl "dict", .inr 4, false), (.inl "int", .inr 1, false), (.inl "bool", .inr 1, false), (.inl "str", .inr 1, false), (.inl "NoneType", .inr 1, false), (.inl "list", .inr 1, false), (.inl "tuple", .inr 1, false), (.inl "dict", .inr 1, false), (.inl "int", .inr 5, false), (.inl "bool", .inr 5, false), (.inl "str", .inr 5, false), (.inl "NoneType", .inr 5, false), (.inl "list", .inr 5, false), (.inl "tuple", .inr 5, false), (.inl "dict", .inr 5, false), (.inl "int", .inr 6, false), (.inl "bool", .inr 6, false), (.inl "str", .inr 6, false), (.inl "NoneType", .inr 6, false), (.inl "list", .inr 6, false), (.inl "tuple", .inr 6, false), (.inl "dict", .inr 6, false), (.inl "int", .inr 0, false), (.inl "bool", .inr 0, false), (.inl "str", .inr 0, false), (.inl "NoneType", .inr 0, false), (.inl "list", .inr 0, false), (.inl "tuple", .inr 0, false), (.inl "dict", .inr 0, false), (.inl "int", .inr 9, false), (.inl "bool", .inr 9, false), (.inl "str", .inr 9, false), (.inl "NoneType", .inr 9, false), (.inl "list", .inr 9, false), (.inl "tuple", .inr 9, false), (.inl "dict", .inr 9, false), (.inl "int", .inr 8, false), (.inl "bool", .inr 8, false), (.inl "str", .inr 8, false), (.inl "NoneType", .inr 8, false), (.inl "list", .inr 8, false), (.inl "tuple", .inr 8, false), (.inl "dict", .inr 8, false), (.inl "int", .inr 7, false), (.inl "bool", .inr 7, false), (.inl "str", .inr 7, false), (.inl "NoneType", .inr 7, false), (.inl "list", .inr 7, false), (.inl "tuple", .inr 7, false), (.inl "dict", .inr 7, false)]
  ke := [(1, .inl "bool", false), (0, .inl "bool", false), (1, .inl "int", false), (0, .inl "int", false), (1, .inl "str", false), (0, .inl "str", false), (1, .inr 3, false), (0, .inr 3, false), (1, .inr 4, false), (0, .inr 4, false), (1, .inr 1, true), (0, .inr 1, false), (1, .inr 5, false), (0, .inr 5, false), (1, .inr 6, false), (0, .inr 6, false), (1, .inr 0, false), (0, .inr 0, true), (1, .inr 9, false), (0, .inr 9, false), (1, .inr 8, false), (0, .inr 8, false), (1, .inr 7, false), (0, .inr 7, false)]
  nf := []
  rs := [(1, "value"), (0, "value")]
  cat := [(2, [(1, true), (0, true)])]
  file := "/claim/cut.py"
/-! _law_pen -/
abbrev s__law_pen : Stmt := stm 28
def d__law_pen : He.DefD := ⟨("_law_pen", none), "_law_pen", "_law_pen", defArgs s__law_pen, defBody s__law_pen, defScope s__law_pen, [], []⟩
abbrev p__law_pen : List Str := ["script"]
abbrev n__law_pen : List Str := ["script", ".0", "cell"]
def e__law_pen : List Ent := []
def q__law_pen_1 : CE := .lc false (.seq (.sl (.v 0) .no (.som (.k (.int 63))))) (.nm 2) (.yes) (.bi .int (.cons (.v 2) .nil)) [(".0", 1), ("cell", 2)]
def t__law_pen_1 : CS := .ret (.lstM (.cons (q__law_pen_1) (.cons (.k (.int 0)) (.cons (.k (.int 0)) .nil))))
def c__law_pen : CSs := (.cons t__law_pen_1 .nil)
def g__law_pen : Gam := law.gam n__law_pen e__law_pen 0 [] (keep := true)
def m__law_pen : FD := mFn g__law_pen 1 c__law_pen
theorem ck__law_pen : defB g__law_pen p__law_pen d__law_pen.scope c__law_pen d__law_pen.body false = true := by decide +kernel
/-! _law_draw -/
abbrev s__law_draw : Stmt := stm 29
def d__law_draw : He.DefD := ⟨("_law_draw", none), "_law_draw", "_law_draw", defArgs s__law_draw, defBody s__law_draw, defScope s__law_draw, [], []⟩
abbrev p__law_draw : List Str := ["pen", "many"]
abbrev n__law_draw : List Str := ["pen", "many", "rest", "at", "cell", "mixed"]
def e__law_draw : List Ent := []
def t__law_draw_1 : CS := .asg (.nm 2) (.bi .int (.cons (.ix (.v 0) (.k (.int 2))) .nil))
def t__law_draw_2 : CS := .lput (.v 0) (.k (.int 2)) (.bin .div (.v 2) (.v 1))
def t__law_draw_3 : CS := .ret (.bin .mod (.bi .int (.cons (.v 2) .nil)) (.v 1))
def t__law_draw_4 : CS := .ite (.cmp .gt (.ix (.v 0) (.k (.int 2))) (.k (.int 0))) (.cons t__law_draw_1 (.cons t__law_draw_2 (.cons t__law_draw_3 .nil))) .nil
def t__law_draw_5 : CS := .asg (.nm 3) (.ix (.v 0) (.k (.int 1)))
def t__law_draw_6 : CS := .lput (.v 0) (.k (.int 1)) (.bin .add (.v 3) (.k (.int 1)))
def t__law_draw_7 : CS := .asg (.nm 4) (.bin .add (.bin .mul (.k (.int 86945)) (.v 3)) (.k (.int 2667)))
def t__law_draw_8 : CS := .asg (.nm 4) (.ix (.ix (.v 0) (.k (.int 0))) (.bin .mod (.bi .int (.cons (.v 3) .nil)) (.bi .len (.cons (.ix (.v 0) (.k (.int 0))) .nil))))
def t__law_draw_9 : CS := .ite (.cmp .ne (.ix (.v 0) (.k (.int 0))) (.lst .nil)) (.cons t__law_draw_8 .nil) .nil
def t__law_draw_10 : CS := .asg (.nm 2) (.bin .add (.bin .mul (.k (.int 2)) (.bin .sub (.bi .abs (.cons (.v 4) .nil)) (.bin .pow (.k (.int 10)) (.k (.int 18))))) (.bi .int (.cons (.cmp .lt (.v 4) (.k (.int 0))) .nil)))
def t__law_draw_11 : CS := .lput (.v 0) (.k (.int 2)) (.bin .div (.bi .int (.cons (.v 2) .nil)) (.v 1))
def t__law_draw_12 : CS := .ret (.bin .mod (.bi .int (.cons (.v 2) .nil)) (.v 1))
def t__law_draw_13 : CS := .ite (.and (.cons (.cmp .lt (.v 3) (.bi .len (.cons (.ix (.v 0) (.k (.int 0))) .nil))) (.one (.cmp .ge (.bi .abs (.cons (.v 4) .nil)) (.bin .pow (.k (.int 10)) (.k (.int 18))))))) (.cons t__law_draw_10 (.cons t__law_draw_11 (.cons t__law_draw_12 .nil))) .nil
def t__law_draw_14 : CS := .asg (.nm 5) (.bin .mod (.bi .int (.cons (.bin .pow (.bin .add (.bin .add (.bin .mod (.bi .int (.cons (.v 4) .nil)) (.k (.int 2147483587))) (.bin .mul (.k (.int 53089)) (.v 3))) (.k (.int 4181))) (.k (.int 5))) .nil)) (.k (.int 2147483563)))
def t__law_draw_15 : CS := .asg (.nm 5) (.bin .mod (.bi .int (.cons (.bin .pow (.bin .add (.bin .add (.bin .mul (.v 5) (.bin .add (.bin .mul (.k (.int 2)) (.v 3)) (.k (.int 2667)))) (.bin .mul (.bin .mul (.k (.int 93561)) (.v 3)) (.v 3))) (.k (.int 53089))) (.k (.int 3))) .nil)) (.k (.int 2147483549)))
def t__law_draw_16 : CS := .ret (.bin .mod (.bi .int (.cons (.bin .div (.v 5) (.k (.int 32))) .nil)) (.v 1))
def c__law_draw : CSs := (.cons t__law_draw_4 (.cons t__law_draw_5 (.cons t__law_draw_6 (.cons t__law_draw_7 (.cons t__law_draw_9 (.cons t__law_draw_13 (.cons t__law_draw_14 (.cons t__law_draw_15 (.cons t__law_draw_16 .nil)))))))))
def g__law_draw : Gam := law.gam n__law_draw e__law_draw 0 []
def m__law_draw : FD := mFn g__law_draw 2 c__law_draw
theorem ck__law_draw : defB g__law_draw p__law_draw d__law_draw.scope c__law_draw d__law_draw.body false = true := by decide +kernel
/-! _law_undo -/
abbrev s__law_undo : Stmt := stm 31
def d__law_undo : He.DefD := ⟨("_law_undo", none), "_law_undo", "_law_undo", defArgs s__law_undo, defBody s__law_undo, defScope s__law_undo, [], []⟩
abbrev p__law_undo : List Str := ["letter"]
abbrev n__law_undo : List Str := ["letter"]
def e__law_undo : List Ent := []
def t__law_undo_1 : CS := .ret (.dget (.dicD (.cons (.k (.str [65])) (.k (.str [97])) (.cons (.k (.str [97])) (.k (.str [65])) (.cons (.k (.str [66])) (.k (.str [98])) (.cons (.k (.str [98])) (.k (.str [66])) .nil))))) (.v 0))
def c__law_undo : CSs := (.cons t__law_undo_1 .nil)
def g__law_undo : Gam := law.gam n__law_undo e__law_undo 0 []
def m__law_undo : FD := mFn g__law_undo 1 c__law_undo
theorem ck__law_undo : defB g__law_undo p__law_undo d__law_undo.scope c__law_undo d__law_undo.body false = true := by decide +kernel
/-! _law_times -/
abbrev s__law_times : Stmt := stm 32
def d__law_times : He.DefD := ⟨("_law_times", none), "_law_times", "_law_times", defArgs s__law_times, defBody s__law_times, defScope s__law_times, [], []⟩
abbrev p__law_times : List Str := ["one", "other"]
abbrev n__law_times : List Str := ["one", "other", "found", "sign"]
def e__law_times : List Ent := [{ x := "_law_undo", kd := .fn, n := 1, np := 1, ks := [], gD := ordG [.pos 0] [], m := m__law_undo, la := false }]
def t__law_times_1 : CS := .asg (.nm 2) (.bi .listM (.cons (.v 0) .nil))
def t__law_times_2 : CS := .expr (.bm .pop (.v 2) .nil)
def t__law_times_3 : CS := .expr (.bm .append (.v 2) (.cons (.v 3) .nil))
def t__law_times_4 : CS := .ite (.and (.cons (.cmp .ne (.v 2) (.lst .nil)) (.one (.cmp .eq (.ix (.v 2) (.neg (.k (.int 1)))) (.call 0 (.cons (.v 3) .nil) .nil))))) (.cons t__law_times_2 .nil) (.cons t__law_times_3 .nil)
def b__law_times_1 : CSs := (.cons t__law_times_4 .nil)
def t__law_times_5 : CS := .loop (.seq (.v 1)) (.nm 3) b__law_times_1
def t__law_times_6 : CS := .ret (.bm .join0 (.k (.str [])) (.cons (.v 2) .nil))
def c__law_times : CSs := (.cons t__law_times_1 (.cons t__law_times_5 (.cons t__law_times_6 .nil)))
def g__law_times : Gam := law.gam n__law_times e__law_times 2 []
def m__law_times : FD := mFn g__law_times 2 c__law_times
theorem ck__law_times : defB g__law_times p__law_times d__law_times.scope c__law_times d__law_times.body false = true := by decide +kernel
/-! _law_pick -/
abbrev s__law_pick : Stmt := stm 30
def d__law_pick : He.DefD := ⟨("_law_pick", none), "_law_pick", "_law_pick", defArgs s__law_pick, defBody s__law_pick, defScope s__law_pick, [], []⟩
abbrev p__law_pick : List Str := ["pen", "some"]
abbrev n__law_pick : List Str := ["pen", "some"]
def e__law_pick : List Ent := [{ x := "_law_draw", kd := .fn, n := 2, np := 2, ks := [], gD := ordG [.pos 0, .pos 1] [], m := m__law_draw, la := false }]
def t__law_pick_1 : CS := .ret (.ix (.v 1) (.call 0 (.cons (.v 0) (.cons (.bi .len (.cons (.v 1) .nil)) .nil)) .nil))
def c__law_pick : CSs := (.cons t__law_pick_1 .nil)
def g__law_pick : Gam := law.gam n__law_pick e__law_pick 2 []
def m__law_pick : FD := mFn g__law_pick 2 c__law_pick
theorem ck__law_pick : defB g__law_pick p__law_pick d__law_pick.scope c__law_pick d__law_pick.body false = true := by decide +kernel
/-! _law_word -/
abbrev s__law_word : Stmt := stm 34
def d__law_word : He.DefD := ⟨("_law_word", none), "_law_word", "_law_word", defArgs s__law_word, defBody s__law_word, defScope s__law_word, [], []⟩
abbrev p__law_word : List Str := ["pen", "most"]
abbrev n__law_word : List Str := ["pen", "most", "found", "lap"]
def e__law_word : List Ent := [{ x := "_law_draw", kd := .fn, n := 2, np := 2, ks := [], gD := ordG [.pos 0, .pos 1] [], m := m__law_draw, la := false },
  { x := "_law_times", kd := .fn, n := 2, np := 2, ks := [], gD := ordG [.pos 0, .pos 1] [], m := m__law_times, la := false },
  { x := "_law_pick", kd := .fn, n := 2, np := 2, ks := [], gD := ordG [.pos 0, .pos 1] [], m := m__law_pick, la := false }]
def t__law_word_1 : CS := .asg (.nm 2) (.k (.str []))
def t__law_word_2 : CS := .asg (.nm 2) (.call 1 (.cons (.v 2) (.cons (.call 2 (.cons (.v 0) (.cons (.lst (.cons (.k (.str [65])) (.cons (.k (.str [66])) (.cons (.k (.str [97])) (.cons (.k (.str [98])) .nil))))) .nil)) .nil) .nil)) .nil)
def b__law_word_1 : CSs := (.cons t__law_word_2 .nil)
def t__law_word_3 : CS := .loop (.rng1 (.call 0 (.cons (.v 0) (.cons (.bin .add (.v 1) (.k (.int 1))) .nil)) .nil)) (.nm 3) b__law_word_1
def t__law_word_4 : CS := .ret (.v 2)
def c__law_word : CSs := (.cons t__law_word_1 (.cons t__law_word_3 (.cons t__law_word_4 .nil)))
def g__law_word : Gam := law.gam n__law_word e__law_word 4 []
def m__law_word : FD := mFn g__law_word 2 c__law_word
theorem ck__law_word : defB g__law_word p__law_word d__law_word.scope c__law_word d__law_word.body false = true := by decide +kernel
/-! is_word -/
abbrev s_is_word : Stmt := stm 17
def d_is_word : He.DefD := ⟨("is_word", none), "is_word", "is_word", defArgs s_is_word, defBody s_is_word, defScope s_is_word, [], []⟩
abbrev p_is_word : List Str := ["value"]
abbrev n_is_word : List Str := ["value", ".0", "sign", "one", "other"]
def e_is_word : List Ent := []
def q_is_word_1 : CE := .lc false (.seq (.v 0)) (.nm 2) (.yes) (.cmp .inS (.v 2) (.k (.str [65, 66, 97, 98]))) [(".0", 1), ("sign", 2)]
def t_is_word_1 : CS := .ret (.k (.bl false))
def t_is_word_2 : CS := .ite (.or (.cons (.not (.val (.bi .isi (.cons (.v 0) (.cons (.k (.ty "str")) .nil))))) (.one (.not (.val (.bi .all (.cons (q_is_word_1) .nil))))))) (.cons t_is_word_1 .nil) .nil
def q_is_word_2 : CE := .lc false (.zip (.v 0) (.sl (.v 0) (.som (.k (.int 1))) .no)) (.tup (.cons (.nm 3) (.cons (.nm 4) .nil))) (.yes) (.cmp .eq (.v 3) (.bm .swapcase (.v 4) .nil)) [(".0", 1), ("one", 3), ("other", 4)]
def t_is_word_3 : CS := .ret (.not (.bi .any (.cons (q_is_word_2) .nil)))
def c_is_word : CSs := (.cons t_is_word_2 (.cons t_is_word_3 .nil))
def g_is_word : Gam := law.gam n_is_word e_is_word 0 []
def m_is_word : FD := mFn g_is_word 1 c_is_word
theorem ck_is_word : defB g_is_word p_is_word d_is_word.scope c_is_word d_is_word.body false = true := by decide +kernel
/-! need_word -/
abbrev s_need_word : Stmt := stm 18
def d_need_word : He.DefD := ⟨("need_word", none), "need_word", "need_word", defArgs s_need_word, defBody s_need_word, defScope s_need_word, [], []⟩
abbrev p_need_word : List Str := ["value"]
abbrev n_need_word : List Str := ["value"]
def e_need_word : List Ent := [{ x := "is_word", kd := .fn, n := 1, np := 1, ks := [], gD := ordG [.pos 0] [], m := m_is_word, la := false }]
def t_need_word_1 : CS := .rse 0 "value" (.v 0)
def t_need_word_2 : CS := .ite (.not (.val (.call 0 (.cons (.v 0) .nil) .nil))) (.cons t_need_word_1 .nil) .nil
def c_need_word : CSs := (.cons t_need_word_2 .nil)
def g_need_word : Gam := law.gam n_need_word e_need_word 2 []
def m_need_word : FD := mFn g_need_word 1 c_need_word
theorem ck_need_word : defB g_need_word p_need_word d_need_word.scope c_need_word d_need_word.body false = true := by decide +kernel
/-! struck -/
abbrev s_struck : Stmt := stm 20
def d_struck : He.DefD := ⟨("struck", none), "struck", "struck", defArgs s_struck, defBody s_struck, defScope s_struck, [], []⟩
abbrev p_struck : List Str := ["one", "other"]
abbrev n_struck : List Str := ["one", "other", "many"]
def e_struck : List Ent := []
def t_struck_1 : CS := .asg (.nm 2) (.k (.int 0))
def t_struck_2 : CS := .aug .add 2 (.k (.int 1))
def b_struck_1 : CSs := (.cons t_struck_2 .nil)
def t_struck_3 : CS := .whl 1000000000000 (.and (.cons (.cmp .lt (.v 2) (.bi .min2 (.cons (.bi .len (.cons (.v 0) .nil)) (.cons (.bi .len (.cons (.v 1) .nil)) .nil)))) (.one (.cmp .eq (.ix (.v 0) (.bin .sub (.bin .sub (.bi .len (.cons (.v 0) .nil)) (.k (.int 1))) (.v 2))) (.bm .swapcase (.ix (.v 1) (.v 2)) .nil))))) b_struck_1
def t_struck_4 : CS := .ret (.bin .add (.sl (.v 0) .no (.som (.bin .sub (.bi .len (.cons (.v 0) .nil)) (.v 2)))) (.sl (.v 1) (.som (.v 2)) .no))
def c_struck : CSs := (.cons t_struck_1 (.cons t_struck_3 (.cons t_struck_4 .nil)))
def g_struck : Gam := law.gam n_struck e_struck 0 []
def m_struck : FD := mFn g_struck 2 c_struck
theorem ck_struck : defB g_struck p_struck d_struck.scope c_struck d_struck.body false = true := by decide +kernel
/-! product -/
abbrev s_product : Stmt := stm 21
def d_product : He.DefD := ⟨("product", none), "product", "product", defArgs s_product, defBody s_product, defScope s_product, [], []⟩
abbrev p_product : List Str := ["one", "other"]
abbrev n_product : List Str := ["one", "other"]
def e_product : List Ent := [{ x := "need_word", kd := .fn, n := 1, np := 1, ks := [], gD := ordG [.pos 0] [], m := m_need_word, la := false },
  { x := "struck", kd := .fn, n := 2, np := 2, ks := [], gD := ordG [.pos 0, .pos 1] [], m := m_struck, la := false }]
def t_product_1 : CS := .expr (.call 0 (.cons (.v 0) .nil) .nil)
def t_product_2 : CS := .expr (.call 0 (.cons (.v 1) .nil) .nil)
def t_product_3 : CS := .ret (.call 1 (.cons (.v 0) (.cons (.v 1) .nil)) .nil)
def c_product : CSs := (.cons t_product_1 (.cons t_product_2 (.cons t_product_3 .nil)))
def g_product : Gam := law.gam n_product e_product 4 []
def m_product : FD := mFn g_product 2 c_product
theorem ck_product : defB g_product p_product d_product.scope c_product d_product.body false = true := by decide +kernel
/-! undone -/
abbrev s_undone : Stmt := stm 22
def d_undone : He.DefD := ⟨("undone", none), "undone", "undone", defArgs s_undone, defBody s_undone, defScope s_undone, [], []⟩
abbrev p_undone : List Str := ["word"]
abbrev n_undone : List Str := ["word"]
def e_undone : List Ent := [{ x := "need_word", kd := .fn, n := 1, np := 1, ks := [], gD := ordG [.pos 0] [], m := m_need_word, la := false }]
def t_undone_1 : CS := .expr (.call 0 (.cons (.v 0) .nil) .nil)
def t_undone_2 : CS := .ret (.bm .swapcase (.rev (.v 0)) .nil)
def c_undone : CSs := (.cons t_undone_1 (.cons t_undone_2 .nil))
def g_undone : Gam := law.gam n_undone e_undone 4 []
def m_undone : FD := mFn g_undone 1 c_undone
theorem ck_undone : defB g_undone p_undone d_undone.scope c_undone d_undone.body false = true := by decide +kernel
/-! reduced -/
abbrev s_reduced : Stmt := stm 19
def d_reduced : He.DefD := ⟨("reduced", none), "reduced", "reduced", defArgs s_reduced, defBody s_reduced, defScope s_reduced, [], []⟩
abbrev p_reduced : List Str := ["letters"]
abbrev n_reduced : List Str := ["letters", "sign", "found", ".0"]
def e_reduced : List Ent := []
def q_reduced_1 : CE := .lc false (.seq (.v 0)) (.nm 1) (.yes) (.cmp .inS (.v 1) (.k (.str [65, 66, 97, 98]))) [(".0", 3), ("sign", 1)]
def t_reduced_1 : CS := .rse 0 "value" (.v 0)
def t_reduced_2 : CS := .ite (.or (.cons (.not (.val (.bi .isi (.cons (.v 0) (.cons (.k (.ty "str")) .nil))))) (.one (.not (.val (.bi .all (.cons (q_reduced_1) .nil))))))) (.cons t_reduced_1 .nil) .nil
def t_reduced_3 : CS := .asg (.nm 2) (.lstM .nil)
def t_reduced_4 : CS := .expr (.bm .pop (.v 2) .nil)
def t_reduced_5 : CS := .expr (.bm .append (.v 2) (.cons (.v 1) .nil))
def t_reduced_6 : CS := .ite (.and (.cons (.cmp .ne (.v 2) (.lst .nil)) (.one (.cmp .eq (.ix (.v 2) (.neg (.k (.int 1)))) (.bm .swapcase (.v 1) .nil))))) (.cons t_reduced_4 .nil) (.cons t_reduced_5 .nil)
def b_reduced_1 : CSs := (.cons t_reduced_6 .nil)
def t_reduced_7 : CS := .loop (.seq (.v 0)) (.nm 1) b_reduced_1
def t_reduced_8 : CS := .ret (.bm .join0 (.k (.str [])) (.cons (.v 2) .nil))
def c_reduced : CSs := (.cons t_reduced_2 (.cons t_reduced_3 (.cons t_reduced_7 (.cons t_reduced_8 .nil))))
def g_reduced : Gam := law.gam n_reduced e_reduced 0 []
def m_reduced : FD := mFn g_reduced 1 c_reduced
theorem ck_reduced : defB g_reduced p_reduced d_reduced.scope c_reduced d_reduced.body false = true := by decide +kernel
/-! _law_struck -/
abbrev s__law_struck : Stmt := stm 36
def d__law_struck : He.DefD := ⟨("_law_struck", none), "_law_struck", "_law_struck", defArgs s__law_struck, defBody s__law_struck, defScope s__law_struck, [], []⟩
abbrev p__law_struck : List Str := ["pen", "signs"]
abbrev n__law_struck : List Str := ["pen", "signs", "at", "spots", ".0"]
def e__law_struck : List Ent := [{ x := "_law_undo", kd := .fn, n := 1, np := 1, ks := [], gD := ordG [.pos 0] [], m := m__law_undo, la := false },
  { x := "_law_pick", kd := .fn, n := 2, np := 2, ks := [], gD := ordG [.pos 0, .pos 1] [], m := m__law_pick, la := false }]
def q__law_struck_1 : CE := .lc false (.rng2 (.k (.int 1)) (.bi .len (.cons (.v 1) .nil))) (.nm 2) (.cmp .eq (.ix (.v 1) (.v 2)) (.call 0 (.cons (.ix (.v 1) (.bin .sub (.v 2) (.k (.int 1)))) .nil) .nil)) (.v 2) [(".0", 4), ("at", 2)]
def t__law_struck_1 : CS := .asgL 3 (q__law_struck_1)
def t__law_struck_2 : CS := .asg (.nm 2) (.call 1 (.cons (.v 0) (.cons (.v 3) .nil)) .nil)
def t__law_struck_3 : CS := .asg (.nm 1) (.bin .add (.sl (.v 1) .no (.som (.bin .sub (.v 2) (.k (.int 1))))) (.sl (.v 1) (.som (.bin .add (.v 2) (.k (.int 1)))) .no))
def q__law_struck_2 : CE := .lc false (.rng2 (.k (.int 1)) (.bi .len (.cons (.v 1) .nil))) (.nm 2) (.cmp .eq (.ix (.v 1) (.v 2)) (.call 0 (.cons (.ix (.v 1) (.bin .sub (.v 2) (.k (.int 1)))) .nil) .nil)) (.v 2) [(".0", 4), ("at", 2)]
def t__law_struck_4 : CS := .asgL 3 (q__law_struck_2)
def b__law_struck_1 : CSs := (.cons t__law_struck_2 (.cons t__law_struck_3 (.cons t__law_struck_4 .nil)))
def t__law_struck_5 : CS := .whl 1000000000000 (.cmp .ne (.v 3) (.lst .nil)) b__law_struck_1
def t__law_struck_6 : CS := .ret (.v 1)
def c__law_struck : CSs := (.cons t__law_struck_1 (.cons t__law_struck_5 (.cons t__law_struck_6 .nil)))
def g__law_struck : Gam := law.gam n__law_struck e__law_struck 4 []
def m__law_struck : FD := mFn g__law_struck 2 c__law_struck
theorem ck__law_struck : defB g__law_struck p__law_struck d__law_struck.scope c__law_struck d__law_struck.body false = true := by decide +kernel
/-! ahead -/
abbrev s_ahead : Stmt := stm 23
def d_ahead : He.DefD := ⟨("ahead", none), "ahead", "ahead", defArgs s_ahead, defBody s_ahead, defScope s_ahead, [], []⟩
abbrev p_ahead : List Str := ["word"]
abbrev n_ahead : List Str := ["word"]
def e_ahead : List Ent := [{ x := "need_word", kd := .fn, n := 1, np := 1, ks := [], gD := ordG [.pos 0] [], m := m_need_word, la := false }]
def t_ahead_1 : CS := .expr (.call 0 (.cons (.v 0) .nil) .nil)
def t_ahead_2 : CS := .ret (.tup (.cons (.bi .len (.cons (.v 0) .nil)) (.cons (.v 0) .nil)))
def c_ahead : CSs := (.cons t_ahead_1 (.cons t_ahead_2 .nil))
def g_ahead : Gam := law.gam n_ahead e_ahead 4 []
def m_ahead : FD := mFn g_ahead 1 c_ahead
theorem ck_ahead : defB g_ahead p_ahead d_ahead.scope c_ahead d_ahead.body false = true := by decide +kernel
/-! _law_words -/
abbrev s__law_words : Stmt := stm 33
def d__law_words : He.DefD := ⟨("_law_words", none), "_law_words", "_law_words", defArgs s__law_words, defBody s__law_words, defScope s__law_words, [], []⟩
abbrev p__law_words : List Str := ["most"]
abbrev n__law_words : List Str := ["most", "found", "line", "lap", "later", "word", ".0", "sign"]
def e__law_words : List Ent := [{ x := "_law_undo", kd := .fn, n := 1, np := 1, ks := [], gD := ordG [.pos 0] [], m := m__law_undo, la := false }]
def t__law_words_1 : CS := .par 1 2 (.cons (.lst (.cons (.k (.str [])) .nil)) (.cons (.lst (.cons (.k (.str [])) .nil)) .nil))
def t__law_words_2 : CS := .asg (.nm 4) (.lst .nil)
def q__law_words_1 : CE := .lc false (.seq (.k (.str [65, 66, 97, 98]))) (.nm 7) (.or (.cons (.cmp .eq (.v 5) (.k (.str []))) (.one (.cmp .ne (.v 7) (.call 0 (.cons (.ix (.v 5) (.neg (.k (.int 1)))) .nil) .nil))))) (.bin .add (.v 5) (.v 7)) [(".0", 6), ("sign", 7)]
def t__law_words_3 : CS := .asg (.nm 4) (.bin .add (.v 4) (q__law_words_1))
def b__law_words_1 : CSs := (.cons t__law_words_3 .nil)
def t__law_words_4 : CS := .loop (.seq (.v 2)) (.nm 5) b__law_words_1
def t__law_words_5 : CS := .asg (.nm 2) (.v 4)
def t__law_words_6 : CS := .asg (.nm 1) (.bin .add (.v 1) (.v 2))
def b__law_words_2 : CSs := (.cons t__law_words_2 (.cons t__law_words_4 (.cons t__law_words_5 (.cons t__law_words_6 .nil))))
def t__law_words_7 : CS := .loop (.rng1 (.v 0)) (.nm 3) b__law_words_2
def t__law_words_8 : CS := .ret (.v 1)
def c__law_words : CSs := (.cons t__law_words_1 (.cons t__law_words_7 (.cons t__law_words_8 .nil)))
def g__law_words : Gam := law.gam n__law_words e__law_words 2 []
def m__law_words : FD := mFn g__law_words 1 c__law_words
theorem ck__law_words : defB g__law_words p__law_words d__law_words.scope c__law_words d__law_words.body false = true := by decide +kernel
/-! is_integer -/
abbrev s_is_integer : Stmt := stm 1
def d_is_integer : He.DefD := ⟨("is_integer", none), "is_integer", "is_integer", defArgs s_is_integer, defBody s_is_integer, defScope s_is_integer, [], []⟩
abbrev p_is_integer : List Str := ["value"]
abbrev n_is_integer : List Str := ["value"]
def e_is_integer : List Ent := []
def t_is_integer_1 : CS := .ret (.and (.cons (.bi .isi (.cons (.v 0) (.cons (.k (.ty "int")) .nil))) (.cons (.not (.bi .isi (.cons (.v 0) (.cons (.k (.ty "bool")) .nil)))) .nil)))
def c_is_integer : CSs := (.cons t_is_integer_1 .nil)
def g_is_integer : Gam := law.gam n_is_integer e_is_integer 0 []
def m_is_integer : FD := mFn g_is_integer 1 c_is_integer
theorem ck_is_integer : defB g_is_integer p_is_integer d_is_integer.scope c_is_integer d_is_integer.body false = true := by decide +kernel
/-! is_between -/
abbrev s_is_between : Stmt := stm 2
def d_is_between : He.DefD := ⟨("is_between", none), "is_between", "is_between", defArgs s_is_between, defBody s_is_between, defScope s_is_between, [], []⟩
abbrev p_is_between : List Str := ["value", "least", "most"]
abbrev n_is_between : List Str := ["value", "least", "most"]
def e_is_between : List Ent := [{ x := "is_integer", kd := .fn, n := 1, np := 1, ks := [], gD := ordG [.pos 0] [], m := m_is_integer, la := false }]
def t_is_between_1 : CS := .ret (.and (.cons (.call 0 (.cons (.v 0) .nil) .nil) (.cons (.chn .le .le (.v 1) (.v 0) (.v 2)) .nil)))
def c_is_between : CSs := (.cons t_is_between_1 .nil)
def g_is_between : Gam := law.gam n_is_between e_is_between 2 []
def m_is_between : FD := mFn g_is_between 3 c_is_between
theorem ck_is_between : defB g_is_between p_is_between d_is_between.scope c_is_between d_is_between.body false = true := by decide +kernel
/-! further -/
abbrev s_further : Stmt := stm 24
def d_further : He.DefD := ⟨("further", none), "further", "further", defArgs s_further, defBody s_further, defScope s_further, [], []⟩
abbrev p_further : List Str := ["word"]
abbrev n_further : List Str := ["word", ".0", "letter"]
def e_further : List Ent := [{ x := "need_word", kd := .fn, n := 1, np := 1, ks := [], gD := ordG [.pos 0] [], m := m_need_word, la := false }]
def t_further_1 : CS := .expr (.call 0 (.cons (.v 0) .nil) .nil)
def q_further_1 : CE := .lc false (.seq (.k (.str [65, 66, 97, 98]))) (.nm 2) (.or (.cons (.cmp .eq (.v 0) (.k (.str []))) (.one (.cmp .ne (.v 2) (.bm .swapcase (.ix (.v 0) (.k (.int 0))) .nil))))) (.bin .add (.v 2) (.v 0)) [(".0", 1), ("letter", 2)]
def t_further_2 : CS := .ret (.bi .tuple (.cons (q_further_1) .nil))
def c_further : CSs := (.cons t_further_1 (.cons t_further_2 .nil))
def g_further : Gam := law.gam n_further e_further 4 []
def m_further : FD := mFn g_further 1 c_further
theorem ck_further : defB g_further p_further d_further.scope c_further d_further.body false = true := by decide +kernel
/-! words_of -/
abbrev s_words_of : Stmt := stm 25
def d_words_of : He.DefD := ⟨("words_of", none), "words_of", "words_of", defArgs s_words_of, defBody s_words_of, defScope s_words_of, [], []⟩
abbrev p_words_of : List Str := ["size"]
abbrev n_words_of : List Str := ["size", "found", "_", ".0", "word", "one"]
def e_words_of : List Ent := [{ x := "is_between", kd := .fn, n := 3, np := 3, ks := [], gD := ordG [.pos 0, .pos 1, .pos 2] [], m := m_is_between, la := false },
  { x := "further", kd := .fn, n := 1, np := 1, ks := [], gD := ordG [.pos 0] [], m := m_further, la := false }]
def t_words_of_1 : CS := .rse 1 "value" (.v 0)
def t_words_of_2 : CS := .ite (.not (.val (.call 0 (.cons (.v 0) (.cons (.k (.int 0)) (.cons (.k (.int 6)) .nil))) .nil))) (.cons t_words_of_1 .nil) .nil
def t_words_of_3 : CS := .asg (.nm 1) (.tup (.cons (.k (.str [])) .nil))
def q_words_of_1 : CE := .lc2 false (.seq (.v 1)) (.nm 4) (.yes) (.seq (.call 1 (.cons (.v 4) .nil) .nil)) (.nm 5) (.yes) (.tup (.cons (.v 5) (.cons (.v 4) .nil))) [(".0", 3), ("word", 4), ("one", 5)] [5]
def t_words_of_4 : CS := .asgL 1 (q_words_of_1)
def q_words_of_2 : CE := .lc false (.seq (.v 1)) (.tup (.cons (.nm 5) (.cons (.nm 2) .nil))) (.yes) (.v 5) [(".0", 3), ("one", 5), ("_", 2)]
def t_words_of_5 : CS := .asg (.nm 1) (.bi .tuple (.cons (.bi .sorted (.cons (q_words_of_2) .nil)) .nil))
def b_words_of_1 : CSs := (.cons t_words_of_4 (.cons t_words_of_5 .nil))
def t_words_of_6 : CS := .loop (.rng1 (.v 0)) (.nm 2) b_words_of_1
def t_words_of_7 : CS := .ret (.v 1)
def c_words_of : CSs := (.cons t_words_of_2 (.cons t_words_of_3 (.cons t_words_of_6 (.cons t_words_of_7 .nil))))
def g_words_of : Gam := law.gam n_words_of e_words_of 6 []
def m_words_of : FD := mFn g_words_of 1 c_words_of
theorem ck_words_of : defB g_words_of p_words_of d_words_of.scope c_words_of d_words_of.body false = true := by decide +kernel
/-! words_upto -/
abbrev s_words_upto : Stmt := stm 26
def d_words_upto : He.DefD := ⟨("words_upto", none), "words_upto", "words_upto", defArgs s_words_upto, defBody s_words_upto, defScope s_words_upto, [], []⟩
abbrev p_words_upto : List Str := ["size"]
abbrev n_words_upto : List Str := ["size", ".0", "many", "word"]
def e_words_upto : List Ent := [{ x := "is_between", kd := .fn, n := 3, np := 3, ks := [], gD := ordG [.pos 0, .pos 1, .pos 2] [], m := m_is_between, la := false },
  { x := "words_of", kd := .fn, n := 1, np := 1, ks := [], gD := ordG [.pos 0] [], m := m_words_of, la := false }]
def t_words_upto_1 : CS := .rse 1 "value" (.v 0)
def t_words_upto_2 : CS := .ite (.not (.val (.call 0 (.cons (.v 0) (.cons (.k (.int 0)) (.cons (.k (.int 6)) .nil))) .nil))) (.cons t_words_upto_1 .nil) .nil
def q_words_upto_1 : CE := .lc2 false (.rng1 (.bin .add (.v 0) (.k (.int 1)))) (.nm 2) (.yes) (.seq (.call 1 (.cons (.v 2) .nil) .nil)) (.nm 3) (.yes) (.v 3) [(".0", 1), ("many", 2), ("word", 3)] [3]
def t_words_upto_3 : CS := .ret (.bi .tuple (.cons (q_words_upto_1) .nil))
def c_words_upto : CSs := (.cons t_words_upto_2 (.cons t_words_upto_3 .nil))
def g_words_upto : Gam := law.gam n_words_upto e_words_upto 8 []
def m_words_upto : FD := mFn g_words_upto 1 c_words_upto
theorem ck_words_upto : defB g_words_upto p_words_upto d_words_upto.scope c_words_upto d_words_upto.body false = true := by decide +kernel
/-! _law_heard -/
abbrev s__law_heard : Stmt := stm 35
def d__law_heard : He.DefD := ⟨("_law_heard", none), "_law_heard", "_law_heard", defArgs s__law_heard, defBody s__law_heard, defScope s__law_heard, [], []⟩
abbrev p__law_heard : List Str := ["ask"]
abbrev n__law_heard : List Str := ["ask", "caught", "error"]
def e__law_heard : List Ent := []
def t__law_heard_1 : CS := .asg (.nm 1) (.k .non)
def t__law_heard_2 : CS := .expr (.ask 0)
def t__law_heard_3 : CS := .tryK 2 "TurnError" (.cons t__law_heard_2 .nil) [(1, 2)]
def t__law_heard_4 : CS := .ret (.k .non)
def t__law_heard_5 : CS := .ite (.isN false (.v 1)) (.cons t__law_heard_4 .nil) .nil
def t__law_heard_6 : CS := .ret (.tup (.cons (.k (.str [119, 111, 114, 100])) (.cons (.fldX [0] "value" (.v 1)) .nil)))
def t__law_heard_7 : CS := .ite (.val (.bi .isi (.cons (.v 1) (.cons (.k (.cls 0)) .nil)))) (.cons t__law_heard_6 .nil) .nil
def t__law_heard_8 : CS := .ret (.tup (.cons (.k (.str [103, 114, 111, 119, 116, 104])) (.cons (.fldX [] "part" (.v 1)) .nil)))
def t__law_heard_9 : CS := .ite (.val (.bi .isi (.cons (.v 1) (.cons (.k (.cls 3)) .nil)))) (.cons t__law_heard_8 .nil) .nil
def t__law_heard_10 : CS := .ret (.tup (.cons (.k (.str [110, 117, 109, 98, 101, 114])) (.cons (.fldX [1] "value" (.v 1)) .nil)))
def t__law_heard_11 : CS := .ite (.val (.bi .isi (.cons (.v 1) (.cons (.k (.cls 1)) .nil)))) (.cons t__law_heard_10 .nil) .nil
def t__law_heard_12 : CS := .ret (.tup (.cons (.k (.str [108, 111, 116])) (.cons (.fldX [] "part" (.v 1)) .nil)))
def t__law_heard_13 : CS := .ite (.val (.bi .isi (.cons (.v 1) (.cons (.k (.cls 4)) .nil)))) (.cons t__law_heard_12 .nil) .nil
def t__law_heard_14 : CS := .ret (.tup (.cons (.k (.str [116, 97, 115, 107])) (.cons (.fldX [] "part" (.v 1)) .nil)))
def t__law_heard_15 : CS := .ite (.val (.bi .isi (.cons (.v 1) (.cons (.k (.cls 5)) .nil)))) (.cons t__law_heard_14 .nil) .nil
def t__law_heard_16 : CS := .ret (.tup (.cons (.k (.str [116, 101, 120, 116])) (.cons (.fldX [] "line" (.v 1)) (.cons (.fldX [] "word" (.v 1)) .nil))))
def t__law_heard_17 : CS := .ite (.val (.bi .isi (.cons (.v 1) (.cons (.k (.cls 6)) .nil)))) (.cons t__law_heard_16 .nil) .nil
def t__law_heard_18 : CS := .ret (.tup (.cons (.k (.str [117, 110, 108, 105, 107, 101])) (.cons (.fldX [] "part" (.v 1)) .nil)))
def t__law_heard_19 : CS := .ite (.val (.bi .isi (.cons (.v 1) (.cons (.k (.cls 7)) .nil)))) (.cons t__law_heard_18 .nil) .nil
def t__law_heard_20 : CS := .ret (.tup (.cons (.k (.str [109, 97, 110, 121])) (.cons (.fldX [] "what" (.v 1)) (.cons (.fldX [] "most" (.v 1)) .nil))))
def t__law_heard_21 : CS := .ite (.val (.bi .isi (.cons (.v 1) (.cons (.k (.cls 8)) .nil)))) (.cons t__law_heard_20 .nil) .nil
def t__law_heard_22 : CS := .ret (.ite (.val (.bi .isi (.cons (.v 1) (.cons (.k (.cls 9)) .nil)))) (.tup (.cons (.k (.str [110, 111, 116, 104, 105, 110, 103])) .nil)) (.tup (.cons (.k (.str [111, 116, 104, 101, 114])) .nil)))
def c__law_heard : CSs := (.cons t__law_heard_1 (.cons t__law_heard_3 (.cons t__law_heard_5 (.cons t__law_heard_7 (.cons t__law_heard_9 (.cons t__law_heard_11 (.cons t__law_heard_13 (.cons t__law_heard_15 (.cons t__law_heard_17 (.cons t__law_heard_19 (.cons t__law_heard_21 (.cons t__law_heard_22 .nil))))))))))))
def gA__law_heard (ask : List M → ER) : Gam := law.gam n__law_heard e__law_heard 0 [] (some "ask") ask
abbrev l__law_heard : LamI := ⟨"_law_heard", "ask", n__law_heard, s__law_heard, fun ask => evSs (gA__law_heard ask) c__law_heard⟩
theorem ck__law_heard (ask : List M → ER) : ckSs (gA__law_heard ask) ⟨defScope s__law_heard, none, false, false⟩ c__law_heard (defBody s__law_heard) = true := by kernel_rfl
/-! law -/
abbrev s_law : Stmt := stm 37
def d_law : He.DefD := ⟨("law", none), "law", "law", defArgs s_law, defBody s_law, defScope s_law, [], []⟩
abbrev p_law : List Str := ["script"]
abbrev n_law : List Str := ["script", "pen", "turn", "one", "two", "three", "signs", "size", "every", "word", "due", "some", "later", "odd", ".0", "lap"]
def e_law : List Ent := [{ x := "_law_pen", kd := .fn, n := 1, np := 1, ks := [], gD := ordG [.pos 0] [], m := m__law_pen, la := false },
  { x := "_law_word", kd := .fn, n := 2, np := 2, ks := [], gD := ordG [.pos 0, .pos 1] [], m := m__law_word, la := false },
  { x := "product", kd := .fn, n := 2, np := 2, ks := [], gD := ordG [.pos 0, .pos 1] [], m := m_product, la := false },
  { x := "undone", kd := .fn, n := 1, np := 1, ks := [], gD := ordG [.pos 0] [], m := m_undone, la := false },
  { x := "_law_draw", kd := .fn, n := 2, np := 2, ks := [], gD := ordG [.pos 0, .pos 1] [], m := m__law_draw, la := false },
  { x := "_law_pick", kd := .fn, n := 2, np := 2, ks := [], gD := ordG [.pos 0, .pos 1] [], m := m__law_pick, la := false },
  { x := "reduced", kd := .fn, n := 1, np := 1, ks := [], gD := ordG [.pos 0] [], m := m_reduced, la := false },
  { x := "_law_struck", kd := .fn, n := 2, np := 2, ks := [], gD := ordG [.pos 0, .pos 1] [], m := m__law_struck, la := false },
  { x := "ahead", kd := .fn, n := 1, np := 1, ks := [], gD := ordG [.pos 0] [], m := m_ahead, la := false },
  { x := "_law_words", kd := .fn, n := 1, np := 1, ks := [], gD := ordG [.pos 0] [], m := m__law_words, la := false },
  { x := "words_of", kd := .fn, n := 1, np := 0, ks := ["size"], gD := ordG [.kw 0] [], m := m_words_of, la := false },
  { x := "words_of", kd := .fn, n := 1, np := 1, ks := [], gD := ordG [.pos 0] [], m := m_words_of, la := false },
  { x := "words_upto", kd := .fn, n := 1, np := 0, ks := ["size"], gD := ordG [.kw 0] [], m := m_words_upto, la := false },
  { x := "further", kd := .fn, n := 1, np := 1, ks := [], gD := ordG [.pos 0] [], m := m_further, la := false },
  { x := "words_upto", kd := .fn, n := 1, np := 1, ks := [], gD := ordG [.pos 0] [], m := m_words_upto, la := false }]
def t_law_1 : CS := .asg (.nm 1) (.call 0 (.cons (.v 0) .nil) .nil)
def t_law_2 : CS := .par3 3 4 5 (.cons (.call 1 (.cons (.v 1) (.cons (.k (.int 20)) .nil)) .nil) (.cons (.call 1 (.cons (.v 1) (.cons (.k (.int 20)) .nil)) .nil) (.cons (.call 1 (.cons (.v 1) (.cons (.k (.int 9)) .nil)) .nil) .nil)))
def t_law_3 : CS := .ret (.k (.bl false))
def t_law_4 : CS := .ite (.or (.cons (.cmp .ne (.call 2 (.cons (.call 2 (.cons (.v 3) (.cons (.v 4) .nil)) .nil) (.cons (.v 5) .nil)) .nil) (.call 2 (.cons (.v 3) (.cons (.call 2 (.cons (.v 4) (.cons (.v 5) .nil)) .nil) .nil)) .nil)) (.cons (.cmp .ne (.call 2 (.cons (.v 3) (.cons (.k (.str [])) .nil)) .nil) (.v 3)) (.one (.cmp .ne (.call 2 (.cons (.k (.str [])) (.cons (.v 3) .nil)) .nil) (.v 3)))))) (.cons t_law_3 .nil) .nil
def t_law_5 : CS := .ret (.k (.bl false))
def t_law_6 : CS := .ite (.or (.cons (.cmp .ne (.call 2 (.cons (.v 3) (.cons (.call 3 (.cons (.v 3) .nil) .nil) .nil)) .nil) (.k (.str []))) (.cons (.cmp .ne (.call 3 (.cons (.call 2 (.cons (.v 3) (.cons (.v 4) .nil)) .nil) .nil) .nil) (.call 2 (.cons (.call 3 (.cons (.v 4) .nil) .nil) (.cons (.call 3 (.cons (.v 3) .nil) .nil) .nil)) .nil)) (.one (.cmp .ne (.call 3 (.cons (.call 3 (.cons (.v 4) .nil) .nil) .nil) .nil) (.v 4)))))) (.cons t_law_5 .nil) .nil
def q_law_1 : CE := .lc false (.rng1 (.call 4 (.cons (.v 1) (.cons (.k (.int 24)) .nil)) .nil)) (.nm 15) (.yes) (.call 5 (.cons (.v 1) (.cons (.lst (.cons (.k (.str [65])) (.cons (.k (.str [66])) (.cons (.k (.str [97])) (.cons (.k (.str [98])) .nil))))) .nil)) .nil) [(".0", 14), ("lap", 15)]
def t_law_7 : CS := .asg (.nm 6) (.bm .join0 (.k (.str [])) (.cons (q_law_1) .nil))
def t_law_8 : CS := .ret (.k (.bl false))
def t_law_9 : CS := .ite (.cmp .ne (.call 6 (.cons (.v 6) .nil) .nil) (.call 7 (.cons (.v 1) (.cons (.v 6) .nil)) .nil)) (.cons t_law_8 .nil) .nil
def t_law_10 : CS := .ret (.k (.bl false))
def t_law_11 : CS := .ite (.cmp .ne (.cmp .ltD (.call 8 (.cons (.v 3) .nil) .nil) (.call 8 (.cons (.v 4) .nil) .nil)) (.or (.cons (.cmp .lt (.bi .len (.cons (.v 3) .nil)) (.bi .len (.cons (.v 4) .nil))) (.cons (.and (.cons (.cmp .eq (.bi .len (.cons (.v 3) .nil)) (.bi .len (.cons (.v 4) .nil))) (.cons (.cmp .ltD (.v 3) (.v 4)) .nil))) .nil)))) (.cons t_law_10 .nil) .nil
def b_law_1 : CSs := (.cons t_law_2 (.cons t_law_4 (.cons t_law_6 (.cons t_law_7 (.cons t_law_9 (.cons t_law_11 .nil))))))
def t_law_12 : CS := .loop (.rng1 (.k (.int 10))) (.nm 2) b_law_1
def t_law_13 : CS := .asg (.tup (.cons (.nm 7) (.cons (.nm 8) .nil))) (.tup (.cons (.call 4 (.cons (.v 1) (.cons (.k (.int 7)) .nil)) .nil) (.cons (.call 9 (.cons (.k (.int 6)) .nil) .nil) .nil)))
def q_law_2 : CE := .lc false (.seq (.v 8)) (.nm 9) (.cmp .eq (.bi .len (.cons (.v 9) .nil)) (.v 7)) (.v 9) [(".0", 14), ("word", 9)]
def t_law_14 : CS := .asg (.nm 10) (.bi .tuple (.cons (q_law_2) .nil))
def q_law_3 : CE := .lc false (.seq (.v 8)) (.nm 9) (.cmp .le (.bi .len (.cons (.v 9) .nil)) (.v 7)) (.v 9) [(".0", 14), ("word", 9)]
def t_law_15 : CS := .ret (.k (.bl false))
def t_law_16 : CS := .ite (.or (.cons (.cmp .ne (.bi .repr (.cons (.lst (.cons (.call 11 (.cons (.v 7) .nil) .nil) (.cons (.call 10 .nil (.cons (.v 7) .nil)) .nil))) .nil)) (.bi .repr (.cons (.lst (.cons (.v 10) (.cons (.v 10) .nil))) .nil))) (.one (.cmp .ne (.bi .repr (.cons (.call 12 .nil (.cons (.v 7) .nil)) .nil)) (.bi .repr (.cons (.bi .tuple (.cons (q_law_3) .nil)) .nil)))))) (.cons t_law_15 .nil) .nil
def t_law_17 : CS := .asg (.nm 11) (.call 11 (.cons (.bi .min2 (.cons (.v 7) (.cons (.k (.int 4)) .nil))) .nil) .nil)
def t_law_18 : CS := .asg (.nm 12) (.lst .nil)
def t_law_19 : CS := .asg (.nm 12) (.bin .add (.v 12) (.bi .list (.cons (.call 13 (.cons (.v 9) .nil) .nil) .nil)))
def b_law_2 : CSs := (.cons t_law_19 .nil)
def t_law_20 : CS := .loop (.seq (.v 11)) (.nm 9) b_law_2
def t_law_21 : CS := .ret (.k (.bl false))
def t_law_22 : CS := .ite (.cmp .ne (.bi .sorted (.cons (.v 12) .nil)) (.bi .list (.cons (.call 11 (.cons (.bin .add (.bi .min2 (.cons (.v 7) (.cons (.k (.int 4)) .nil))) (.k (.int 1))) .nil) .nil) .nil))) (.cons t_law_21 .nil) .nil
def t_law_23 : CS := .asg (.nm 13) (.call 5 (.cons (.v 1) (.cons (.lst (.cons (.k .non) (.cons (.neg (.k (.int 1))) (.cons (.k (.int 7)) (.cons (.k (.bl true)) (.cons (.k (.str [51])) (.cons (.tup (.cons (.k (.int 2)) .nil)) (.cons (.bin .pow (.k (.int 10)) (.k (.int 9))) .nil)))))))) .nil)) .nil)
def t_law_24 : CS := .ret (.cmp .eq (.bi .repr (.cons (.lst (.cons (.lam 0 (.call 11 (.cons (.v 13) .nil) .nil)) (.cons (.lam 0 (.call 14 (.cons (.v 13) .nil) .nil)) .nil))) .nil)) (.bi .repr (.cons (.bin .mul (.lst (.cons (.tup (.cons (.k (.str [110, 117, 109, 98, 101, 114])) (.cons (.v 13) .nil))) .nil)) (.k (.int 2))) .nil)))
def c_law : CSs := (.cons t_law_1 (.cons t_law_12 (.cons t_law_13 (.cons t_law_14 (.cons t_law_16 (.cons t_law_17 (.cons t_law_18 (.cons t_law_20 (.cons t_law_22 (.cons t_law_23 (.cons t_law_24 .nil)))))))))))
def g_law : Gam := law.gam n_law e_law 10 [l__law_heard]
def m_law : FD := mFn g_law 1 c_law
theorem ck_law : defB g_law p_law d_law.scope c_law d_law.body true = true := by decide +kernel
theorem kb__law_undo_1 {K : PySem.W.Frag} : KbOk K d__law_undo p__law_undo 1 [] (ordG [.pos 0] []) := fun F => kb0 1 [] [.pos 0] (fun _ _ _ _ _ _ us ws l1 l2 => match us, ws, l1, l2 with | [u0], [], _, _ => rfl) F
theorem kb__law_draw_2 {K : PySem.W.Frag} : KbOk K d__law_draw p__law_draw 2 [] (ordG [.pos 0, .pos 1] []) := fun F => kb0 2 [] [.pos 0, .pos 1] (fun _ _ _ _ _ _ us ws l1 l2 => match us, ws, l1, l2 with | [u0, u1], [], _, _ => rfl) F
theorem kb__law_times_2 {K : PySem.W.Frag} : KbOk K d__law_times p__law_times 2 [] (ordG [.pos 0, .pos 1] []) := fun F => kb0 2 [] [.pos 0, .pos 1] (fun _ _ _ _ _ _ us ws l1 l2 => match us, ws, l1, l2 with | [u0, u1], [], _, _ => rfl) F
theorem kb__law_pick_2 {K : PySem.W.Frag} : KbOk K d__law_pick p__law_pick 2 [] (ordG [.pos 0, .pos 1] []) := fun F => kb0 2 [] [.pos 0, .pos 1] (fun _ _ _ _ _ _ us ws l1 l2 => match us, ws, l1, l2 with | [u0, u1], [], _, _ => rfl) F
theorem kb_is_word_1 {K : PySem.W.Frag} : KbOk K d_is_word p_is_word 1 [] (ordG [.pos 0] []) := fun F => kb0 1 [] [.pos 0] (fun _ _ _ _ _ _ us ws l1 l2 => match us, ws, l1, l2 with | [u0], [], _, _ => rfl) F
theorem kb_need_word_1 {K : PySem.W.Frag} : KbOk K d_need_word p_need_word 1 [] (ordG [.pos 0] []) := fun F => kb0 1 [] [.pos 0] (fun _ _ _ _ _ _ us ws l1 l2 => match us, ws, l1, l2 with | [u0], [], _, _ => rfl) F
theorem kb_struck_2 {K : PySem.W.Frag} : KbOk K d_struck p_struck 2 [] (ordG [.pos 0, .pos 1] []) := fun F => kb0 2 [] [.pos 0, .pos 1] (fun _ _ _ _ _ _ us ws l1 l2 => match us, ws, l1, l2 with | [u0, u1], [], _, _ => rfl) F
theorem kb_is_integer_1 {K : PySem.W.Frag} : KbOk K d_is_integer p_is_integer 1 [] (ordG [.pos 0] []) := fun F => kb0 1 [] [.pos 0] (fun _ _ _ _ _ _ us ws l1 l2 => match us, ws, l1, l2 with | [u0], [], _, _ => rfl) F
theorem kb_is_between_3 {K : PySem.W.Frag} : KbOk K d_is_between p_is_between 3 [] (ordG [.pos 0, .pos 1, .pos 2] []) := fun F => kb0 3 [] [.pos 0, .pos 1, .pos 2] (fun _ _ _ _ _ _ us ws l1 l2 => match us, ws, l1, l2 with | [u0, u1, u2], [], _, _ => rfl) F
theorem kb_further_1 {K : PySem.W.Frag} : KbOk K d_further p_further 1 [] (ordG [.pos 0] []) := fun F => kb0 1 [] [.pos 0] (fun _ _ _ _ _ _ us ws l1 l2 => match us, ws, l1, l2 with | [u0], [], _, _ => rfl) F
theorem kb_words_of_1 {K : PySem.W.Frag} : KbOk K d_words_of p_words_of 1 [] (ordG [.pos 0] []) := fun F => kb0 1 [] [.pos 0] (fun _ _ _ _ _ _ us ws l1 l2 => match us, ws, l1, l2 with | [u0], [], _, _ => rfl) F
theorem kb__law_pen_1 {K : PySem.W.Frag} : KbOk K d__law_pen p__law_pen 1 [] (ordG [.pos 0] []) := fun F => kb0 1 [] [.pos 0] (fun _ _ _ _ _ _ us ws l1 l2 => match us, ws, l1, l2 with | [u0], [], _, _ => rfl) F
theorem kb__law_word_2 {K : PySem.W.Frag} : KbOk K d__law_word p__law_word 2 [] (ordG [.pos 0, .pos 1] []) := fun F => kb0 2 [] [.pos 0, .pos 1] (fun _ _ _ _ _ _ us ws l1 l2 => match us, ws, l1, l2 with | [u0, u1], [], _, _ => rfl) F
theorem kb_product_2 {K : PySem.W.Frag} : KbOk K d_product p_product 2 [] (ordG [.pos 0, .pos 1] []) := fun F => kb0 2 [] [.pos 0, .pos 1] (fun _ _ _ _ _ _ us ws l1 l2 => match us, ws, l1, l2 with | [u0, u1], [], _, _ => rfl) F
theorem kb_undone_1 {K : PySem.W.Frag} : KbOk K d_undone p_undone 1 [] (ordG [.pos 0] []) := fun F => kb0 1 [] [.pos 0] (fun _ _ _ _ _ _ us ws l1 l2 => match us, ws, l1, l2 with | [u0], [], _, _ => rfl) F
theorem kb_reduced_1 {K : PySem.W.Frag} : KbOk K d_reduced p_reduced 1 [] (ordG [.pos 0] []) := fun F => kb0 1 [] [.pos 0] (fun _ _ _ _ _ _ us ws l1 l2 => match us, ws, l1, l2 with | [u0], [], _, _ => rfl) F
theorem kb__law_struck_2 {K : PySem.W.Frag} : KbOk K d__law_struck p__law_struck 2 [] (ordG [.pos 0, .pos 1] []) := fun F => kb0 2 [] [.pos 0, .pos 1] (fun _ _ _ _ _ _ us ws l1 l2 => match us, ws, l1, l2 with | [u0, u1], [], _, _ => rfl) F
theorem kb_ahead_1 {K : PySem.W.Frag} : KbOk K d_ahead p_ahead 1 [] (ordG [.pos 0] []) := fun F => kb0 1 [] [.pos 0] (fun _ _ _ _ _ _ us ws l1 l2 => match us, ws, l1, l2 with | [u0], [], _, _ => rfl) F
theorem kb__law_words_1 {K : PySem.W.Frag} : KbOk K d__law_words p__law_words 1 [] (ordG [.pos 0] []) := fun F => kb0 1 [] [.pos 0] (fun _ _ _ _ _ _ us ws l1 l2 => match us, ws, l1, l2 with | [u0], [], _, _ => rfl) F
theorem kb_words_of_0_size {K : PySem.W.Frag} : KbOk K d_words_of p_words_of 0 ["size"] (ordG [.kw 0] []) := fun F => kb0 0 ["size"] [.kw 0] (fun _ _ _ _ _ _ us ws l1 l2 => match us, ws, l1, l2 with | [], [w0], _, _ => rfl) F
theorem kb_words_upto_0_size {K : PySem.W.Frag} : KbOk K d_words_upto p_words_upto 0 ["size"] (ordG [.kw 0] []) := fun F => kb0 0 ["size"] [.kw 0] (fun _ _ _ _ _ _ us ws l1 l2 => match us, ws, l1, l2 with | [], [w0], _, _ => rfl) F
theorem kb_words_upto_1 {K : PySem.W.Frag} : KbOk K d_words_upto p_words_upto 1 [] (ordG [.pos 0] []) := fun F => kb0 1 [] [.pos 0] (fun _ _ _ _ _ _ us ws l1 l2 => match us, ws, l1, l2 with | [u0], [], _, _ => rfl) F
def fn : List He.DefD := [d__law_pen, d__law_draw, d__law_undo, d__law_times, d__law_pick, d__law_word, d_is_word, d_need_word, d_struck, d_product, d_undone, d_reduced, d__law_struck, d_ahead, d__law_words, d_is_integer, d_is_between, d_further, d_words_of, d_words_upto, d__law_heard, d_law]
def tq : Tq := [(("law", none), (envOfC "law" (defScope s_law) 0 0 .none).qual ++ "<lambda>")]
theorem pr_ok : PrOk pg law.file := ⟨by decide +kernel, by decide +kernel⟩
section
variable {w : World} {K : PySem.W.Frag} {h : Heap} {mg : Str → Option Value} {base : Heap}
structure Gd (w : World) (K : PySem.W.Frag) (h : Heap) (mg : Str → Option Value) (base : Heap) : Prop where
  X : K.In h
  G : h.Ns mainGlobals mg
  F : law.Fs K
  D : ∀ (i : Nat) (dd : He.DefD), fn[i]? = some dd → ∃ fd, FunD K dd.name dd.qual dd.params dd.body dd.scope (dd.dvs K) (dd.kws K) (He.fAd K dd.at_) fd
  T : ∀ p ∈ tq, LamX.TabB base mg (He.cT K p.1).1 (He.cT K p.1).2
  B : GamOk ⟨pg, w, mg, base, tbs tq K⟩ (law.w K (x0 tq K)) law.g0
abbrev Cx0 (w : World) (K : PySem.W.Frag) (mg : Str → Option Value) (base : Heap) : DL.Ctx := ⟨pg, w, mg, base, tbs tq K⟩
theorem ok__law_pen (Z : Gd w K h mg base) : DefOk (Cx0 w K mg base) (law.w K (x0 tq K)) K ("_law_pen", none) 1 d__law_pen p__law_pen 1 false m__law_pen := by
  obtain ⟨fd, H⟩ := Z.D 0 d__law_pen rfl
  have g : GamOk (Cx0 w K mg base) (law.w K (x0 tq K)) g__law_pen := gam_ok Z.B (by decide +kernel) (all_nil) (all_nil) (all_nil)
  exact ⟨fd, H, def_ok g H ck__law_pen⟩
theorem ok__law_draw (Z : Gd w K h mg base) : DefOk (Cx0 w K mg base) (law.w K (x0 tq K)) K ("_law_draw", none) 1 d__law_draw p__law_draw 2 false m__law_draw := by
  obtain ⟨fd, H⟩ := Z.D 1 d__law_draw rfl
  have g : GamOk (Cx0 w K mg base) (law.w K (x0 tq K)) g__law_draw := gam_ok Z.B (by decide +kernel) (all_nil) (all_nil) (all_nil)
  exact ⟨fd, H, def_ok g H ck__law_draw⟩
theorem ok__law_undo (Z : Gd w K h mg base) : DefOk (Cx0 w K mg base) (law.w K (x0 tq K)) K ("_law_undo", none) 1 d__law_undo p__law_undo 1 false m__law_undo := by
  obtain ⟨fd, H⟩ := Z.D 2 d__law_undo rfl
  have g : GamOk (Cx0 w K mg base) (law.w K (x0 tq K)) g__law_undo := gam_ok Z.B (by decide +kernel) (all_nil) (all_nil) (all_nil)
  exact ⟨fd, H, def_ok g H ck__law_undo⟩
theorem ok__law_times (Z : Gd w K h mg base) : DefOk (Cx0 w K mg base) (law.w K (x0 tq K)) K ("_law_times", none) 3 d__law_times p__law_times 2 false m__law_times := by
  obtain ⟨fd, H⟩ := Z.D 3 d__law_times rfl
  have g : GamOk (Cx0 w K mg base) (law.w K (x0 tq K)) g__law_times := gam_ok Z.B (by decide +kernel) (all_cons (ent_fn Z.F Z.X Z.G (ok__law_undo Z) kb__law_undo_1 (by decide) (by decide +kernel) rfl)
    (all_nil)) (all_cons (fun z => absurd z (by decide))
    (all_nil)) (all_nil)
  exact ⟨fd, H, def_ok g H ck__law_times⟩
theorem ok__law_pick (Z : Gd w K h mg base) : DefOk (Cx0 w K mg base) (law.w K (x0 tq K)) K ("_law_pick", none) 3 d__law_pick p__law_pick 2 false m__law_pick := by
  obtain ⟨fd, H⟩ := Z.D 4 d__law_pick rfl
  have g : GamOk (Cx0 w K mg base) (law.w K (x0 tq K)) g__law_pick := gam_ok Z.B (by decide +kernel) (all_cons (ent_fn Z.F Z.X Z.G (ok__law_draw Z) kb__law_draw_2 (by decide) (by decide +kernel) rfl)
    (all_nil)) (all_cons (fun z => absurd z (by decide))
    (all_nil)) (all_nil)
  exact ⟨fd, H, def_ok g H ck__law_pick⟩
theorem ok__law_word (Z : Gd w K h mg base) : DefOk (Cx0 w K mg base) (law.w K (x0 tq K)) K ("_law_word", none) 5 d__law_word p__law_word 2 false m__law_word := by
  obtain ⟨fd, H⟩ := Z.D 5 d__law_word rfl
  have g : GamOk (Cx0 w K mg base) (law.w K (x0 tq K)) g__law_word := gam_ok Z.B (by decide +kernel) (all_cons (ent_fn Z.F Z.X Z.G (ok__law_draw Z) kb__law_draw_2 (by decide) (by decide +kernel) rfl)
    (all_cons (ent_fn Z.F Z.X Z.G (ok__law_times Z) kb__law_times_2 (by decide) (by decide +kernel) rfl)
    (all_cons (ent_fn Z.F Z.X Z.G (ok__law_pick Z) kb__law_pick_2 (by decide) (by decide +kernel) rfl)
    (all_nil)))) (all_cons (fun z => absurd z (by decide))
    (all_cons (fun z => absurd z (by decide))
    (all_cons (fun z => absurd z (by decide))
    (all_nil)))) (all_nil)
  exact ⟨fd, H, def_ok g H ck__law_word⟩
theorem ok_is_word (Z : Gd w K h mg base) : DefOk (Cx0 w K mg base) (law.w K (x0 tq K)) K ("is_word", none) 1 d_is_word p_is_word 1 false m_is_word := by
  obtain ⟨fd, H⟩ := Z.D 6 d_is_word rfl
  have g : GamOk (Cx0 w K mg base) (law.w K (x0 tq K)) g_is_word := gam_ok Z.B (by decide +kernel) (all_nil) (all_nil) (all_nil)
  exact ⟨fd, H, def_ok g H ck_is_word⟩
theorem ok_need_word (Z : Gd w K h mg base) : DefOk (Cx0 w K mg base) (law.w K (x0 tq K)) K ("need_word", none) 3 d_need_word p_need_word 1 false m_need_word := by
  obtain ⟨fd, H⟩ := Z.D 7 d_need_word rfl
  have g : GamOk (Cx0 w K mg base) (law.w K (x0 tq K)) g_need_word := gam_ok Z.B (by decide +kernel) (all_cons (ent_fn Z.F Z.X Z.G (ok_is_word Z) kb_is_word_1 (by decide) (by decide +kernel) rfl)
    (all_nil)) (all_cons (fun z => absurd z (by decide))
    (all_nil)) (all_nil)
  exact ⟨fd, H, def_ok g H ck_need_word⟩
theorem ok_struck (Z : Gd w K h mg base) : DefOk (Cx0 w K mg base) (law.w K (x0 tq K)) K ("struck", none) 1 d_struck p_struck 2 false m_struck := by
  obtain ⟨fd, H⟩ := Z.D 8 d_struck rfl
  have g : GamOk (Cx0 w K mg base) (law.w K (x0 tq K)) g_struck := gam_ok Z.B (by decide +kernel) (all_nil) (all_nil) (all_nil)
  exact ⟨fd, H, def_ok g H ck_struck⟩
theorem ok_product (Z : Gd w K h mg base) : DefOk (Cx0 w K mg base) (law.w K (x0 tq K)) K ("product", none) 5 d_product p_product 2 false m_product := by
  obtain ⟨fd, H⟩ := Z.D 9 d_product rfl
  have g : GamOk (Cx0 w K mg base) (law.w K (x0 tq K)) g_product := gam_ok Z.B (by decide +kernel) (all_cons (ent_fn Z.F Z.X Z.G (ok_need_word Z) kb_need_word_1 (by decide) (by decide +kernel) rfl)
    (all_cons (ent_fn Z.F Z.X Z.G (ok_struck Z) kb_struck_2 (by decide) (by decide +kernel) rfl)
    (all_nil))) (all_cons (fun z => absurd z (by decide))
    (all_cons (fun z => absurd z (by decide))
    (all_nil))) (all_nil)
  exact ⟨fd, H, def_ok g H ck_product⟩
theorem ok_undone (Z : Gd w K h mg base) : DefOk (Cx0 w K mg base) (law.w K (x0 tq K)) K ("undone", none) 5 d_undone p_undone 1 false m_undone := by
  obtain ⟨fd, H⟩ := Z.D 10 d_undone rfl
  have g : GamOk (Cx0 w K mg base) (law.w K (x0 tq K)) g_undone := gam_ok Z.B (by decide +kernel) (all_cons (ent_fn Z.F Z.X Z.G (ok_need_word Z) kb_need_word_1 (by decide) (by decide +kernel) rfl)
    (all_nil)) (all_cons (fun z => absurd z (by decide))
    (all_nil)) (all_nil)
  exact ⟨fd, H, def_ok g H ck_undone⟩
theorem ok_reduced (Z : Gd w K h mg base) : DefOk (Cx0 w K mg base) (law.w K (x0 tq K)) K ("reduced", none) 1 d_reduced p_reduced 1 false m_reduced := by
  obtain ⟨fd, H⟩ := Z.D 11 d_reduced rfl
  have g : GamOk (Cx0 w K mg base) (law.w K (x0 tq K)) g_reduced := gam_ok Z.B (by decide +kernel) (all_nil) (all_nil) (all_nil)
  exact ⟨fd, H, def_ok g H ck_reduced⟩
theorem ok__law_struck (Z : Gd w K h mg base) : DefOk (Cx0 w K mg base) (law.w K (x0 tq K)) K ("_law_struck", none) 5 d__law_struck p__law_struck 2 false m__law_struck := by
  obtain ⟨fd, H⟩ := Z.D 12 d__law_struck rfl
  have g : GamOk (Cx0 w K mg base) (law.w K (x0 tq K)) g__law_struck := gam_ok Z.B (by decide +kernel) (all_cons (ent_fn Z.F Z.X Z.G (ok__law_undo Z) kb__law_undo_1 (by decide) (by decide +kernel) rfl)
    (all_cons (ent_fn Z.F Z.X Z.G (ok__law_pick Z) kb__law_pick_2 (by decide) (by decide +kernel) rfl)
    (all_nil))) (all_cons (fun z => absurd z (by decide))
    (all_cons (fun z => absurd z (by decide))
    (all_nil))) (all_nil)
  exact ⟨fd, H, def_ok g H ck__law_struck⟩
theorem ok_ahead (Z : Gd w K h mg base) : DefOk (Cx0 w K mg base) (law.w K (x0 tq K)) K ("ahead", none) 5 d_ahead p_ahead 1 false m_ahead := by
  obtain ⟨fd, H⟩ := Z.D 13 d_ahead rfl
  have g : GamOk (Cx0 w K mg base) (law.w K (x0 tq K)) g_ahead := gam_ok Z.B (by decide +kernel) (all_cons (ent_fn Z.F Z.X Z.G (ok_need_word Z) kb_need_word_1 (by decide) (by decide +kernel) rfl)
    (all_nil)) (all_cons (fun z => absurd z (by decide))
    (all_nil)) (all_nil)
  exact ⟨fd, H, def_ok g H ck_ahead⟩
theorem ok__law_words (Z : Gd w K h mg base) : DefOk (Cx0 w K mg base) (law.w K (x0 tq K)) K ("_law_words", none) 3 d__law_words p__law_words 1 false m__law_words := by
  obtain ⟨fd, H⟩ := Z.D 14 d__law_words rfl
  have g : GamOk (Cx0 w K mg base) (law.w K (x0 tq K)) g__law_words := gam_ok Z.B (by decide +kernel) (all_cons (ent_fn Z.F Z.X Z.G (ok__law_undo Z) kb__law_undo_1 (by decide) (by decide +kernel) rfl)
    (all_nil)) (all_cons (fun z => absurd z (by decide))
    (all_nil)) (all_nil)
  exact ⟨fd, H, def_ok g H ck__law_words⟩
theorem ok_is_integer (Z : Gd w K h mg base) : DefOk (Cx0 w K mg base) (law.w K (x0 tq K)) K ("is_integer", none) 1 d_is_integer p_is_integer 1 false m_is_integer := by
  obtain ⟨fd, H⟩ := Z.D 15 d_is_integer rfl
  have g : GamOk (Cx0 w K mg base) (law.w K (x0 tq K)) g_is_integer := gam_ok Z.B (by decide +kernel) (all_nil) (all_nil) (all_nil)
  exact ⟨fd, H, def_ok g H ck_is_integer⟩
theorem ok_is_between (Z : Gd w K h mg base) : DefOk (Cx0 w K mg base) (law.w K (x0 tq K)) K ("is_between", none) 3 d_is_between p_is_between 3 false m_is_between := by
  obtain ⟨fd, H⟩ := Z.D 16 d_is_between rfl
  have g : GamOk (Cx0 w K mg base) (law.w K (x0 tq K)) g_is_between := gam_ok Z.B (by decide +kernel) (all_cons (ent_fn Z.F Z.X Z.G (ok_is_integer Z) kb_is_integer_1 (by decide) (by decide +kernel) rfl)
    (all_nil)) (all_cons (fun z => absurd z (by decide))
    (all_nil)) (all_nil)
  exact ⟨fd, H, def_ok g H ck_is_between⟩
theorem ok_further (Z : Gd w K h mg base) : DefOk (Cx0 w K mg base) (law.w K (x0 tq K)) K ("further", none) 5 d_further p_further 1 false m_further := by
  obtain ⟨fd, H⟩ := Z.D 17 d_further rfl
  have g : GamOk (Cx0 w K mg base) (law.w K (x0 tq K)) g_further := gam_ok Z.B (by decide +kernel) (all_cons (ent_fn Z.F Z.X Z.G (ok_need_word Z) kb_need_word_1 (by decide) (by decide +kernel) rfl)
    (all_nil)) (all_cons (fun z => absurd z (by decide))
    (all_nil)) (all_nil)
  exact ⟨fd, H, def_ok g H ck_further⟩
theorem ok_words_of (Z : Gd w K h mg base) : DefOk (Cx0 w K mg base) (law.w K (x0 tq K)) K ("words_of", none) 7 d_words_of p_words_of 1 false m_words_of := by
  obtain ⟨fd, H⟩ := Z.D 18 d_words_of rfl
  have g : GamOk (Cx0 w K mg base) (law.w K (x0 tq K)) g_words_of := gam_ok Z.B (by decide +kernel) (all_cons (ent_fn Z.F Z.X Z.G (ok_is_between Z) kb_is_between_3 (by decide) (by decide +kernel) rfl)
    (all_cons (ent_fn Z.F Z.X Z.G (ok_further Z) kb_further_1 (by decide) (by decide +kernel) rfl)
    (all_nil))) (all_cons (fun z => absurd z (by decide))
    (all_cons (fun z => absurd z (by decide))
    (all_nil))) (all_nil)
  exact ⟨fd, H, def_ok g H ck_words_of⟩
theorem ok_words_upto (Z : Gd w K h mg base) : DefOk (Cx0 w K mg base) (law.w K (x0 tq K)) K ("words_upto", none) 9 d_words_upto p_words_upto 1 false m_words_upto := by
  obtain ⟨fd, H⟩ := Z.D 19 d_words_upto rfl
  have g : GamOk (Cx0 w K mg base) (law.w K (x0 tq K)) g_words_upto := gam_ok Z.B (by decide +kernel) (all_cons (ent_fn Z.F Z.X Z.G (ok_is_between Z) kb_is_between_3 (by decide) (by decide +kernel) rfl)
    (all_cons (ent_fn Z.F Z.X Z.G (ok_words_of Z) kb_words_of_1 (by decide) (by decide +kernel) rfl)
    (all_nil))) (all_cons (fun z => absurd z (by decide))
    (all_cons (fun z => absurd z (by decide))
    (all_nil))) (all_nil)
  exact ⟨fd, H, def_ok g H ck_words_upto⟩
theorem lk__law_heard (Z : Gd w K h mg base) : LamOk (Cx0 w K mg base) (law.w K (x0 tq K)) 10 l__law_heard := by
  obtain ⟨fd, H⟩ := Z.D 20 d__law_heard rfl
  exact lam_ok (Γg := gA__law_heard) (fun _ => rfl) (fun _ => Nat.le_of_ble_eq_true rfl) (fun _ => ⟨rfl, rfl⟩) (fun ask => gam_ok Z.B (by decide +kernel) (all_nil) (all_nil) all_nil)
    (fun_ofD (st := s__law_heard) H rfl) (FunD.bindsN (x := d__law_heard.name) (qual := d__law_heard.qual) (params := d__law_heard.params) (body := d__law_heard.body) (scope := d__law_heard.scope) H fun _ _ _ _ _ _ us hl => match us, hl with | [u0], _ => rfl) (He.glo_ok Z.X Z.G (Z.F.glo _ (by decide +kernel))) (by decide +kernel) (by decide +kernel) (by decide +kernel) (by decide +kernel) ck__law_heard
theorem ok_law (Z : Gd w K h mg base) : DefOk (Cx0 w K mg base) (law.w K (x0 tq K)) K ("law", none) 13 d_law p_law 1 true m_law := by
  obtain ⟨fd, H⟩ := Z.D 21 d_law rfl
  have g : GamOk (Cx0 w K mg base) (law.w K (x0 tq K)) g_law := gam_ok Z.B (by decide +kernel) (all_cons (ent_fn Z.F Z.X Z.G (ok__law_pen Z) kb__law_pen_1 (by decide) (by decide +kernel) rfl)
    (all_cons (ent_fn Z.F Z.X Z.G (ok__law_word Z) kb__law_word_2 (by decide) (by decide +kernel) rfl)
    (all_cons (ent_fn Z.F Z.X Z.G (ok_product Z) kb_product_2 (by decide) (by decide +kernel) rfl)
    (all_cons (ent_fn Z.F Z.X Z.G (ok_undone Z) kb_undone_1 (by decide) (by decide +kernel) rfl)
    (all_cons (ent_fn Z.F Z.X Z.G (ok__law_draw Z) kb__law_draw_2 (by decide) (by decide +kernel) rfl)
    (all_cons (ent_fn Z.F Z.X Z.G (ok__law_pick Z) kb__law_pick_2 (by decide) (by decide +kernel) rfl)
    (all_cons (ent_fn Z.F Z.X Z.G (ok_reduced Z) kb_reduced_1 (by decide) (by decide +kernel) rfl)
    (all_cons (ent_fn Z.F Z.X Z.G (ok__law_struck Z) kb__law_struck_2 (by decide) (by decide +kernel) rfl)
    (all_cons (ent_fn Z.F Z.X Z.G (ok_ahead Z) kb_ahead_1 (by decide) (by decide +kernel) rfl)
    (all_cons (ent_fn Z.F Z.X Z.G (ok__law_words Z) kb__law_words_1 (by decide) (by decide +kernel) rfl)
    (all_cons (ent_fn Z.F Z.X Z.G (ok_words_of Z) kb_words_of_0_size (by decide) (by decide +kernel) rfl)
    (all_cons (ent_fn Z.F Z.X Z.G (ok_words_of Z) kb_words_of_1 (by decide) (by decide +kernel) rfl)
    (all_cons (ent_fn Z.F Z.X Z.G (ok_words_upto Z) kb_words_upto_0_size (by decide) (by decide +kernel) rfl)
    (all_cons (ent_fn Z.F Z.X Z.G (ok_further Z) kb_further_1 (by decide) (by decide +kernel) rfl)
    (all_cons (ent_fn Z.F Z.X Z.G (ok_words_upto Z) kb_words_upto_1 (by decide) (by decide +kernel) rfl)
    (all_nil)))))))))))))))) (all_cons (fun z => absurd z (by decide))
    (all_cons (fun z => absurd z (by decide))
    (all_cons (fun z => absurd z (by decide))
    (all_cons (fun z => absurd z (by decide))
    (all_cons (fun z => absurd z (by decide))
    (all_cons (fun z => absurd z (by decide))
    (all_cons (fun z => absurd z (by decide))
    (all_cons (fun z => absurd z (by decide))
    (all_cons (fun z => absurd z (by decide))
    (all_cons (fun z => absurd z (by decide))
    (all_cons (fun z => absurd z (by decide))
    (all_cons (fun z => absurd z (by decide))
    (all_cons (fun z => absurd z (by decide))
    (all_cons (fun z => absurd z (by decide))
    (all_cons (fun z => absurd z (by decide))
    (all_nil)))))))))))))))) (all_cons (lk__law_heard Z) (all_nil))
  have m : (((("law", none), (envOfC "law" (defScope s_law) 0 0 .none).qual ++ "<lambda>") : He.Defn × Str)) ∈ (tq : List (He.Defn × Str)) := List.mem_cons_self
  exact ⟨fd, H, def_okL g H ck_law (code_of H) (Z.T _ m) (List.mem_map.mpr ⟨_, m, rfl⟩)⟩
end
abbrev R : PySem.W.OpenRow := PySem.W.OpenLaw.row PySem.Challenge.rw_giventurns_k01_whole_words_are_a_group_a
def loose0 : List Str := ["is_integer", "is_between", "TurnError", "BadWord", "BadGrowth", "BadTask", "BadNumber", "BadLot", "BadText", "Unlike", "TooMany", "Nothing", "LETTERS", "MOST_LISTED", "is_word", "need_word", "reduced", "struck", "product", "undone", "ahead", "further", "words_of", "words_upto", "_law_pen"]
def loose1 : List Str := ["_law_draw", "_law_pick", "_law_undo", "_law_times", "_law_words", "_law_word", "_law_heard", "_law_struck"]
abbrev loose : List Str := loose0 ++ loose1
abbrev hk : PySem.W.Hook := hookZ 6 fn (tq.map (·.1)) (law.exT tq)
def ob (s : PySem.W.SharedT) := seeZ 6 fn (tq.map (·.1)) (law.exT tq) (HandSHeadRun.getT s)
theorem ob_eq (s : PySem.W.SharedT) : ob s = hk.obs s.abs := seeZ_eq (HandSHeadRun.getT_eq s)
theorem at_law {w : World} {K : PySem.W.Frag} {h : Heap} {mg : Str → Option Value} (c : He.SaysX [] fn [] (tq.map (·.1)) (law.exT tq) w h K) (X : K.In h) (G : h.Ns mainGlobals mg)
    (hm : ∀ ns : List Int, ns.length ≤ 63 → (∀ z ∈ ns, Builtin.Int.intBits z ≤ 1048576) → ∃ μ, m_law [.ro (ns.map .int)] [] = .ok (.bl true) μ) : LawG PySem.Challenge.rw_giventurns_k01_whole_words_are_a_group_a w K 13 "script" mg (He.ga K "law") h := by
  have F : law.Fs K := LawD.fs (pairB c.more).1
  refine law_at (d := law) (dl := d_law) (m := m_law) (la := true) (x := "script") c X G (fun base KB GB T => ?_) (def_in c 21 rfl) rfl rfl (fun _ _ _ _ _ _ _ => rfl) hm
  exact ok_law ⟨X, G, F, fun i dd e => def_in c i e, T, base_ok F X G pr_ok⟩
end K01

/-! Printed by gen.py. -/
namespace K01
open PySem PySem.W PySem.Calls PyProof.Rows DL
theorem run (w : World) : HandSHeadRun.RunEq R (PySem.W.view R.prog [37]) hk ob 4000 loose w := by
  intro os
  kernel_rfl
theorem fin (hm : ∀ ns : List Int, ns.length ≤ 63 → (∀ z ∈ ns, Builtin.Int.intBits z ≤ 1048576) → ∃ μ, m_law [.ro (ns.map .int)] [] = .ok (.bl true) μ) : PySem.Challenge.rw_giventurns_k01_whole_words_are_a_group_a.Holds := by
  w_on; o_law
  refine HandSHeadRun.head_any (r := OpenLaw.row PySem.Challenge.rw_giventurns_k01_whole_words_are_a_group_a) (q := view (OpenLaw.row PySem.Challenge.rw_giventurns_k01_whole_words_are_a_group_a).prog [37]) (H := hk) (ob := ob) (M := 4000) (loose := loose) (d := HandSHeadRun.topDef (OpenLaw.row PySem.Challenge.rw_giventurns_k01_whole_words_are_a_group_a).prog 37) (kwd := []) ob_eq
    (by kernel_rfl) (fun s => by kernel_rfl) run (by kernel_rfl) (by kernel_rfl) (by kernel_rfl) (by rfl) (by first | assumption | decide +kernel) (by decide +kernel) ⟨rfl, rfl, rfl, rfl, rfl, by decide +kernel⟩ ?hw ?hc
  case hw => w_witness2
  case hc =>
    refine walkG (l := PySem.Challenge.rw_giventurns_k01_whole_words_are_a_group_a) (k := 13) (x := "script") rfl (by kernel_rfl) ⟨rfl, by decide, by decide⟩ ?F
    intro w mg fa h Y G hmg0
    obtain ⟨K, KX, c⟩ := Y
    have hmg : mg ("law" : PySem.Str) = some (.ref fa) := by
      have e : (HandSHeadRun.topDef (OpenLaw.row PySem.Challenge.rw_giventurns_k01_whole_words_are_a_group_a).prog 37).name = ("law" : PySem.Str) := by kernel_rfl
      rw [← e]
      exact hmg0
    have F : law.Fs K := LawD.fs (pairB c.more).1
    have e := hmg.symm.trans (He.glo_ok KX G (F.glo "law" (by decide +kernel)))
    cases e
    exact ⟨K, KX, at_law c KX G hm⟩
end K01

/-! k01: what its defs answer. -/
namespace K01
open PySem PySem.Spec PyProof.Rows L2 DL
theorem draw : DrawS PenL m__law_draw := drawL_ok (Γ := g__law_draw) ⟨86945, 2667, 2147483587, 53089, 4181, 5, 2147483563, 2667, 93561, 53089, 3, 2147483549⟩ (.inl ⟨rfl, rfl, rfl⟩) rfl
theorem pick : PickS PenL m__law_pick := pick_ok (Γ := g__law_pick) rfl rfl draw
theorem pen {ns : List Int} (h : ns.length ≤ 63) : m__law_pen [.ro (ns.map .int)] [] = .ok (.loc 0) [penLM ns 0 0] := penL_ok (Γ := g__law_pen) rfl rfl h
theorem undo : UndoSp m__law_undo := undo_ok (Γ := g__law_undo) rfl
theorem timesL : TimesSp m__law_times := times_ok (Γ := g__law_times) rfl rfl undo
theorem word : WordSp PenL m__law_word := word_ok (Γ := g__law_word) isPenL rfl rfl rfl rfl draw timesL pick
theorem isword : IsWordSp m_is_word := isword_ok (Γ := g_is_word) rfl fun _ _ => rfl
theorem need : NeedSp 0 m_need_word := need_ok (Γ := g_need_word) rfl rfl isword
theorem struck : StruckSp m_struck := struck_ok (Γ := g_struck) rfl
section
variable {μ : List M} {a b : List Nat}
theorem product (ha : isW a = true) (hb : isW b = true) (hl : a.length + b.length ≤ 16777216) : m_product [.str a, .str b] μ = .ok (.str (times a b)) μ := product_ok (Γ := g_product) rfl rfl rfl need struck ha hb hl
theorem ahead (ha : isW a = true) (hl : a.length ≤ 16777216) : m_ahead [.str a] μ = .ok (.tup [.int a.length, .str a]) μ := ahead_ok (Γ := g_ahead) rfl rfl need ha hl
theorem undone (ha : isW a = true) (hl : a.length ≤ 16777216) : m_undone [.str a] μ = .ok (.str (undW a)) μ := undone_ok (Γ := g_undone) rfl rfl need ha hl
theorem further (ha : isW a = true) (hl : a.length < 16777216) : m_further [.str a] μ = .ok (.tup ((furtherW a).map D.str)) μ := further_ok (Γ := g_further) rfl rfl need ha hl
theorem reduced (hL : a.all isL = true) (hl : a.length ≤ 16777216) (hc : Clean μ) : m_reduced [.str a] μ = .ok (.str (times [] a)) μ := reduced_ok (Γ := g_reduced) rfl (fun _ _ => rfl) hL hl hc
theorem is_int (i : Int) : m_is_integer [.int i] μ = .ok (.bl true) μ := fn_rt rfl rfl rfl
theorem is_betw (i a b : Int) : m_is_between [.int i, .int a, .int b] μ = .ok (.bl (decide (a ≤ i) && decide (i ≤ b))) μ := by
  refine fn_out rfl ?_ rfl
  show outS (evSs g_is_between c_is_between [some (.int i), some (.int a), some (.int b)] μ) = _
  simp [c_is_between, t_is_between_1, ent_eq (Γ := g_is_between) (i := 0) rfl, mCallK_eq, is_int, mChain_eq]
  by_cases h : a ≤ i <;> simp [h]
/-! ### all words of a length -/
def FD4 (d : D) : List D := match d with
  | .str w => (furtherW w).map D.str
  | _ => []
def fstD (d : D) : D := match d with
  | .tup [a, _] => a
  | _ => .non
def pairW (i : Nat) : List D := (wl i).flatMap fun w => (furtherW w).map fun o => D.tup [.str o, .str w]
theorem pairW_fst (i : Nat) : (pairW i).map fstD = ((wl i).flatMap furtherW).map D.str := by
  unfold pairW
  rw [List.map_flatMap, List.map_flatMap]
  congr 1
  funext w
  rw [List.map_map]
  rfl
theorem wl_small {i : Nat} (h : i ≤ 6) : (wl i).length ≤ 4096 := Nat.le_trans (wl_len i) (Nat.pow_le_pow_right (by decide) h)
theorem pairW_len (i : Nat) : (pairW i).length = ((wl i).flatMap furtherW).length := by
  have := congrArg List.length (pairW_fst i)
  rw [List.length_map, List.length_map] at this
  exact this
theorem turn_ok {i : Nat} (h : i ≤ 5) {k : Nat} {x2 x3 x4 x5 : Option D} : ∃ y1 y2, evSs g_words_of b_words_of_1 [some (.int k), some (.tup ((wl i).map .str)), x2, x3, x4, x5] μ = .nx [some (.int k), some (.tup ((wl (i + 1)).map .str)), x2, x3, x4, x5] μ ∧ y1 = x2 ∧ y2 = x3 := by
  have hw := wl_small (show i ≤ 6 by omega)
  have hf : ((wl i).flatMap furtherW).length ≤ 16384 := by have := flat_len furtherW_len (wl i); omega
  have q1 : evE g_words_of q_words_of_1 [some (.int k), some (.tup ((wl i).map .str)), x2, x3, x4, x5] μ = .ok (.lst (pairW i)) μ := by
    unfold q_words_of_1
    rw [ev_lc2, mLc2_map (l := (wl i).map D.str) FD4 (fun d y => .tup [y, d]) (evI_seqT rfl) rfl (fun d hd => by
      obtain ⟨w, hw, rfl⟩ := List.mem_map.mp hd
      obtain ⟨w1, w2⟩ := (mem_wl i w).mp hw
      have e : evE g_words_of (.call 1 (.cons (.v 4) .nil) .nil) [some (.int k), some (.tup ((wl i).map .str)), x2, none, some (.str w), none] μ = .ok (.tup ((furtherW w).map D.str)) μ := by
        rw [call1 (y := .str w) (μ' := μ) (x := "further") (f := m_further) (la := false) rfl rfl, further w1 (by omega)]
      refine ⟨[some (.int k), some (.tup ((wl i).map .str)), x2, none, some (.str w), none], _, rfl, evI_seqT e, rfl, fun y hy => ?_⟩
      obtain ⟨o, ho, rfl⟩ := List.mem_map.mp hy
      exact ⟨[some (.int k), some (.tup ((wl i).map .str)), x2, none, some (.str w), some (.str o)], rfl, rfl⟩) (by
      rw [List.flatMap_map]
      show ((wl i).flatMap fun w => (furtherW w).map D.str).length ≤ _
      rw [← List.map_flatMap, List.length_map]
      omega)]
    congr 2
    rw [List.flatMap_map]
    unfold pairW
    congr 1
    funext w
    show ((furtherW w).map D.str).map _ = _
    rw [List.map_map]
    rfl
  have q2 : evE g_words_of q_words_of_2 [some (.int k), some (.lst (pairW i)), x2, x3, x4, x5] μ = .ok (.lst ((pairW i).map fstD)) μ := by
    unfold q_words_of_2
    rw [ev_lc]
    exact mLc_map fstD (evI_seqL rfl) rfl (fun d hd => by
      obtain ⟨w, hw, hd⟩ := List.mem_flatMap.mp hd
      obtain ⟨o, ho, rfl⟩ := List.mem_map.mp hd
      exact ⟨[some (.int k), some (.lst (pairW i)), some (.str w), none, x4, some (.str o)], rfl, rfl⟩) (by rw [pairW_len]; omega)
  rw [pairW_fst] at q2
  have q3 : evE g_words_of (.bi .tuple (.cons (.bi .sorted (.cons (q_words_of_2) .nil)) .nil)) [some (.int k), some (.lst (pairW i)), x2, x3, x4, x5] μ = .ok (.tup ((wl (i + 1)).map .str)) μ := by
    rw [ev_bi, evA_cons, ev_bi, evA_cons, q2, er_bindA_ok, evA_nil, ar_bind_ok, ar_bindE_ok, bi_sorted (srt_strs _), sort_words, er_bindA_ok, evA_nil, ar_bind_ok, ar_bindE_ok, bi_tupL]
  refine ⟨x2, x3, ?_, rfl, rfl⟩
  refine (step (show evS g_words_of t_words_of_4 [some (.int k), some (.tup ((wl i).map .str)), x2, x3, x4, x5] μ = .nx [some (.int k), some (.lst (pairW i)), x2, x3, x4, x5] μ from ?_)).trans ?_
  · unfold t_words_of_4
    rw [evS_asgL, q1, er_bindS_ok]; rfl
  · unfold t_words_of_5
    rw [evSs_one, evS_asg, q3, er_bindS_ok]; rfl
theorem words_of_ok {k : Nat} (h : k ≤ 6) : m_words_of [.int k] μ = .ok (.tup ((wl k).map .str)) μ := by
  have et : evS g_words_of t_words_of_2 [some (.int k), none, none, none, none, none] μ = .nx [some (.int k), none, none, none, none, none] μ := by
    have z := is_betw (μ := μ) k 0 6
    rw [decide_eq_true (show (0 : Int) ≤ (k : Int) by omega), decide_eq_true (show (k : Int) ≤ 6 by omega)] at z
    have z : m_is_between [.int k, .int 0, .int 6] μ = .ok (.bl true) μ := z
    simp [t_words_of_2, ent_eq (Γ := g_words_of) (i := 0) rfl, mCallK_eq, z]
  obtain ⟨δ', μ', e, e1, x2, e2'⟩ := mFor_thru (Γ := g_words_of) (δ := [some (.int k), some (.tup [.str []]), none, none, none, none]) (μ := μ) (it := .rng1 (.v 0)) (g := .nm 2) (b := b_words_of_1) (l := rngItems 0 k)
    (fun i δ μ' => μ' = μ ∧ ∃ x2, δ = [some (.int k), some (.tup ((wl i).map .str)), x2, none, none, none]) (by rw [rng_len]; exact evI_rng1 (j := k) rfl (by simp [rngOk]; omega)) (fun _ _ _ _ => rfl)
    (fun i hi δ μ' ⟨e1, x2, e2⟩ => by
      subst e1 e2
      rw [rng_len] at hi
      obtain ⟨_, _, q, _, _⟩ := turn_ok (μ := μ') (i := i) (by omega) (k := k) (x2 := some (rngItems 0 k)[i]) (x3 := none) (x4 := none) (x5 := none)
      exact ⟨_, _, _, rfl, q, rfl, _, rfl⟩) ⟨rfl, none, rfl⟩
  rw [e1, e2', rng_len] at e
  exact fn_rt (δ' := [some (.int k), some (.tup ((wl k).map .str)), x2, none, none, none]) rfl ((step et).trans ((step (show evS g_words_of t_words_of_3 [some (.int k), none, none, none, none, none] μ = .nx [some (.int k), some (.tup [.str []]), none, none, none, none] μ from rfl)).trans ((step (show evS g_words_of t_words_of_6 [some (.int k), some (.tup [.str []]), none, none, none, none] μ = _ from e)).trans rfl))) rfl
def FDw (d : D) : List D := match d with
  | .int i => (wl i.toNat).map D.str
  | _ => []
theorem words_upto_ok {k : Nat} (h : k ≤ 6) : m_words_upto [.int k] μ = .ok (.tup ((upW k).map .str)) μ := by
  have e2 : evS g_words_upto t_words_upto_2 [some (.int k), none, none, none] μ = .nx [some (.int k), none, none, none] μ := by
    have z := is_betw (μ := μ) k 0 6
    rw [decide_eq_true (show (0 : Int) ≤ (k : Int) by omega), decide_eq_true (show (k : Int) ≤ 6 by omega)] at z
    have z : m_is_between [.int k, .int 0, .int 6] μ = .ok (.bl true) μ := z
    simp [t_words_upto_2, ent_eq (Γ := g_words_upto) (i := 0) rfl, mCallK_eq, z]
  have eL : (rngItems 0 (k + 1)).flatMap FDw = (upW k).map D.str := by
    rw [← up_flat k]
    unfold rngItems
    rw [List.flatMap_map, List.map_flatMap]
    congr 1
    funext i
    show (wl ((0 : Int) + (i : Nat)).toNat).map D.str = _
    rw [show ((0 : Int) + (i : Nat)).toNat = i from by omega]
  have hl : (upW k).length ≤ 16777216 := by
    have := up_len k
    have h4 : 4 ^ k ≤ 4 ^ 6 := Nat.pow_le_pow_right (by decide) h
    have : (k + 1) * 4 ^ k ≤ 7 * 4 ^ 6 := Nat.mul_le_mul (by omega) h4
    omega
  have q1 : evE g_words_upto q_words_upto_1 [some (.int k), none, none, none] μ = .ok (.lst ((upW k).map .str)) μ := by
    unfold q_words_upto_1
    have hi : evI g_words_upto (.rng1 (.bin .add (.v 0) (.k (.int 1)))) [some (.int k), none, none, none] μ = .ok (rngItems 0 (k + 1)).length (fun _ => some (rngItems 0 (k + 1))) μ := by
      rw [rng_len]
      exact evI_rng1 (j := ((k + 1 : Nat) : Int)) rfl (by simp [rngOk]; omega)
    rw [ev_lc2, mLc2_map (l := rngItems 0 (k + 1)) FDw (fun d y => y) hi rfl (fun d hd => by
      obtain ⟨i, hi, rfl⟩ := List.mem_map.mp hd
      rw [List.mem_range] at hi
      have e : evE g_words_upto (.call 1 (.cons (.v 2) .nil) .nil) [some (.int k), none, some (.int (0 + (i : Nat))), none] μ = .ok (.tup (FDw (.int (0 + (i : Nat))))) μ := by
        rw [call1 (y := .int (0 + (i : Nat))) (μ' := μ) (x := "words_of") (f := m_words_of) (la := false) rfl rfl, Int.zero_add, words_of_ok (by omega)]
        rfl
      refine ⟨[some (.int k), none, some (.int (0 + (i : Nat))), none], _, rfl, evI_seqT e, rfl, fun y hy => ⟨[some (.int k), none, some (.int (0 + (i : Nat))), some y], rfl, rfl⟩⟩) (by rw [eL, List.length_map]; exact hl)]
    have eF : ((rngItems 0 (k + 1)).flatMap fun d => (FDw d).map fun y => y) = (upW k).map D.str := by
      rw [← eL]
      exact congrArg (fun f => (rngItems 0 (k + 1)).flatMap f) (funext fun d => List.map_id' _)
    exact congrArg (fun l => ER.ok (D.lst l) μ) eF
  refine fn_rt (δ' := [some (.int k), none, none, none]) rfl ((step e2).trans ?_) rfl
  unfold t_words_upto_3
  rw [evSs_one, evS_ret, ev_bi, evA_cons, q1, er_bindA_ok, evA_nil, ar_bind_ok, ar_bindE_ok, bi_tupL, er_bindS_ok]
/-! ### the law's own words -/
theorem fltS (p : Nat → Bool) (w : List Nat) : ((strItems [65, 66, 97, 98]).filter (fun d => p (sg d))).map (fun d => D.str (w ++ [sg d])) = ((ab4.filter p).map fun c => w ++ [c]).map D.str := by
  unfold strItems
  rw [List.filter_map, List.map_map, List.map_map]
  rfl
theorem grow_ok (hc : Clean μ) {w : List Nat} {acc : List D} (hw : w.all isL = true) (hl : w.length ≤ 100) (la : acc.length ≤ 100000) (x0 x1 x2 x3 x6 x7 : Option D) :
    evSs g__law_words b__law_words_1 [x0, x1, x2, x3, some (.lst acc), some (.str w), x6, x7] μ = .nx [x0, x1, x2, x3, some (.lst (acc ++ (sufx w).map .str)), some (.str w), x6, x7] μ := by
  have v5 : ∀ x6 x7, evE g__law_words (.v 5) [x0, x1, x2, x3, some (.lst acc), some (.str w), x6, x7] μ = .ok (.str w) μ := fun _ _ => rfl
  have v7 : ∀ c x6, evE g__law_words (.v 7) [x0, x1, x2, x3, some (.lst acc), some (.str w), x6, some (.str [c])] μ = .ok (.str [c]) μ := fun _ _ => rfl
  have eq : evE g__law_words q__law_words_1 [x0, x1, x2, x3, some (.lst acc), some (.str w), x6, x7] μ = .ok (.lst ((sufx w).map .str)) μ := by
    unfold q__law_words_1
    rw [ev_lc, mLc_pure (fun d => fitsA (sg d) w.reverse) (fun d => .str (w ++ [sg d])) (l := strItems [65, 66, 97, 98]) (evI_seqS (by rw [ev_k, kd_str])) rfl (all4 fun c hc1 => by
      refine ⟨[x0, x1, x2, x3, some (.lst acc), some (.str w), none, some (.str [c])], rfl, ?_, fun _ => ?_⟩
      · rw [evT_or, evTOr_cons, evT_cmp, ev_cmp, v5, er_bind_ok, ev_k, kd_str, er_bind_ok, str_eq0 hw, er_bindT_ok]
        dsimp only
        rw [tr_bind_ok]
        rcases List.eq_nil_or_concat w with rfl | ⟨r, y, rfl⟩
        · rfl
        · rw [List.concat_eq_append] at *
          have hy : isL y = true := by simp only [List.all_append, Bool.and_eq_true] at hw; simpa using hw.2
          have i0 : fIx (.str (r ++ [y])) (.int (-1)) μ = .ok (.str [y]) μ := ix_neg1 (by omega)
          have e2 := (eqS (μ := μ) (a := [c]) (b := [swL y]) (by simpa using (isL_lt hc1).1) (by simpa using (isL_lt hy).2)).2
          have ei : evE g__law_words (.ix (.v 5) (.neg (.k (.int 1)))) [x0, x1, x2, x3, some (.lst acc), some (.str (r ++ [y])), none, some (.str [c])] μ = .ok (.str [y]) μ := by
            rw [ev_ix, v5, er_bind_ok, show evE g__law_words (.neg (.k (.int 1))) [x0, x1, x2, x3, some (.lst acc), some (.str (r ++ [y])), none, some (.str [c])] μ = .ok (.int (-1)) μ from rfl, er_bind_ok, i0]
          rw [show (r ++ [y]).isEmpty = false from by simp, if_neg (by decide), evTOr_one, evT_cmp, ev_cmp, v7, er_bind_ok, call1 (y := .str [y]) (μ' := μ) (x := "_law_undo") (f := m__law_undo) (la := false) rfl ei, undo _ _ hy hc, er_bind_ok, e2, er_bindT_ok]
          simp [fitsA, sg]
      · rw [ev_bin, v5, er_bind_ok, v7, er_bind_ok, bf_addS, show catOk w.length [c].length = true from decide_eq_true (by simp; omega), if_pos rfl]
        rfl) (by rw [str_items_len]; decide)]
    exact congrArg (fun l => ER.ok (.lst l) μ) (fltS (fun c => fitsA c w.reverse) w)
  unfold b__law_words_1 t__law_words_3
  rw [evSs_one, evS_asg, ev_bin, show evE g__law_words (.v 4) [x0, x1, x2, x3, some (.lst acc), some (.str w), x6, x7] μ = .ok (.lst acc) μ from rfl, er_bind_ok, eq, er_bind_ok, bf_addL, show catOk acc.length ((sufx w).map D.str).length = true from decide_eq_true (by rw [List.length_map]; have := sufx_len w; omega), if_pos rfl, er_bindS_ok]
  rfl
theorem line_words (hc : Clean μ) {i : Nat} (hi : i ≤ 5) (x0 x1 x3 x5 : Option D) : ∃ y5, evS g__law_words t__law_words_4 [x0, x1, some (.lst ((wl i).map .str)), x3, some (.lst []), x5, none, none] μ = .nx [x0, x1, some (.lst ((wl i).map .str)), x3, some (.lst ((wl (i + 1)).map .str)), y5, none, none] μ := by
  have hw := wl_small (show i ≤ 6 by omega)
  obtain ⟨δ', μ', e, e1, y5, e2⟩ := mFor_thru (Γ := g__law_words) (δ := [x0, x1, some (.lst ((wl i).map .str)), x3, some (.lst []), x5, none, none]) (μ := μ) (it := .seq (.v 2)) (g := .nm 5) (b := b__law_words_1) (l := (wl i).map D.str)
    (fun j δ μ' => μ' = μ ∧ ∃ y5, δ = [x0, x1, some (.lst ((wl i).map .str)), x3, some (.lst ((((wl i).take j).flatMap sufx).map .str)), y5, none, none]) (evI_seqL rfl) (fun _ _ _ _ => rfl)
    (fun j hj δ μ' ⟨e1, y5, e2⟩ => by
      subst e1 e2
      have hj' : j < (wl i).length := by simpa using hj
      obtain ⟨w1, w2⟩ := (mem_wl i _).mp (List.getElem_mem hj')
      have ei : ((wl i).map D.str)[j] = .str (wl i)[j] := by simp
      have et : (wl i).take (j + 1) = (wl i).take j ++ [(wl i)[j]] := by rw [List.take_succ, List.getElem?_eq_getElem hj']; rfl
      have hl : ((((wl i).take j).flatMap sufx).map D.str).length ≤ 100000 := by
        rw [List.length_map]
        have := flat_len sufx_len ((wl i).take j)
        rw [List.length_take] at this
        omega
      have q := grow_ok (μ := μ') hc (w := (wl i)[j]) (isW_L w1) (by omega) hl x0 x1 (some (.lst ((wl i).map .str))) x3 none none
      have ez : ((((wl i).take j).flatMap sufx).map D.str) ++ (sufx (wl i)[j]).map .str = (((wl i).take (j + 1)).flatMap sufx).map D.str := by
        rw [et, List.flatMap_append, List.map_append]
        simp
      rw [ez] at q
      exact ⟨[x0, x1, some (.lst ((wl i).map .str)), x3, some (.lst ((((wl i).take j).flatMap sufx).map .str)), some (.str (wl i)[j]), none, none], _, μ', by rw [ei]; rfl, q, rfl, _, rfl⟩) ⟨rfl, x5, by simp⟩
  rw [e1, e2, List.length_map, List.take_length] at e
  exact ⟨y5, e⟩
theorem law_words (hc : Clean μ) : m__law_words [.int 6] μ = .ok (.lst ((upW 6).map .str)) μ := by
  obtain ⟨δ', μ', e, e1, x3, x4, x5, e2⟩ := mFor_thru (Γ := g__law_words) (δ := [some (.int 6), some (.lst ((upW 0).map .str)), some (.lst ((wl 0).map .str)), none, none, none, none, none]) (μ := μ) (it := .rng1 (.v 0)) (g := .nm 3) (b := b__law_words_2) (l := rngItems 0 6)
    (fun i δ μ' => μ' = μ ∧ ∃ x3 x4 x5, δ = [some (.int 6), some (.lst ((upW i).map .str)), some (.lst ((wl i).map .str)), x3, x4, x5, none, none]) (by rw [rng_len]; exact evI_rng1 (j := 6) rfl rfl) (fun _ _ _ _ => rfl)
    (fun i hi δ μ' ⟨e1, x3, x4, x5, e2⟩ => by
      subst e1 e2
      rw [rng_len] at hi
      obtain ⟨y5, q⟩ := line_words (μ := μ') hc (i := i) (by omega) (some (.int 6)) (some (.lst ((upW i).map .str))) (some (rngItems 0 6)[i]) x5
      have lc : catOk ((upW i).map D.str).length ((wl (i + 1)).map D.str).length = true := by
        rw [List.length_map, List.length_map]
        have h1 := up_len i
        have h2 := wl_small (show i + 1 ≤ 6 by omega)
        have h4 : 4 ^ i ≤ 4 ^ 6 := Nat.pow_le_pow_right (by decide) (by omega)
        have : (i + 1) * 4 ^ i ≤ 7 * 4 ^ 6 := Nat.mul_le_mul (by omega) h4
        exact decide_eq_true (by omega)
      refine ⟨[some (.int 6), some (.lst ((upW i).map .str)), some (.lst ((wl i).map .str)), some (rngItems 0 6)[i], x4, x5, none, none], [some (.int 6), some (.lst ((upW (i + 1)).map .str)), some (.lst ((wl (i + 1)).map .str)), some (rngItems 0 6)[i], some (.lst ((wl (i + 1)).map .str)), y5, none, none], μ', rfl, ?_, rfl, _, _, _, rfl⟩
      generalize (rngItems 0 6)[i] = z3 at q ⊢
      have eu : (upW (i + 1)).map D.str = (upW i).map D.str ++ (wl (i + 1)).map D.str := by rw [← List.map_append]; rfl
      rw [eu]
      generalize (wl (i + 1)).map D.str = A at *
      generalize (upW i).map D.str = C at *
      generalize (wl i).map D.str = B at *
      refine (step (show evS g__law_words t__law_words_2 [some (.int 6), some (.lst C), some (.lst B), some z3, x4, x5, none, none] μ' = .nx [some (.int 6), some (.lst C), some (.lst B), some z3, some (.lst []), x5, none, none] μ' from rfl)).trans ((step q).trans ((step (show evS g__law_words t__law_words_5 [some (.int 6), some (.lst C), some (.lst B), some z3, some (.lst A), y5, none, none] μ' = .nx [some (.int 6), some (.lst C), some (.lst A), some z3, some (.lst A), y5, none, none] μ' from rfl)).trans ?_))
      unfold t__law_words_6
      rw [evSs_one, evS_asg, ev_bin, show evE g__law_words (.v 1) [some (.int 6), some (.lst C), some (.lst A), some z3, some (.lst A), y5, none, none] μ' = .ok (.lst C) μ' from rfl, er_bind_ok, show evE g__law_words (.v 2) [some (.int 6), some (.lst C), some (.lst A), some z3, some (.lst A), y5, none, none] μ' = .ok (.lst A) μ' from rfl, er_bind_ok, bf_addL, lc, if_pos rfl, er_bindS_ok]
      rfl) ⟨rfl, none, none, none, rfl⟩
  rw [e1, e2, rng_len] at e
  have e7 : evS g__law_words t__law_words_7 [some (.int 6), some (.lst ((upW 0).map .str)), some (.lst ((wl 0).map .str)), none, none, none, none, none] μ = .nx [some (.int 6), some (.lst ((upW 6).map .str)), some (.lst ((wl 6).map .str)), x3, x4, x5, none, none] μ := e
  exact fn_rt (δ' := [some (.int 6), some (.lst ((upW 6).map .str)), some (.lst ((wl 6).map .str)), x3, x4, x5, none, none]) rfl ((step (show evS g__law_words t__law_words_1 [some (.int 6), none, none, none, none, none, none, none] μ = .nx [some (.int 6), some (.lst ((upW 0).map .str)), some (.lst ((wl 0).map .str)), none, none, none, none, none] μ from rfl)).trans ((step e7).trans rfl)) rfl
end
end K01

/-! k01: strings struck out in a drawn order. -/
namespace K01
open PySem PySem.Spec PyProof.Rows L2 DL
def spotP (s : List Nat) (i : Int) : Bool := s[i.toNat]?.getD 0 == swL (s[i.toNat - 1]?.getD 0)
def spotsL (s : List Nat) : List Int := ((List.range ((s.length : Int) - 1).toNat).map fun i => (1 : Int) + (i : Nat)).filter (spotP s)
theorem spot_at {s : List Nat} {i : Nat} (h : i + 1 < s.length) : spotP s (1 + (i : Nat)) = (s[i + 1] == swL s[i]) := by
  unfold spotP
  rw [show ((1 : Int) + (i : Nat)).toNat = i + 1 from by omega, Nat.add_sub_cancel, List.getElem?_eq_getElem h, List.getElem?_eq_getElem (by omega : i < s.length)]
  rfl
theorem spot_mem {s : List Nat} {x : Int} (h : x ∈ spotsL s) : ∃ (i : Nat) (hi : i + 1 < s.length), x = ((i + 1 : Nat) : Int) ∧ s[i + 1] = swL s[i] := by
  obtain ⟨h1, h2⟩ := List.mem_filter.mp h
  obtain ⟨i, hi, rfl⟩ := List.mem_map.mp h1
  rw [List.mem_range] at hi
  have h3 : i + 1 < s.length := by omega
  rw [spot_at h3] at h2
  exact ⟨i, h3, by push_cast; omega, beq_iff_eq.mp h2⟩
theorem spot_nil {s : List Nat} (hL : s.all isL = true) (h : spotsL s = []) : chW s = true := by
  refine (chW_look s hL).mpr fun i hi => ?_
  unfold spotsL at h
  rw [List.filter_eq_nil_iff] at h
  have q := h (1 + (i : Nat)) (List.mem_map.mpr ⟨i, List.mem_range.mpr (by omega), rfl⟩)
  rw [spot_at hi] at q
  simpa using q
theorem spot_len (s : List Nat) : (spotsL s).length ≤ s.length := by
  unfold spotsL
  refine Nat.le_trans (List.length_filter_le _ _) ?_
  rw [List.length_map, List.length_range]
  omega
section
variable {μ t : List M} {m : M} {n : Int} {s : List Nat}
def qSpots : CE := .lc false (.rng2 (.k (.int 1)) (.bi .len (.cons (.v 1) .nil))) (.nm 2) (.cmp .eq (.ix (.v 1) (.v 2)) (.call 0 (.cons (.ix (.v 1) (.bin .sub (.v 2) (.k (.int 1)))) .nil) .nil)) (.v 2) [(".0", 4), ("at", 2)]
theorem spots_ev (hL : s.all isL = true) (hl : s.length ≤ 1000) (hc : Clean μ) (x0 x2 x3 x4 : Option D) : evE g__law_struck qSpots [x0, some (.str s), x2, x3, x4] μ = .ok (.lst ((spotsL s).map .int)) μ := by
  have lo : lineOk s.length = true := line_ok (by omega)
  obtain ⟨p, hp⟩ : ∃ p : D → Bool, p = fun d => match d with | .int i => spotP s i | _ => false := ⟨_, rfl⟩
  have v1 : ∀ x2 x4, evE g__law_struck (.v 1) [x0, some (.str s), x2, x3, x4] μ = .ok (.str s) μ := fun _ _ => rfl
  have hi : evI g__law_struck (.rng2 (.k (.int 1)) (.bi .len (.cons (.v 1) .nil))) [x0, some (.str s), x2, x3, x4] μ = .ok (rngItems 1 ((s.length : Int) - 1).toNat).length (fun _ => some (rngItems 1 ((s.length : Int) - 1).toNat)) μ := by
    rw [rng_len]
    show ((evE g__law_struck (.k (.int 1)) [x0, some (.str s), x2, x3, x4] μ).bindA fun x μ => ((evE g__law_struck (.bi .len (.cons (.v 1) .nil)) [x0, some (.str s), x2, x3, x4] μ).bindA fun y μ => (AR.ok [] μ).bind fun xs μ => .ok (y :: xs) μ).bind fun xs μ => .ok (x :: xs) μ).bindI _ = _
    rw [ev_k, kd_int, er_bindA_ok, ev_bi, evA_cons, v1, er_bindA_ok, evA_nil, ar_bind_ok, ar_bindE_ok, bi_lenS, lo, if_pos rfl, er_bindA_ok, ar_bind_ok, ar_bind_ok, ar_bindI_ok]
    dsimp only
    rw [show (rngOk 1 && rngOk (s.length : Int)) = true from by simp [rngOk]; omega, if_pos rfl]
  unfold qSpots
  rw [ev_lc, mLc_pure p id hi rfl (fun d hd => by
    obtain ⟨i, hi, rfl⟩ := List.mem_map.mp hd
    rw [List.mem_range] at hi
    have h1 : i + 1 < s.length := by omega
    refine ⟨[x0, some (.str s), some (.int (1 + (i : Nat))), x3, none], rfl, ?_, fun _ => rfl⟩
    have l1 : isL s[i + 1] = true := List.all_eq_true.mp hL _ (List.getElem_mem h1)
    have l0 : isL s[i] = true := List.all_eq_true.mp hL _ (List.getElem_mem (by omega))
    have v2 : evE g__law_struck (.v 2) [x0, some (.str s), some (.int (1 + (i : Nat))), x3, none] μ = .ok (.int (1 + (i : Nat))) μ := rfl
    have i1 : fIx (.str s) (.int (1 + (i : Nat))) μ = .ok (.str [s[i + 1]]) μ := ixS (by omega) (by omega) (by
      rw [show ((1 : Int) + (i : Nat)).toNat = i + 1 from by omega]
      exact List.getElem?_eq_getElem h1)
    have i0 : fIx (.str s) (.int (1 + (i : Nat) - 1)) μ = .ok (.str [s[i]]) μ := ixS (by omega) (by omega) (by
      rw [show ((1 : Int) + (i : Nat) - 1).toNat = i from by omega]
      exact List.getElem?_eq_getElem _)
    have ea : evE g__law_struck (.ix (.v 1) (.bin .sub (.v 2) (.k (.int 1)))) [x0, some (.str s), some (.int (1 + (i : Nat))), x3, none] μ = .ok (.str [s[i]]) μ := by
      rw [ev_ix, v1, er_bind_ok, ev_bin, v2, er_bind_ok, ev_k, kd_int, er_bind_ok, bf_sub, er_bind_ok, i0]
    have ep : p (.int (1 + (i : Nat))) = (s[i + 1] == swL s[i]) := by rw [hp]; exact spot_at h1
    rw [evT_cmp, ev_cmp, ev_ix, v1, er_bind_ok, v2, er_bind_ok, i1, er_bind_ok, call1 (y := .str [s[i]]) (μ' := μ) (x := "_law_undo") (f := m__law_undo) (la := false) rfl ea, undo _ _ l0 hc, er_bind_ok, eq_signs (isL_lt l1).1 (isL_lt l0).2, er_bindT_ok, ep]) (by rw [rng_len]; omega)]
  congr 2
  rw [List.map_id]
  unfold spotsL rngItems
  rw [List.filter_map, List.filter_map, List.map_map, hp]
  rfl
abbrev sk (s : List Nat) (x2 : Option D) : Dv := [some (.loc 0), some (.str s), x2, some (.lst ((spotsL s).map .int)), none]
theorem spots_test (x2 : Option D) : evT g__law_struck (.cmp .ne (.v 3) (.lst .nil)) (sk s x2) μ = .ok (!(spotsL s).isEmpty) μ := by
  have z := fEq_ok (x := .lst ((spotsL s).map .int)) (y := .lst []) (neg := true) (k := 1) (j := 1) (μ := μ) (by simp [top, dok, doks_ints]) (by simp [top, dok, doks]) (by omega) (by omega)
  simp only [top, eqD_nil] at z
  have z : CK.f .ne (.lst ((spotsL s).map .int)) (.lst []) μ = .ok (.bl (!(spotsL s).isEmpty)) μ := z
  rw [evT_cmp, ev_cmp, show evE g__law_struck (.v 3) (sk s x2) μ = .ok (.lst ((spotsL s).map .int)) μ from rfl, er_bind_ok, show evE g__law_struck (.lst .nil) (sk s x2) μ = .ok (.lst []) μ from rfl, er_bind_ok, z, er_bindT_ok]
theorem body_ok (hc : Clean t) (hL : s.all isL = true) (hl : s.length ≤ 100) (h : spotsL s ≠ []) (hn : n ≤ 900000) (hp : PenL n m) {x2 : Option D} : ∃ s' m' y2, evSs g__law_struck b__law_struck_1 (sk s x2) (m :: t) = .nx (sk s' y2) (m' :: t) ∧ s'.all isL = true ∧ s'.length < s.length ∧ times [] s' = times [] s ∧ PenL (n + 1) m' := by
  have hsl := spot_len s
  obtain ⟨d, m', e, hd, p1⟩ := pick n ((spotsL s).map .int) m t (by simpa using h) (by rw [List.length_map]; omega) (by omega) hp
  obtain ⟨x, hx, rfl⟩ := List.mem_map.mp hd
  obtain ⟨i, hi, rfl, es⟩ := spot_mem hx
  have e2 : evS g__law_struck t__law_struck_2 (sk s x2) (m :: t) = .nx (sk s (some (.int ((i + 1 : Nat) : Int)))) (m' :: t) := by
    unfold t__law_struck_2
    rw [evS_asg, call2 (y := .loc 0) (z := .lst ((spotsL s).map .int)) (μ' := m :: t) (μ2 := m :: t) (x := "_law_pick") (f := m__law_pick) (la := false) rfl rfl rfl, e, er_bindS_ok]
    rfl
  obtain ⟨s', hs'⟩ : ∃ s', s' = s.take i ++ s.drop (i + 2) := ⟨_, rfl⟩
  have L' : s'.all isL = true := by
    rw [hs', List.all_append, Bool.and_eq_true]
    exact ⟨List.all_eq_true.mpr fun x hx => List.all_eq_true.mp hL x (List.mem_of_mem_take hx), List.all_eq_true.mpr fun x hx => List.all_eq_true.mp hL x (List.mem_of_mem_drop hx)⟩
  have l' : s'.length < s.length := by rw [hs', List.length_append, List.length_take, List.length_drop]; omega
  have e3 : evS g__law_struck t__law_struck_3 (sk s (some (.int ((i + 1 : Nat) : Int)))) (m' :: t) = .nx [some (.loc 0), some (.str s'), some (.int ((i + 1 : Nat) : Int)), some (.lst ((spotsL s).map .int)), none] (m' :: t) := by
    have v1 : evE g__law_struck (.v 1) (sk s (some (.int ((i + 1 : Nat) : Int)))) (m' :: t) = .ok (.str s) (m' :: t) := rfl
    have p1 : evP g__law_struck (.som (.bin .sub (.v 2) (.k (.int 1)))) (sk s (some (.int ((i + 1 : Nat) : Int)))) (m' :: t) = .ok (.int ((i + 1 : Nat) - 1 : Int)) (m' :: t) := evP_int rfl
    have p2 : evP g__law_struck (.som (.bin .add (.v 2) (.k (.int 1)))) (sk s (some (.int ((i + 1 : Nat) : Int)))) (m' :: t) = .ok (.int ((i + 1 : Nat) + 1 : Int)) (m' :: t) := evP_int rfl
    have q1 : cutG s none (some ((i + 1 : Nat) - 1 : Int)) = s.take i := by
      rw [cut_to (by omega) (by omega)]
      congr 1; omega
    have q2 : cutG s (some ((i + 1 : Nat) + 1 : Int)) none = s.drop (i + 2) := by
      rw [cut_from (by omega) (by omega)]
      congr 1
    have q3 : catOk (s.take i).length (s.drop (i + 2)).length = true := decide_eq_true (by rw [List.length_take, List.length_drop]; omega)
    unfold t__law_struck_3
    rw [evS_asg, ev_bin, ev_sl, v1, er_bind_ok, evP_no, er_bind_ok, ixOf_non]
    dsimp only
    rw [p1, er_bind_ok, ixOf_int]
    dsimp only
    rw [fCut_str, line_ok (by omega), if_pos rfl, er_bind_ok, ev_sl, v1, er_bind_ok, p2, er_bind_ok, ixOf_int]
    dsimp only
    rw [evP_no, er_bind_ok, ixOf_non]
    dsimp only
    rw [fCut_str, line_ok (by omega), if_pos rfl, er_bind_ok, q1, q2, bf_addS, q3, if_pos rfl, er_bindS_ok, ← hs']
    rfl
  have e4 : evS g__law_struck t__law_struck_4 [some (.loc 0), some (.str s'), some (.int ((i + 1 : Nat) : Int)), some (.lst ((spotsL s).map .int)), none] (m' :: t) = .nx (sk s' (some (.int ((i + 1 : Nat) : Int)))) (m' :: t) := by
    have q := spots_ev (s := s') L' (by omega) (hc.cons (isPenL.less p1)) (some (.loc 0)) (some (.int ((i + 1 : Nat) : Int))) (some (.lst ((spotsL s).map .int))) none
    have q : evE g__law_struck q__law_struck_2 [some (.loc 0), some (.str s'), some (.int ((i + 1 : Nat) : Int)), some (.lst ((spotsL s).map .int)), none] (m' :: t) = _ := q
    unfold t__law_struck_4
    rw [evS_asgL, q, er_bindS_ok]
    rfl
  exact ⟨s', m', _, (step e2).trans ((step e3).trans (evSs_one.trans e4)), L', l', by rw [hs']; exact times_cut hL hi es, p1⟩
theorem struck_go (hc : Clean t) : ∀ (N : Nat) (s : List Nat) (n : Int) (m : M) (fuel : Nat) (x2 : Option D), s.length ≤ N → N < fuel → s.all isL = true → s.length ≤ 100 → n + N ≤ 900000 → PenL n m →
    ∃ s' m' y2, whileGo (evT g__law_struck (.cmp .ne (.v 3) (.lst .nil))) (evSs g__law_struck b__law_struck_1) fuel (sk s x2) (m :: t) = .nx (sk s' y2) (m' :: t) ∧ chW s' = true ∧ s'.all isL = true ∧ s'.length ≤ 100 ∧ times [] s' = times [] s ∧ PenL (n + N) m' := by
  intro N
  induction N with
  | zero =>
    intro s n m fuel x2 h1 h2 hL hl hn hp
    obtain ⟨f, rfl⟩ : ∃ f, fuel = f + 1 := ⟨fuel - 1, by omega⟩
    have hs : spotsL s = [] := by
      have := spot_len s
      exact List.length_eq_zero_iff.mp (by omega)
    refine ⟨s, m, x2, ?_, spot_nil hL hs, hL, hl, rfl, by simpa using hp⟩
    unfold whileGo
    rw [spots_test, tr_bindS_ok, hs]
    rfl
  | succ N ih =>
    intro s n m fuel x2 h1 h2 hL hl hn hp
    obtain ⟨f, rfl⟩ : ∃ f, fuel = f + 1 := ⟨fuel - 1, by omega⟩
    by_cases hs : spotsL s = []
    · refine ⟨s, m, x2, ?_, spot_nil hL hs, hL, hl, rfl, isPenL.mono hp (by omega)⟩
      unfold whileGo
      rw [spots_test, tr_bindS_ok, hs]
      rfl
    · obtain ⟨s1, m1, y1, e1, L1, l1, t1, p1⟩ := body_ok hc hL hl hs (by omega) hp (x2 := x2)
      obtain ⟨s2, m2, y2, e2, c2, L2, l2, t2, p2⟩ := ih s1 (n + 1) m1 f y1 (by omega) (by omega) L1 (by omega) (by push_cast at hn; omega) p1
      refine ⟨s2, m2, y2, ?_, c2, L2, l2, t2.trans t1, isPenL.mono p2 (by push_cast; omega)⟩
      unfold whileGo
      rw [spots_test, tr_bindS_ok, show (!(spotsL s).isEmpty) = true from by simpa using hs, if_pos rfl, e1]
      exact e2
theorem lawstruck_ok (hc : Clean t) (hL : s.all isL = true) (hl : s.length ≤ 100) (hn : n ≤ 800000) (hp : PenL n m) : ∃ m', m__law_struck [.loc 0, .str s] (m :: t) = .ok (.str (times [] s)) (m' :: t) ∧ PenL (n + 100) m' := by
  obtain ⟨s', m', y2, e, c, L', l', tt, p⟩ := struck_go hc 100 s n m 1000000000000 none hl (by omega) hL hl (by omega) hp
  have ew : times [] s = s' := by rw [← tt, times_whole L' c]
  refine ⟨m', ?_, p⟩
  have q := spots_ev (s := s) hL (by omega) (hc.cons (isPenL.less hp)) (some (.loc 0)) none none none
  have e1 : evS g__law_struck t__law_struck_1 [some (.loc 0), some (.str s), none, none, none] (m :: t) = .nx (sk s none) (m :: t) := by
    have q : evE g__law_struck q__law_struck_1 [some (.loc 0), some (.str s), none, none, none] (m :: t) = _ := q
    unfold t__law_struck_1
    rw [evS_asgL, q, er_bindS_ok]
    rfl
  have e5 : evS g__law_struck t__law_struck_5 (sk s none) (m :: t) = .nx (sk s' y2) (m' :: t) := e
  rw [ew]
  exact fn_rt (δ' := sk s' y2) rfl ((step e1).trans ((step e5).trans rfl)) rfl
end
end K01

/-! k01: a turn. -/
namespace K01
open PySem PySem.Spec PyProof.Rows L2 DL
def sl (s : D) (x2 x3 x4 x5 x6 x7 x8 x9 x10 x11 x12 x13 : Option D) : Dv := [some s, some (.loc 0), x2, x3, x4, x5, x6, x7, x8, x9, x10, x11, x12, x13, none, none]
section
variable {sc : D} {x2 x3 x4 x5 x6 x7 x8 x9 x10 x11 x12 x13 : Option D} {m : M} {μ : List M} {n : Int} {s a b c : List Nat} {δ : Dv}
theorem dok_str {s : List Nat} (h : s.all isL = true) (k : Nat) : dok (.str s) k = true := by
  simp only [dok]
  exact isL_all h
theorem P2 {x y : CE} (h1 : evE g_law x δ μ = .ok (.str a) μ) (h2 : evE g_law y δ μ = .ok (.str b) μ) (ha : isW a = true) (hb : isW b = true) (hl : a.length + b.length ≤ 10000) : evE g_law (.call 2 (.cons x (.cons y .nil)) .nil) δ μ = .ok (.str (times a b)) μ := by
  rw [call2 (y := .str a) (z := .str b) (μ' := μ) (μ2 := μ) (x := "product") (f := m_product) (la := false) rfl h1 h2, product ha hb (by omega)]
theorem U1 {x : CE} (h1 : evE g_law x δ μ = .ok (.str a) μ) (ha : isW a = true) (hl : a.length ≤ 10000) : evE g_law (.call 3 (.cons x .nil) .nil) δ μ = .ok (.str (undW a)) μ := by
  rw [call1 (y := .str a) (μ' := μ) (x := "undone") (f := m_undone) (la := false) rfl h1, undone ha (by omega)]
theorem neW {x y : CE} (h1 : evE g_law x δ μ = .ok (.str a) μ) (h2 : evE g_law y δ μ = .ok (.str a) μ) (ha : a.all isL = true) : evT g_law (.cmp .ne x y) δ μ = .ok false μ := ne_same (dok_str ha 1) (by decide) h1 h2
abbrev D3 (sc : D) (x2 : Option D) (a b c : List Nat) (x6 x7 x8 x9 x10 x11 x12 x13 : Option D) : Dv := sl sc x2 (some (.str a)) (some (.str b)) (some (.str c)) x6 x7 x8 x9 x10 x11 x12 x13
theorem st2 (hn : n ≤ 800000) (hp : PenL n m) : ∃ (a b c : List Nat) (m' : M), evS g_law t_law_2 (sl sc x2 x3 x4 x5 x6 x7 x8 x9 x10 x11 x12 x13) [m] = .nx (D3 sc x2 a b c x6 x7 x8 x9 x10 x11 x12 x13) [m'] ∧ (isW a = true ∧ a.length ≤ 20) ∧ (isW b = true ∧ b.length ≤ 20) ∧ (isW c = true ∧ c.length ≤ 9) ∧ PenL (n + 60) m' := by
  obtain ⟨a, m1, e1, ha, la, p1⟩ := word n 20 m [] (by decide) (by omega) hp Clean.nil
  obtain ⟨b, m2, e2, hb, lb, p2⟩ := word (n + 1 + (20 : Nat)) 20 m1 [] (by decide) (by omega) p1 Clean.nil
  obtain ⟨c, m3, e3, hc, lc, p3⟩ := word (n + 1 + (20 : Nat) + 1 + (20 : Nat)) 9 m2 [] (by decide) (by omega) p2 Clean.nil
  refine ⟨a, b, c, m3, ?_, ⟨ha, la⟩, ⟨hb, lb⟩, ⟨hc, lc⟩, isPenL.mono p3 (by omega)⟩
  unfold t_law_2
  show mPar3 3 4 5 (evA g_law _) _ _ = _
  unfold mPar3
  rw [evA_cons, call2 (y := .loc 0) (z := .int 20) (μ' := [m]) (μ2 := [m]) (x := "_law_word") (f := m__law_word) (la := false) rfl rfl rfl]
  rw [show ((20 : Int)) = ((20 : Nat) : Int) from rfl, e1, er_bindA_ok, evA_cons, call2 (y := .loc 0) (z := .int 20) (μ' := [m1]) (μ2 := [m1]) (x := "_law_word") (f := m__law_word) (la := false) rfl rfl rfl]
  rw [show ((20 : Int)) = ((20 : Nat) : Int) from rfl, e2, er_bindA_ok, evA_cons, call2 (y := .loc 0) (z := .int 9) (μ' := [m2]) (μ2 := [m2]) (x := "_law_word") (f := m__law_word) (la := false) rfl rfl rfl]
  rw [show ((9 : Int)) = ((9 : Nat) : Int) from rfl, e3, er_bindA_ok]
  rfl
theorem st4 (ha : isW a = true) (la : a.length ≤ 20) (hb : isW b = true) (lb : b.length ≤ 20) (hc : isW c = true) (lc : c.length ≤ 9) : evS g_law t_law_4 (D3 sc x2 a b c x6 x7 x8 x9 x10 x11 x12 x13) μ = .nx (D3 sc x2 a b c x6 x7 x8 x9 x10 x11 x12 x13) μ := by
  obtain ⟨δ, hδ⟩ : ∃ δ, δ = D3 sc x2 a b c x6 x7 x8 x9 x10 x11 x12 x13 := ⟨_, rfl⟩
  have v3 : evE g_law (.v 3) δ μ = .ok (.str a) μ := by rw [hδ]; rfl
  have v4 : evE g_law (.v 4) δ μ = .ok (.str b) μ := by rw [hδ]; rfl
  have v5 : evE g_law (.v 5) δ μ = .ok (.str c) μ := by rw [hδ]; rfl
  have v0 : evE g_law (.k (.str [])) δ μ = .ok (.str []) μ := rfl
  have l1 := times_len_le a b
  have l2 := times_len_le b c
  have w1 := isW_times ha (isW_L hb)
  have w2 := isW_times hb (isW_L hc)
  have e1 := P2 (P2 v3 v4 ha hb (by omega)) v5 w1 hc (by omega)
  rw [times_assoc ha (isW_L hb) (isW_L hc)] at e1
  have e2 := P2 v3 (P2 v4 v5 hb hc (by omega)) ha w2 (by omega)
  have q1 := neW e1 e2 (isW_L (isW_times ha (isW_L w2)))
  have e3 := P2 v3 v0 ha isW_nil (by simp; omega)
  rw [times_nilR] at e3
  have e4 := P2 v0 v3 isW_nil ha (by simp; omega)
  rw [times_nilL ha] at e4
  have q2 := neW e3 v3 (isW_L ha)
  have q3 := neW e4 v3 (isW_L ha)
  rw [← hδ]
  unfold t_law_4
  rw [evS_ite, evT_or, evTOr_cons, q1, tr_bind_ok, if_neg (by decide), evTOr_cons, q2, tr_bind_ok, if_neg (by decide), evTOr_one, q3]
  rfl
theorem st6 (ha : isW a = true) (la : a.length ≤ 20) (hb : isW b = true) (lb : b.length ≤ 20) : evS g_law t_law_6 (D3 sc x2 a b c x6 x7 x8 x9 x10 x11 x12 x13) μ = .nx (D3 sc x2 a b c x6 x7 x8 x9 x10 x11 x12 x13) μ := by
  obtain ⟨δ, hδ⟩ : ∃ δ, δ = D3 sc x2 a b c x6 x7 x8 x9 x10 x11 x12 x13 := ⟨_, rfl⟩
  have v3 : evE g_law (.v 3) δ μ = .ok (.str a) μ := by rw [hδ]; rfl
  have v4 : evE g_law (.v 4) δ μ = .ok (.str b) μ := by rw [hδ]; rfl
  have v0 : evE g_law (.k (.str [])) δ μ = .ok (.str []) μ := rfl
  have l1 := times_len_le a b
  have w1 := isW_times ha (isW_L hb)
  have ua := isW_undW ha
  have ub := isW_undW hb
  have la' := undW_len a
  have lb' := undW_len b
  have e1 := P2 v3 (U1 v3 ha (by omega)) ha ua (by omega)
  rw [times_undo (isW_L ha)] at e1
  have q1 := neW e1 v0 rfl
  have e2 := U1 (P2 v3 v4 ha hb (by omega)) w1 (by omega)
  rw [undW_times ha hb] at e2
  have e3 := P2 (U1 v4 hb (by omega)) (U1 v3 ha (by omega)) ub ua (by omega)
  have q2 := neW e2 e3 (isW_L (isW_times ub (isW_L ua)))
  have e4 := U1 (U1 v4 hb (by omega)) ub (by omega)
  rw [undW_undW (isW_L hb)] at e4
  have q3 := neW e4 v4 (isW_L hb)
  rw [← hδ]
  unfold t_law_6
  rw [evS_ite, evT_or, evTOr_cons, q1, tr_bind_ok, if_neg (by decide), evTOr_cons, q2, tr_bind_ok, if_neg (by decide), evTOr_one, q3]
  rfl
theorem st7 (hn : n ≤ 800000) (hp : PenL n m) : ∃ (s : List Nat) (m' : M), evS g_law t_law_7 (D3 sc x2 a b c x6 x7 x8 x9 x10 x11 x12 x13) [m] = .nx (D3 sc x2 a b c (some (.str s)) x7 x8 x9 x10 x11 x12 x13) [m'] ∧ s.all isL = true ∧ s.length ≤ 24 ∧ PenL (n + 30) m' := by
  obtain ⟨v, m1, e1, v0, v1, p1⟩ := draw n 24 m [] (by omega) (by omega) (by omega) hp
  obtain ⟨j, rfl⟩ : ∃ j : Nat, v = j := ⟨v.toNat, by omega⟩
  have hi : evE g_law (.call 4 (.cons (.v 1) (.cons (.k (.int 24)) .nil)) .nil) (D3 sc x2 a b c x6 x7 x8 x9 x10 x11 x12 x13) [m] = .ok (.int (j : Int)) [m1] := by
    rw [call2 (y := .loc 0) (z := .int 24) (μ' := [m]) (μ2 := [m]) (x := "_law_draw") (f := m__law_draw) (la := false) rfl rfl rfl, e1]
  obtain ⟨out, μ', q, s, m2, rfl, rfl, hs, hl, hp2⟩ := mLc_inv (Γ := g_law) (δ := D3 sc x2 a b c x6 x7 x8 x9 x10 x11 x12 x13) (μ := [m]) (it := .rng1 (.call 4 (.cons (.v 1) (.cons (.k (.int 24)) .nil)) .nil)) (g := .nm 15) (t := .yes) (e := .call 5 (.cons (.v 1) (.cons (.lst (.cons (.k (.str [65])) (.cons (.k (.str [66])) (.cons (.k (.str [97])) (.cons (.k (.str [98])) .nil))))) .nil)) .nil) (vs := [14, 15]) (l := rngItems 0 j) (gg := fun _ => some (rngItems 0 j)) (μ1 := [m1])
    (fun i acc μ' => ∃ (s : List Nat) (m2 : M), acc = strItems s ∧ μ' = [m2] ∧ s.all isL = true ∧ s.length = i ∧ PenL (n + 1 + i) m2) (by rw [rng_len]; exact evI_rng1 hi (by simp [rngOk]; omega)) (fun _ _ _ _ => rfl)
    (fun i acc μ' ⟨s, m2, e1, e2, hs, hl, hp2⟩ => by rw [e1, str_items_len]; omega)
    (fun i hi acc μ' ⟨s, m2, e1, e2, hs, hl, hp2⟩ => by
      subst e1 e2
      rw [rng_len] at hi
      obtain ⟨d, m3, e3, hd, p3⟩ := pick (n + 1 + i) lABab m2 [] (by simp [lABab]) (by simp [lABab]) (by omega) hp2
      obtain ⟨c, rfl, hc⟩ := lABab_L hd
      refine ⟨_, rfl, .inl ⟨_, .str [c], [m3], rfl, ?_, s ++ [c], m3, by rw [items_app]; rfl, rfl, by simp [hs, hc], by simp [hl], isPenL.mono p3 (by push_cast; omega)⟩⟩
      rw [call2 (y := .loc 0) (z := .lst lABab) (μ' := [m2]) (μ2 := [m2]) (x := "_law_pick") (f := m__law_pick) (la := false) rfl rfl rfl, e3]) (by rw [rng_len]; omega) ⟨[], m1, rfl, rfl, rfl, rfl, by simpa using p1⟩
  rw [rng_len] at hl hp2
  refine ⟨s, m2, ?_, hs, by omega, isPenL.mono hp2 (by omega)⟩
  have q' : evE g_law q_law_1 (D3 sc x2 a b c x6 x7 x8 x9 x10 x11 x12 x13) [m] = .ok (.lst (strItems s)) [m2] := q
  unfold t_law_7
  rw [evS_asg, ev_bm, ev_k, kd_str, er_bind_ok, show ∀ μ, BM.g .join0 (.str []) μ = true from fun _ => rfl, if_pos rfl, evA_cons, q', er_bindA_ok, evA_nil, ar_bind_ok, ar_bindE_ok, join_items (s := s) rfl (by omega), er_bindS_ok]
  rfl
theorem st9 (hs : s.all isL = true) (ls : s.length ≤ 24) (hn : n ≤ 800000) (hp : PenL n m) : ∃ m', evS g_law t_law_9 (D3 sc x2 a b c (some (.str s)) x7 x8 x9 x10 x11 x12 x13) [m] = .nx (D3 sc x2 a b c (some (.str s)) x7 x8 x9 x10 x11 x12 x13) [m'] ∧ PenL (n + 100) m' := by
  obtain ⟨m', e, p⟩ := lawstruck_ok (t := []) Clean.nil hs (by omega) hn hp
  refine ⟨m', ?_, p⟩
  have q1 : evE g_law (.call 6 (.cons (.v 6) .nil) .nil) (D3 sc x2 a b c (some (.str s)) x7 x8 x9 x10 x11 x12 x13) [m] = .ok (.str (times [] s)) [m] := by
    rw [call1 (y := .str s) (μ' := [m]) (x := "reduced") (f := m_reduced) (la := false) rfl rfl, reduced hs (by omega) (Clean.nil.cons (isPenL.less hp))]
  have q2 : evE g_law (.call 7 (.cons (.v 1) (.cons (.v 6) .nil)) .nil) (D3 sc x2 a b c (some (.str s)) x7 x8 x9 x10 x11 x12 x13) [m] = .ok (.str (times [] s)) [m'] := by
    rw [call2 (y := .loc 0) (z := .str s) (μ' := [m]) (μ2 := [m]) (x := "_law_struck") (f := m__law_struck) (la := false) rfl rfl rfl, e]
  unfold t_law_9
  rw [evS_ite, ne_same (dok_str (isW_L (isW_times isW_nil hs)) 1) (by decide) q1 q2]
  rfl
theorem st11 (ha : isW a = true) (la : a.length ≤ 20) (hb : isW b = true) (lb : b.length ≤ 20) : evS g_law t_law_11 (D3 sc x2 a b c x6 x7 x8 x9 x10 x11 x12 x13) μ = .nx (D3 sc x2 a b c x6 x7 x8 x9 x10 x11 x12 x13) μ := by
  obtain ⟨δ, hδ⟩ : ∃ δ, δ = D3 sc x2 a b c x6 x7 x8 x9 x10 x11 x12 x13 := ⟨_, rfl⟩
  have v3 : evE g_law (.v 3) δ μ = .ok (.str a) μ := by rw [hδ]; rfl
  have v4 : evE g_law (.v 4) δ μ = .ok (.str b) μ := by rw [hδ]; rfl
  have a3 : evE g_law (.call 8 (.cons (.v 3) .nil) .nil) δ μ = .ok (.tup [.int a.length, .str a]) μ := by
    rw [call1 (y := .str a) (μ' := μ) (x := "ahead") (f := m_ahead) (la := false) rfl v3, ahead ha (by omega)]
  have a4 : evE g_law (.call 8 (.cons (.v 4) .nil) .nil) δ μ = .ok (.tup [.int b.length, .str b]) μ := by
    rw [call1 (y := .str b) (μ' := μ) (x := "ahead") (f := m_ahead) (la := false) rfl v4, ahead hb (by omega)]
  have l3 : evE g_law (.bi .len (.cons (.v 3) .nil)) δ μ = .ok (.int a.length) μ := by
    rw [ev_bi, evA_cons, v3, er_bindA_ok, evA_nil, ar_bind_ok, ar_bindE_ok, bi_lenS, line_ok (by omega), if_pos rfl]
  have l4 : evE g_law (.bi .len (.cons (.v 4) .nil)) δ μ = .ok (.int b.length) μ := by
    rw [ev_bi, evA_cons, v4, er_bindA_ok, evA_nil, ar_bind_ok, ar_bindE_ok, bi_lenS, line_ok (by omega), if_pos rfl]
  have e1 : evE g_law (.cmp .ltD (.call 8 (.cons (.v 3) .nil) .nil) (.call 8 (.cons (.v 4) .nil) .nil)) δ μ = .ok (.bl (decide ((a.length : Int) < b.length ∨ ((a.length : Int) = b.length ∧ a < b)))) μ := by
    rw [ev_cmp, a3, er_bind_ok, a4, er_bind_ok, lt_keys]
  have e2 : evE g_law (.or (.cons (.cmp .lt (.bi .len (.cons (.v 3) .nil)) (.bi .len (.cons (.v 4) .nil))) (.cons (.and (.cons (.cmp .eq (.bi .len (.cons (.v 3) .nil)) (.bi .len (.cons (.v 4) .nil))) (.cons (.cmp .ltD (.v 3) (.v 4)) .nil))) .nil))) δ μ = .ok (.bl (decide ((a.length : Int) < b.length ∨ ((a.length : Int) = b.length ∧ a < b)))) μ := by
    rw [ev_or, evOr_cons, ev_cmp, l3, er_bind_ok, l4, er_bind_ok, show CK.f .lt (.int a.length) (.int b.length) μ = .ok (.bl (decide ((a.length : Int) < b.length))) μ from rfl, er_bind_ok]
    by_cases h1 : (a.length : Int) < b.length
    · simp [h1]
    · dsimp only
      rw [decide_eq_false h1, if_neg (by decide), evOr_one, ev_and, evAnd_cons, ev_cmp, l3, er_bind_ok, l4, er_bind_ok, cf_eqI, er_bind_ok]
      dsimp only
      by_cases h2 : (a.length : Int) = b.length
      · rw [if_pos (by simpa using h2), evAnd_one, ev_cmp, v3, er_bind_ok, v4, er_bind_ok, lt_strs]
        simp [h2]
      · rw [if_neg (by simpa using h2)]
        simp [h1, h2]
  rw [← hδ]
  unfold t_law_11
  rw [evS_ite, ne_same (d := .bl _) (k := 0) rfl (by decide) e1 e2]
  rfl
theorem turn (hn : n ≤ 700000) (hp : PenL n m) : ∃ y3 y4 y5 y6 m', evSs g_law b_law_1 (sl sc x2 x3 x4 x5 x6 x7 x8 x9 x10 x11 x12 x13) [m] = .nx (sl sc x2 y3 y4 y5 y6 x7 x8 x9 x10 x11 x12 x13) [m'] ∧ PenL (n + 1000) m' := by
  obtain ⟨a, b, c, m1, e2, ⟨ha, la⟩, ⟨hb, lb⟩, ⟨hc, lc⟩, p1⟩ := st2 (sc := sc) (x2 := x2) (x3 := x3) (x4 := x4) (x5 := x5) (x6 := x6) (x7 := x7) (x8 := x8) (x9 := x9) (x10 := x10) (x11 := x11) (x12 := x12) (x13 := x13) (by omega) hp
  have e4 := st4 (sc := sc) (x2 := x2) (x6 := x6) (x7 := x7) (x8 := x8) (x9 := x9) (x10 := x10) (x11 := x11) (x12 := x12) (x13 := x13) (μ := [m1]) ha la hb lb hc lc
  have e6 := st6 (c := c) (sc := sc) (x2 := x2) (x6 := x6) (x7 := x7) (x8 := x8) (x9 := x9) (x10 := x10) (x11 := x11) (x12 := x12) (x13 := x13) (μ := [m1]) ha la hb lb
  obtain ⟨s, m2, e7, hs, ls, p2⟩ := st7 (a := a) (b := b) (c := c) (sc := sc) (x2 := x2) (x6 := x6) (x7 := x7) (x8 := x8) (x9 := x9) (x10 := x10) (x11 := x11) (x12 := x12) (x13 := x13) (by omega) p1
  obtain ⟨m3, e9, p3⟩ := st9 (a := a) (b := b) (c := c) (sc := sc) (x2 := x2) (x7 := x7) (x8 := x8) (x9 := x9) (x10 := x10) (x11 := x11) (x12 := x12) (x13 := x13) hs ls (by omega) p2
  have e11 := st11 (c := c) (sc := sc) (x2 := x2) (x6 := some (.str s)) (x7 := x7) (x8 := x8) (x9 := x9) (x10 := x10) (x11 := x11) (x12 := x12) (x13 := x13) (μ := [m3]) ha la hb lb
  exact ⟨_, _, _, _, m3, (step e2).trans ((step e4).trans ((step e6).trans ((step e7).trans ((step e9).trans (evSs_one.trans e11))))), isPenL.mono p3 (by omega)⟩
theorem law_loop (hp : PenL 0 m) : ∃ y2 y3 y4 y5 y6 m', evS g_law t_law_12 (sl sc none none none none none none none none none none none none) [m] = .nx (sl sc y2 y3 y4 y5 y6 none none none none none none none) [m'] ∧ PenL 10000 m' := by
  obtain ⟨δ', μ', e, m', y2, y3, y4, y5, y6, rfl, rfl, hp2⟩ := mFor_thru (Γ := g_law) (δ := sl sc none none none none none none none none none none none none) (μ := [m]) (it := .rng1 (.k (.int 10))) (g := .nm 2) (b := b_law_1) (l := rngItems 0 10)
    (fun i δ μ => ∃ m' y2 y3 y4 y5 y6, δ = sl sc y2 y3 y4 y5 y6 none none none none none none none ∧ μ = [m'] ∧ PenL (1000 * i) m') (evI_rng1 (j := 10) rfl rfl) (fun _ _ _ _ => rfl)
    (fun i hi δ μ ⟨m', y2, y3, y4, y5, y6, e1, e2, hp⟩ => by
      subst e1 e2
      rw [rng_len] at hi
      obtain ⟨z3, z4, z5, z6, m2, e3, p3⟩ := turn (sc := sc) (x2 := some (rngItems 0 10)[i]) (x3 := y3) (x4 := y4) (x5 := y5) (x6 := y6) (x7 := none) (x8 := none) (x9 := none) (x10 := none) (x11 := none) (x12 := none) (x13 := none) (by omega) hp
      exact ⟨_, _, _, rfl, e3, m2, _, z3, z4, z5, z6, rfl, rfl, isPenL.mono p3 (by push_cast; omega)⟩)
    ⟨m, none, none, none, none, none, rfl, rfl, hp⟩
  exact ⟨y2, y3, y4, y5, y6, m', e, isPenL.mono hp2 (by rw [rng_len]; decide)⟩
end
end K01

/-! k01: all words of a size, what is refused, the law. -/
namespace K01
open PySem PySem.Spec PyProof.Rows L2 DL
section
variable {sc : D} {x2 x3 x4 x5 x6 x7 x8 x9 x10 x11 x12 x13 : Option D} {m : M} {μ : List M} {n : Int} {z : Nat} {δ : Dv} {p : D}
def E6 : List D := (upW 6).map .str
def W6 (z : Nat) : List D := (wl z).map .str
theorem up6_len : (upW 6).length ≤ 28672 := up_len 6
theorem st13 (hn : n ≤ 800000) (hp : PenL n m) : ∃ (z : Nat) (m' : M), evS g_law t_law_13 (sl sc x2 x3 x4 x5 x6 x7 x8 x9 x10 x11 x12 x13) [m] = .nx (sl sc x2 x3 x4 x5 x6 (some (.int z)) (some (.lst E6)) x9 x10 x11 x12 x13) [m'] ∧ z ≤ 6 ∧ PenL (n + 1) m' := by
  obtain ⟨v, m1, e1, v0, v1, p1⟩ := draw n 7 m [] (by omega) (by omega) (by omega) hp
  obtain ⟨z, rfl⟩ : ∃ j : Nat, v = j := ⟨v.toNat, by omega⟩
  have q := law_words (μ := [m1]) (Clean.nil.cons (isPenL.less p1))
  refine ⟨z, m1, ?_, by omega, p1⟩
  unfold t_law_13
  rw [evS_asg, ev_tup, evA_cons, call2 (y := .loc 0) (z := .int 7) (μ' := [m]) (μ2 := [m]) (x := "_law_draw") (f := m__law_draw) (la := false) rfl rfl rfl, e1, er_bindA_ok, evA_cons, call1 (y := .int 6) (μ' := [m1]) (x := "_law_words") (f := m__law_words) (la := false) rfl rfl, q, er_bindA_ok, evA_nil, ar_bind_ok, ar_bind_ok, ar_bindE_ok]
  rw [show ∀ (a b : D), lineOk [a, b].length = true from fun _ _ => by simp [lineOk], if_pos rfl, er_bindS_ok]
  rfl
theorem flt_ok (g : Nat → Bool) {t : CT} (δ : Dv) (hw : wipeD δ [14, 9] = δ.set 9 none) (vs : List Nat) (hvs : wipeD δ vs = (δ.set 9 none)) (h8 : evE g_law (.v 8) δ μ = .ok (.lst E6) μ) (ht : ∀ w : List Nat, w.length ≤ 6 → evT g_law t ((δ.set 9 none).set 9 (some (.str w))) μ = .ok (g w.length) μ) (h9 : ∀ w : D, evE g_law (.v 9) ((δ.set 9 none).set 9 (some w)) μ = .ok w μ) :
    mLcB false (evI g_law (.seq (.v 8))) (evG (.nm 9)) (evT g_law t) (evE g_law (.v 9)) vs δ μ = .ok (.lst (((upW 6).filter fun w => g w.length).map .str)) μ := by
  rw [mLc_pure (fun d => match d with | .str w => g w.length | _ => false) id (evI_seqL h8) rfl (fun d hd => by
    obtain ⟨w, hw, rfl⟩ := List.mem_map.mp hd
    refine ⟨(δ.set 9 none).set 9 (some (.str w)), by rw [hvs]; rfl, ht w (mem_up 6 w hw).2, fun _ => h9 _⟩) (by unfold E6; rw [List.length_map]; have := up6_len; omega)]
  rw [List.map_id]
  unfold E6
  rw [List.filter_map]
  rfl
theorem len9 {w : List Nat} (hw : w.length ≤ 6) (h9 : evE g_law (.v 9) δ μ = .ok (.str w) μ) : evE g_law (.bi .len (.cons (.v 9) .nil)) δ μ = .ok (.int w.length) μ := by
  rw [ev_bi, evA_cons, h9, er_bindA_ok, evA_nil, ar_bind_ok, ar_bindE_ok, bi_lenS, line_ok (by omega), if_pos rfl]
abbrev S8 (sc : D) (x2 x3 x4 x5 x6 : Option D) (z : Nat) (x9 x10 x11 x12 x13 : Option D) : Dv := sl sc x2 x3 x4 x5 x6 (some (.int z)) (some (.lst E6)) x9 x10 x11 x12 x13
theorem st14 (hz : z ≤ 6) : evS g_law t_law_14 (S8 sc x2 x3 x4 x5 x6 z x9 x10 x11 x12 x13) μ = .nx (S8 sc x2 x3 x4 x5 x6 z x9 (some (.tup (W6 z))) x11 x12 x13) μ := by
  have q : evE g_law q_law_2 (S8 sc x2 x3 x4 x5 x6 z x9 x10 x11 x12 x13) μ = .ok (.lst (((upW 6).filter fun w => w.length == z).map .str)) μ := by
    unfold q_law_2
    rw [ev_lc]
    exact flt_ok (fun k => k == z) _ rfl _ rfl rfl (fun w hw => by
      rw [evT_cmp, ev_cmp, len9 hw rfl, er_bind_ok, show evE g_law (.v 7) _ μ = .ok (.int z) μ from rfl, er_bind_ok, cf_eqI, er_bindT_ok, show ((w.length : Int) == (z : Int)) = (w.length == z) from by rw [Bool.eq_iff_iff, beq_iff_eq, beq_iff_eq]; omega]) (fun _ => rfl)
  rw [up_eq z 6, if_pos hz] at q
  unfold t_law_14
  rw [evS_asg, ev_bi, evA_cons, q, er_bindA_ok, evA_nil, ar_bind_ok, ar_bindE_ok, bi_tupL, er_bindS_ok]
  rfl
theorem q3_ok (hz : z ≤ 6) : evE g_law q_law_3 (S8 sc x2 x3 x4 x5 x6 z x9 x10 x11 x12 x13) μ = .ok (.lst ((upW z).map .str)) μ := by
  have q : evE g_law q_law_3 (S8 sc x2 x3 x4 x5 x6 z x9 x10 x11 x12 x13) μ = .ok (.lst (((upW 6).filter fun w => decide (w.length ≤ z)).map .str)) μ := by
    unfold q_law_3
    rw [ev_lc]
    exact flt_ok (fun k => decide (k ≤ z)) _ rfl _ rfl rfl (fun w hw => by
      rw [evT_cmp, ev_cmp, len9 hw rfl, er_bind_ok, show evE g_law (.v 7) _ μ = .ok (.int z) μ from rfl, er_bind_ok, cf_le, er_bindT_ok, show decide ((w.length : Int) ≤ (z : Int)) = decide (w.length ≤ z) from decide_eq_decide.mpr (by omega)]) (fun _ => rfl)
  rw [up_le z 6 hz] at q
  exact q
theorem callk1 {i : Nat} {e : Ent} {f : FD} {a : CE} {y : D} {δ : Dv} {μ' : List M} (he : g_law.ents[i]? = some e) (h1 : e.n = 1) (h2 : e.np = 0) (h3 : e.ks.length = 1) (h4 : e.gD = ordG [.kw 0] []) (h5 : e.m = f) (ha : evE g_law a δ μ = .ok y μ') : evE g_law (.call i .nil (.cons a .nil)) δ μ = f [y] μ' := by
  rw [ev_call, ent_eq he, h1, h2, h3, h4, h5]
  simp [mCallK_eq, ha]
theorem W6_dok (hz : z ≤ 6) : doks (W6 z) 1 = true := doks_strs _ (fun w hw => ((mem_wl z w).mp hw).1) 1
theorem W6_sz (hz : z ≤ 6) : szDs (W6 z) ≤ 300000 := by
  have h1 := szDs_strs (n := 6) (wl z) fun w hw => by rw [((mem_wl z w).mp hw).2]; exact hz
  have h2 := wl_small hz
  have : (wl z).length * (10 * 6 + 4) ≤ 4096 * (10 * 6 + 4) := Nat.mul_le_mul_right _ h2
  unfold W6
  omega
theorem up_dok : doks ((upW z).map .str) 1 = true := doks_strs _ (fun w hw => (mem_up z w hw).1) 1
theorem up_sz (hz : z ≤ 6) : szDs ((upW z).map .str) ≤ 2000000 := by
  have h1 := szDs_strs (n := 6) (upW z) fun w hw => Nat.le_trans (mem_up z w hw).2 hz
  have h4 : 4 ^ z ≤ 4 ^ 6 := Nat.pow_le_pow_right (by decide) hz
  have h2 : (upW z).length ≤ 7 * 4 ^ 6 := Nat.le_trans (up_len z) (Nat.mul_le_mul (by omega) h4)
  have : (upW z).length * (10 * 6 + 4) ≤ 7 * 4 ^ 6 * (10 * 6 + 4) := Nat.mul_le_mul_right _ h2
  omega
abbrev SA (sc : D) (x2 x3 x4 x5 x6 : Option D) (z : Nat) (x9 x11 x12 x13 : Option D) : Dv := S8 sc x2 x3 x4 x5 x6 z x9 (some (.tup (W6 z))) x11 x12 x13
theorem st16 (hz : z ≤ 6) : evS g_law t_law_16 (SA sc x2 x3 x4 x5 x6 z x9 x11 x12 x13) μ = .nx (SA sc x2 x3 x4 x5 x6 z x9 x11 x12 x13) μ := by
  obtain ⟨δ, hδ⟩ : ∃ δ, δ = SA sc x2 x3 x4 x5 x6 z x9 x11 x12 x13 := ⟨_, rfl⟩
  have v7 : evE g_law (.v 7) δ μ = .ok (.int z) μ := by rw [hδ]; rfl
  have v10 : evE g_law (.v 10) δ μ = .ok (.tup (W6 z)) μ := by rw [hδ]; rfl
  have q3 : evE g_law q_law_3 δ μ = .ok (.lst ((upW z).map .str)) μ := by rw [hδ]; exact q3_ok hz
  have c1 : evE g_law (.call 11 (.cons (.v 7) .nil) .nil) δ μ = .ok (.tup (W6 z)) μ := by
    rw [call1 (y := .int z) (μ' := μ) (x := "words_of") (f := m_words_of) (la := false) rfl v7, words_of_ok hz]; rfl
  have c2 : evE g_law (.call 10 .nil (.cons (.v 7) .nil)) δ μ = .ok (.tup (W6 z)) μ := by
    rw [callk1 (f := m_words_of) (y := .int z) (μ' := μ) rfl rfl rfl rfl rfl rfl v7, words_of_ok hz]; rfl
  have c3 : evE g_law (.call 12 .nil (.cons (.v 7) .nil)) δ μ = .ok (.tup ((upW z).map .str)) μ := by
    rw [callk1 (f := m_words_upto) (y := .int z) (μ' := μ) rfl rfl rfl rfl rfl rfl v7, words_upto_ok hz]
  have l2 : ∀ {a b : CE} {x y : D}, evE g_law a δ μ = .ok x μ → evE g_law b δ μ = .ok y μ → evE g_law (.lst (.cons a (.cons b .nil))) δ μ = .ok (.lst [x, y]) μ := fun {a b x y} h1 h2 => by
    rw [ev_lst, evA_cons, h1, er_bindA_ok, evA_cons, h2, er_bindA_ok, evA_nil, ar_bind_ok, ar_bind_ok, ar_bindE_ok, show lineOk [x, y].length = true from by simp [lineOk], if_pos rfl]
  have d1 := W6_dok hz
  have s1 := W6_sz hz
  have d2 := up_dok (z := z)
  have s2 := up_sz hz
  have r1 : evT g_law (.cmp .ne (.bi .repr (.cons (.lst (.cons (.call 11 (.cons (.v 7) .nil) .nil) (.cons (.call 10 .nil (.cons (.v 7) .nil)) .nil))) .nil)) (.bi .repr (.cons (.lst (.cons (.v 10) (.cons (.v 10) .nil))) .nil))) δ μ = .ok false μ :=
    repr_ne (d := .lst [.tup (W6 z), .tup (W6 z)]) (k := 3) (by simp [dok, doks, d1]) (by decide) (by simp only [szD, szDs]; omega) (l2 c1 c2) (l2 v10 v10)
  have t3 : evE g_law (.bi .tuple (.cons (q_law_3) .nil)) δ μ = .ok (.tup ((upW z).map .str)) μ := by
    rw [ev_bi, evA_cons, q3, er_bindA_ok, evA_nil, ar_bind_ok, ar_bindE_ok, bi_tupL]
  have r2 : evT g_law (.cmp .ne (.bi .repr (.cons (.call 12 .nil (.cons (.v 7) .nil)) .nil)) (.bi .repr (.cons (.bi .tuple (.cons (q_law_3) .nil)) .nil))) δ μ = .ok false μ :=
    repr_ne (d := .tup ((upW z).map .str)) (k := 2) (by simp [dok, d2]) (by decide) (by simp only [szD]; omega) c3 t3
  rw [← hδ]
  unfold t_law_16
  rw [evS_ite, evT_or, evTOr_cons, r1, tr_bind_ok, if_neg (by decide), evTOr_one, r2]
  rfl
/-! words that lead on -/
def mn (z : Nat) : Nat := min z 4
theorem min_ok (h7 : evE g_law (.v 7) δ μ = .ok (.int z) μ) : evE g_law (.bi .min2 (.cons (.v 7) (.cons (.k (.int 4)) .nil))) δ μ = .ok (.int (mn z)) μ := by
  rw [ev_bi, evA_cons, h7, er_bindA_ok, evA_cons, ev_k, kd_int, er_bindA_ok, evA_nil, ar_bind_ok, ar_bind_ok, ar_bindE_ok, bi_min]
  unfold mn
  by_cases h : (4 : Int) < z
  · rw [if_pos h, show min z 4 = 4 from by omega]; rfl
  · rw [if_neg h, show min z 4 = z from by omega]
abbrev SB (sc : D) (x2 x3 x4 x5 x6 : Option D) (z : Nat) (x9 : Option D) (l : List D) (x13 : Option D) : Dv := SA sc x2 x3 x4 x5 x6 z x9 (some (.tup (W6 (mn z)))) (some (.lst l)) x13
theorem st17 : evS g_law t_law_17 (SA sc x2 x3 x4 x5 x6 z x9 x11 x12 x13) μ = .nx (SA sc x2 x3 x4 x5 x6 z x9 (some (.tup (W6 (mn z)))) x12 x13) μ := by
  unfold t_law_17
  rw [evS_asg, call1 (y := .int (mn z)) (μ' := μ) (x := "words_of") (f := m_words_of) (la := false) rfl (min_ok rfl), words_of_ok (by unfold mn; omega), er_bindS_ok]
  rfl
theorem st18 : evS g_law t_law_18 (SA sc x2 x3 x4 x5 x6 z x9 (some (.tup (W6 (mn z)))) x12 x13) μ = .nx (SB sc x2 x3 x4 x5 x6 z x9 [] x13) μ := rfl
theorem st20 : ∃ y9, evS g_law t_law_20 (SB sc x2 x3 x4 x5 x6 z x9 [] x13) μ = .nx (SB sc x2 x3 x4 x5 x6 z y9 (((wl (mn z)).flatMap furtherW).map .str) x13) μ := by
  have hw := wl_small (show mn z ≤ 6 by unfold mn; omega)
  obtain ⟨δ', μ', e, e1, y9, e2⟩ := mFor_thru (Γ := g_law) (δ := SB sc x2 x3 x4 x5 x6 z x9 [] x13) (μ := μ) (it := .seq (.v 11)) (g := .nm 9) (b := b_law_2) (l := W6 (mn z))
    (fun j δ μ' => μ' = μ ∧ ∃ y9, δ = SB sc x2 x3 x4 x5 x6 z y9 ((((wl (mn z)).take j).flatMap furtherW).map .str) x13) (evI_seqT rfl) (fun _ _ _ _ => rfl)
    (fun j hj δ μ' ⟨e1, y9, e2⟩ => by
      subst e1 e2
      have hj' : j < (wl (mn z)).length := by simpa [W6] using hj
      obtain ⟨w1, w2⟩ := (mem_wl (mn z) _).mp (List.getElem_mem hj')
      have ei : (W6 (mn z))[j] = .str (wl (mn z))[j] := by simp [W6]
      have et : (wl (mn z)).take (j + 1) = (wl (mn z)).take j ++ [(wl (mn z))[j]] := by rw [List.take_succ, List.getElem?_eq_getElem hj']; rfl
      have ez : (((((wl (mn z)).take j).flatMap furtherW).map D.str) ++ (furtherW (wl (mn z))[j]).map .str) = ((((wl (mn z)).take (j + 1)).flatMap furtherW).map D.str) := by
        rw [et, List.flatMap_append, List.map_append]
        simp
      have hl : ((((wl (mn z)).take j).flatMap furtherW).map D.str).length ≤ 100000 := by
        rw [List.length_map]
        have := flat_len furtherW_len ((wl (mn z)).take j)
        rw [List.length_take] at this
        omega
      have hm : mn z ≤ 4 := by unfold mn; omega
      refine ⟨SB sc x2 x3 x4 x5 x6 z (some (.str (wl (mn z))[j])) ((((wl (mn z)).take j).flatMap furtherW).map .str) x13, SB sc x2 x3 x4 x5 x6 z (some (.str (wl (mn z))[j])) ((((wl (mn z)).take (j + 1)).flatMap furtherW).map .str) x13, μ', by rw [ei]; rfl, ?_, rfl, _, rfl⟩
      have hf := furtherW_len (wl (mn z))[j]
      rw [← ez]
      revert w1 w2 hl hf
      generalize (wl (mn z))[j] = w
      generalize (((wl (mn z)).take j).flatMap furtherW).map D.str = A
      intro w1 w2 hl hf
      have ec : evE g_law (.bi .list (.cons (.call 13 (.cons (.v 9) .nil) .nil) .nil)) (SB sc x2 x3 x4 x5 x6 z (some (.str w)) A x13) μ' = .ok (.lst ((furtherW w).map .str)) μ' := by
        rw [ev_bi, evA_cons, call1 (y := .str w) (μ' := μ') (x := "further") (f := m_further) (la := false) rfl rfl, further w1 (by omega), er_bindA_ok, evA_nil, ar_bind_ok, ar_bindE_ok, bi_listT]
      unfold b_law_2 t_law_19
      rw [evSs_one, evS_asg, ev_bin, show evE g_law (.v 12) (SB sc x2 x3 x4 x5 x6 z (some (.str w)) A x13) μ' = .ok (.lst A) μ' from rfl, er_bind_ok, ec, er_bind_ok, bf_addL, show catOk A.length ((furtherW w).map D.str).length = true from decide_eq_true (by rw [List.length_map]; omega), if_pos rfl, er_bindS_ok]
      rfl) ⟨rfl, x9, rfl⟩
  rw [e1, e2, show (W6 (mn z)).length = (wl (mn z)).length from by simp [W6], List.take_length] at e
  exact ⟨y9, e⟩
theorem st22 : evS g_law t_law_22 (SB sc x2 x3 x4 x5 x6 z x9 (((wl (mn z)).flatMap furtherW).map .str) x13) μ = .nx (SB sc x2 x3 x4 x5 x6 z x9 (((wl (mn z)).flatMap furtherW).map .str) x13) μ := by
  have hm : mn z + 1 ≤ 6 := by unfold mn; omega
  obtain ⟨L, hL⟩ : ∃ L, L = (((wl (mn z)).flatMap furtherW).map D.str) := ⟨_, rfl⟩
  obtain ⟨δ, hδ⟩ : ∃ δ, δ = SB sc x2 x3 x4 x5 x6 z x9 L x13 := ⟨_, rfl⟩
  have v7 : evE g_law (.v 7) δ μ = .ok (.int z) μ := by rw [hδ]; rfl
  have v12 : evE g_law (.v 12) δ μ = .ok (.lst L) μ := by rw [hδ]; rfl
  have e1 : evE g_law (.bi .sorted (.cons (.v 12) .nil)) δ μ = .ok (.lst (W6 (mn z + 1))) μ := by
    rw [ev_bi, evA_cons, v12, er_bindA_ok, evA_nil, ar_bind_ok, ar_bindE_ok, hL, bi_sorted (srt_strs _), sort_words]; rfl
  have e0 : evE g_law (.bin .add (.bi .min2 (.cons (.v 7) (.cons (.k (.int 4)) .nil))) (.k (.int 1))) δ μ = .ok (.int ((mn z + 1 : Nat) : Int)) μ := by
    rw [ev_bin, min_ok v7, er_bind_ok, ev_k, kd_int, er_bind_ok, bf_add]; rfl
  have e2 : evE g_law (.bi .list (.cons (.call 11 (.cons (.bin .add (.bi .min2 (.cons (.v 7) (.cons (.k (.int 4)) .nil))) (.k (.int 1))) .nil) .nil) .nil)) δ μ = .ok (.lst (W6 (mn z + 1))) μ := by
    rw [ev_bi, evA_cons, call1 (y := .int ((mn z + 1 : Nat) : Int)) (μ' := μ) (x := "words_of") (f := m_words_of) (la := false) rfl e0, words_of_ok hm, er_bindA_ok, evA_nil, ar_bind_ok, ar_bindE_ok, bi_listT]; rfl
  rw [← hL, ← hδ]
  unfold t_law_22
  rw [evS_ite, ne_same (d := .lst (W6 (mn z + 1))) (k := 2) (by simp [dok, W6_dok hm]) (by decide) e1 e2]
  rfl
/-! ### what is refused -/
def oddL : List D := [.non, .int (-1), .int 7, .bl true, .str [51], .tup [.int 2], .int (10 ^ 9)]
theorem odd_ok : ∀ d ∈ oddL, dok d 1 = true ∧ dLess 0 d = true ∧ szD d ≤ 100 := by decide
theorem bt_no {d : D} (h : m_is_integer [d] μ = .ok (.bl false) μ) (i j : Int) : m_is_between [d, .int i, .int j] μ = .ok (.bl false) μ := by
  refine fn_out rfl ?_ rfl
  show outS (evSs g_is_between c_is_between [some d, some (.int i), some (.int j)] μ) = _
  simp [c_is_between, t_is_between_1, ent_eq (Γ := g_is_between) (i := 0) rfl, mCallK_eq, h]
theorem odd_no : ∀ d ∈ oddL, ∀ μ, m_is_between [d, .int 0, .int 6] μ = .ok (.bl false) μ := by
  intro d hd μ
  simp only [oddL, List.mem_cons, List.not_mem_nil, or_false] at hd
  rcases hd with rfl | rfl | rfl | rfl | rfl | rfl | rfl
  · exact bt_no (fn_rt rfl rfl rfl) _ _
  · exact is_betw _ _ _
  · exact is_betw _ _ _
  · exact bt_no (fn_rt rfl rfl rfl) _ _
  · exact bt_no (fn_rt rfl rfl rfl) _ _
  · exact bt_no (fn_rt rfl rfl rfl) _ _
  · exact is_betw _ _ _
theorem of_no {d : D} (hd : d ∈ oddL) : m_words_of [d] μ = .exc 1 [("value", d)] μ := by
  have z := odd_no d hd μ
  refine fn_exc (δ' := [some d, none, none, none, none, none]) rfl ?_ rfl
  refine stopX ?_
  show evS g_words_of t_words_of_2 [some d, none, none, none, none, none] μ = _
  simp [t_words_of_2, t_words_of_1, ent_eq (Γ := g_words_of) (i := 0) rfl, mCallK_eq, z]
theorem upto_no {d : D} (hd : d ∈ oddL) : m_words_upto [d] μ = .exc 1 [("value", d)] μ := by
  have z := odd_no d hd μ
  refine fn_exc (δ' := [some d, none, none, none]) rfl ?_ rfl
  refine stopX ?_
  show evS g_words_upto t_words_upto_2 [some d, none, none, none] μ = _
  simp [t_words_upto_2, t_words_upto_1, ent_eq (Γ := g_words_upto) (i := 0) rfl, mCallK_eq, z]
theorem cutL_plain (hc : Clean μ) {d : D} (hd : dLess 0 d = true) : cutL μ.length (.ok d μ) = .ok d μ := by
  have z1 : frzD μ.length μ d = some d := by
    cases d with
    | loc n => simp [dLess] at hd
    | _ =>
      unfold frzD
      dsimp only
      first
        | rw [if_pos (dLess0 _ hd)]
        | rfl
  have z2 : μLess μ.length μ = true := by
    have := hc.less (k := μ.length) (t := []) (by omega)
    simpa using this
  unfold cutL
  dsimp only
  rw [z1]
  dsimp only
  rw [z2, List.take_length]; rfl
def hN (p : D) : D := .tup [.str [110, 117, 109, 98, 101, 114], p]
theorem heard_num {ask : List M → ER} (hc : Clean μ) (hp : dLess 0 p = true) (ha : ask μ = .exc 1 [("value", p)] μ) :
    fLam 3 (fun ask => evSs (gA__law_heard ask) c__law_heard) ask μ = .ok (hN p) μ := by
  have e1 : evS (gA__law_heard ask) t__law_heard_1 [some .lam, none, none] μ = .nx [some .lam, some .non, none] μ := rfl
  have e3 : evS (gA__law_heard ask) t__law_heard_3 [some .lam, some .non, none] μ = .nx [some .lam, some (.exc 1 [("value", p)]), none] μ := by
    have hb : evSs (gA__law_heard ask) (.cons t__law_heard_2 .nil) [some .lam, some .non, none] μ = .exc 1 [("value", p)] [some .lam, some .non, none] μ := by
      have z : mAsk 0 (gA__law_heard ask).ask [some .lam, some .non, none] μ = ask μ := rfl
      simp [t__law_heard_2, z, ha]
    show mTry 2 ((gA__law_heard ask).catch "TurnError") (evSs (gA__law_heard ask) (.cons t__law_heard_2 .nil)) (evPs2 [(1, 2)]) [some .lam, some .non, none] μ = _
    unfold mTry
    rw [hb]
    dsimp only
    rw [show (gA__law_heard ask).catch "TurnError" 1 = some true from rfl]
    rfl
  have e5 : evS (gA__law_heard ask) t__law_heard_5 [some .lam, some (.exc 1 [("value", p)]), none] μ = .nx [some .lam, some (.exc 1 [("value", p)]), none] μ := rfl
  have e7 : evS (gA__law_heard ask) t__law_heard_7 [some .lam, some (.exc 1 [("value", p)]), none] μ = .nx [some .lam, some (.exc 1 [("value", p)]), none] μ := rfl
  have e9 : evS (gA__law_heard ask) t__law_heard_9 [some .lam, some (.exc 1 [("value", p)]), none] μ = .nx [some .lam, some (.exc 1 [("value", p)]), none] μ := rfl
  have e11 : evS (gA__law_heard ask) t__law_heard_11 [some .lam, some (.exc 1 [("value", p)]), none] μ = .rt (hN p) [some .lam, some (.exc 1 [("value", p)]), none] μ := rfl
  have q2 : evSs (gA__law_heard ask) c__law_heard [some .lam, none, none] μ = .rt (hN p) [some .lam, some (.exc 1 [("value", p)]), none] μ := by
    unfold c__law_heard
    rw [step e1, step e3, step e5, step e7, step e9, stop e11]
  show cutL μ.length (retE (evSs (gA__law_heard ask) c__law_heard [some .lam, none, none] μ)) = _
  rw [q2, retE_rt]
  exact cutL_plain hc (by simp [hN, dLess, dsLess, hp])
theorem hear {b : CE} {δ : Dv} (hc : Clean μ) (hp : dLess 0 p = true) (h : evE g_law b δ μ = .exc 1 [("value", p)] μ) : evE g_law (.lam 0 b) δ μ = .ok (hN p) μ := by
  show fLam 3 (fun ask => evSs (gA__law_heard ask) c__law_heard) (fun μ => evE g_law b δ μ) μ = _
  exact heard_num hc hp h
theorem st23 (hn : n ≤ 900000) (hp : PenL n m) : ∃ d m', evS g_law t_law_23 (sl sc x2 x3 x4 x5 x6 x7 x8 x9 x10 x11 x12 x13) [m] = .nx (sl sc x2 x3 x4 x5 x6 x7 x8 x9 x10 x11 x12 (some d)) [m'] ∧ d ∈ oddL ∧ PenL (n + 1) m' := by
  obtain ⟨E, hE⟩ : ∃ E, t_law_23 = .asg (.nm 13) (.call 5 (.cons (.v 1) (.cons E .nil)) .nil) := ⟨_, rfl⟩
  obtain ⟨d, m', e, hd, p⟩ := pick n oddL m [] (by decide) (by decide) (by omega) hp
  have eE : evE g_law E (sl sc x2 x3 x4 x5 x6 x7 x8 x9 x10 x11 x12 x13) [m] = .ok (.lst oddL) [m] := by cases hE; kernel_rfl
  exact ⟨d, m', by rw [hE, evS_asg, call2 (y := .loc 0) (z := .lst oddL) (μ' := [m]) (μ2 := [m]) (x := "_law_pick") (f := m__law_pick) (la := false) rfl rfl eE, e, er_bindS_ok]; rfl, hd, p⟩
theorem st24 (hc : Clean μ) {d : D} (hd : d ∈ oddL) : evS g_law t_law_24 (sl sc x2 x3 x4 x5 x6 x7 x8 x9 x10 x11 x12 (some d)) μ = .rt (.bl true) (sl sc x2 x3 x4 x5 x6 x7 x8 x9 x10 x11 x12 (some d)) μ := by
  obtain ⟨k1, k2, k3⟩ := odd_ok d hd
  obtain ⟨δ, hδ⟩ : ∃ δ, δ = sl sc x2 x3 x4 x5 x6 x7 x8 x9 x10 x11 x12 (some d) := ⟨_, rfl⟩
  have v13 : evE g_law (.v 13) δ μ = .ok d μ := by rw [hδ]; rfl
  have h1 := hear hc k2 ((call1 (x := "words_of") (f := m_words_of) (la := false) (i := 11) rfl v13).trans (of_no hd))
  have h2 := hear hc k2 ((call1 (x := "words_upto") (f := m_words_upto) (la := false) (i := 14) rfl v13).trans (upto_no hd))
  have e1 : evE g_law (.lst (.cons (.lam 0 (.call 11 (.cons (.v 13) .nil) .nil)) (.cons (.lam 0 (.call 14 (.cons (.v 13) .nil) .nil)) .nil))) δ μ = .ok (.lst [hN d, hN d]) μ := by
    rw [ev_lst, evA_cons, h1, er_bindA_ok, evA_cons, h2, er_bindA_ok, evA_nil, ar_bind_ok, ar_bind_ok, ar_bindE_ok, show lineOk [hN d, hN d].length = true from by simp [lineOk], if_pos rfl]
  have et : evE g_law (.tup (.cons (.k (.str [110, 117, 109, 98, 101, 114])) (.cons (.v 13) .nil))) δ μ = .ok (hN d) μ := by
    rw [ev_tup, evA_cons, ev_k, kd_str, er_bindA_ok, evA_cons, v13, er_bindA_ok, evA_nil, ar_bind_ok, ar_bind_ok, ar_bindE_ok, show ∀ a b : D, lineOk [a, b].length = true from fun _ _ => by simp [lineOk], if_pos rfl]
    rfl
  have e2 : evE g_law (.bin .mul (.lst (.cons (.tup (.cons (.k (.str [110, 117, 109, 98, 101, 114])) (.cons (.v 13) .nil))) .nil)) (.k (.int 2))) δ μ = .ok (.lst [hN d, hN d]) μ := by
    rw [ev_bin, ev_lst, evA_cons, et, er_bindA_ok, evA_nil, ar_bind_ok, ar_bindE_ok, show lineOk [hN d].length = true from by simp [lineOk], if_pos rfl, er_bind_ok, ev_k, kd_int, er_bind_ok, bf_mulL]
    rfl
  have e := repr_eq (d := .lst [hN d, hN d]) (k := 3) (by simp [dok, doks, hN, k1, dok]) (by decide) (by simp only [szD, szDs, hN, List.length_cons, List.length_nil]; omega) e1 e2
  rw [← hδ]
  unfold t_law_24
  rw [evS_ret, e, er_bindS_ok]
theorem law_ok {ns : List Int} (h : ns.length ≤ 63) : ∃ μ, m_law [.ro (ns.map .int)] [] = .ok (.bl true) μ := by
  obtain ⟨S, hS⟩ : ∃ S, S = D.ro (ns.map .int) := ⟨_, rfl⟩
  have hp := pen h
  rw [← hS] at hp ⊢
  have P0 : PenL 0 (penLM ns 0 0) := ⟨ns, 0, 0, rfl, h, by omega, by omega, by omega⟩
  have e1 : evS g_law t_law_1 [some S, none, none, none, none, none, none, none, none, none, none, none, none, none, none, none] [] = .nx (sl S none none none none none none none none none none none none) [penLM ns 0 0] := by
    unfold t_law_1
    rw [evS_asg, call1 (y := S) (μ' := []) (x := "_law_pen") (f := m__law_pen) (la := false) rfl rfl, hp, er_bindS_ok]
    rfl
  obtain ⟨y2, y3, y4, y5, y6, m1, e12, p1⟩ := law_loop (sc := S) P0
  obtain ⟨z, m2, e13, hz, p2⟩ := st13 (sc := S) (x2 := y2) (x3 := y3) (x4 := y4) (x5 := y5) (x6 := y6) (x7 := none) (x8 := none) (x9 := none) (x10 := none) (x11 := none) (x12 := none) (x13 := none) (by omega) p1
  have e14 := st14 (sc := S) (x2 := y2) (x3 := y3) (x4 := y4) (x5 := y5) (x6 := y6) (x9 := none) (x10 := none) (x11 := none) (x12 := none) (x13 := none) (μ := [m2]) hz
  have e16 := st16 (sc := S) (x2 := y2) (x3 := y3) (x4 := y4) (x5 := y5) (x6 := y6) (x9 := none) (x11 := none) (x12 := none) (x13 := none) (μ := [m2]) hz
  have e17 := st17 (sc := S) (x2 := y2) (x3 := y3) (x4 := y4) (x5 := y5) (x6 := y6) (x9 := none) (x11 := none) (x12 := none) (x13 := none) (μ := [m2]) (z := z)
  have e18 := st18 (sc := S) (x2 := y2) (x3 := y3) (x4 := y4) (x5 := y5) (x6 := y6) (x9 := none) (x12 := none) (x13 := none) (μ := [m2]) (z := z)
  obtain ⟨y9, e20⟩ := st20 (sc := S) (x2 := y2) (x3 := y3) (x4 := y4) (x5 := y5) (x6 := y6) (x9 := none) (x13 := none) (μ := [m2]) (z := z)
  have e22 := st22 (sc := S) (x2 := y2) (x3 := y3) (x4 := y4) (x5 := y5) (x6 := y6) (x9 := y9) (x13 := none) (μ := [m2]) (z := z)
  obtain ⟨d, m3, e23, hd, p3⟩ := st23 (sc := S) (x2 := y2) (x3 := y3) (x4 := y4) (x5 := y5) (x6 := y6) (x7 := some (.int z)) (x8 := some (.lst E6)) (x9 := y9) (x10 := some (.tup (W6 z))) (x11 := some (.tup (W6 (mn z)))) (x12 := some (.lst (((wl (mn z)).flatMap furtherW).map .str))) (x13 := none) (by omega) p2
  have e24 := st24 (sc := S) (x2 := y2) (x3 := y3) (x4 := y4) (x5 := y5) (x6 := y6) (x7 := some (.int z)) (x8 := some (.lst E6)) (x9 := y9) (x10 := some (.tup (W6 z))) (x11 := some (.tup (W6 (mn z)))) (x12 := some (.lst (((wl (mn z)).flatMap furtherW).map .str))) (Clean.nil.cons (isPenL.less p3)) hd
  have E := (step e1).trans ((step e12).trans ((step e13).trans ((step e14).trans ((step e16).trans ((step e17).trans ((step e18).trans ((step e20).trans ((step e22).trans ((step e23).trans (evSs_one.trans e24))))))))))
  refine ⟨[], ?_⟩
  have E' : evSs g_law c_law [some S, none, none, none, none, none, none, none, none, none, none, none, none, none, none, none] [] = .rt (.bl true) _ [m3] := E
  exact fn_cut (μ := []) (t := [m3]) rfl E' rfl Clean.nil
end
end K01

theorem PySem.Challenge.cw_giventurns_k01_whole_words_are_a_group_a_holds : PySem.Challenge.rw_giventurns_k01_whole_words_are_a_group_a.Holds := by
  exact K01.fin fun ns hl _ => K01.law_ok hl
