import PyProof.Rows.All
import Wide.All
import OpenK.AllK
import Wide.FinOn
import HandS.ForMost
import HandS.Wide
import HandS.TupAny
import HandS.Evl
import HandS.More
import HandS.Conv
import HandS.Rev
import HandS.Dict
import PyProof.ReprRoads
import HandS.RevTup
import PyProof.SumAny
import HandS.TupMul
import KE.KDictDisplayH
import HandS.Style
import HandS.Exc
import HandS.TryOnly
import PyProof.P3Eq
import PyProof.ReprBulk
import KE.KExcSuper
import HandS.ExcOwn
import HandS.ExcField
import HandS.ExcIs
import HandS.IsInst
import HandS.WordsExc
import KE.GoesEnum
import KE.KDictZip
import HandS.ExcValue
import HandS.SetFor
import HandS.Zip
import HandS.Walk
import PySem.Challenge.RW_cutandjoin_k82_whole_means_undone
/-! ## Fz -/
set_option Elab.async false
set_option linter.all false
set_option maxRecDepth 100000
set_option maxHeartbeats 2000000
set_option autoImplicit false
/-! Fz: a small logic over the hand layer. Data is frozen in a part F of the heap; what may change is owned, one by one, in a list L. -/
namespace Fz
open PySem L2

/-! ### extension -/
def Sub (F H : Hp) : Prop := ∀ a o, F a = some o → H a = some o
theorem Sub.rfl' (F : Hp) : Sub F F := fun _ _ h => h
theorem Sub.tr {F G H : Hp} (x : Sub F G) (y : Sub G H) : Sub F H := fun a o h => y a o (x a o h)
theorem sub_none {F H : Hp} (x : Sub F H) {p : Addr} (h : H p = none) : F p = none := by
  cases e : F p with
  | none => rfl
  | some o => rw [x p o e] at h; cases h
theorem sub_upd {F H : Hp} (x : Sub F H) (p : Addr) (o : HO) : Sub (upd F p o) (upd H p o) := fun a u h => by
  by_cases e : a = p
  · subst e; rw [upd_same] at h ⊢; exact h
  · rw [upd_ne e] at h ⊢; exact x a u h
theorem sub_fresh {F : Hp} {p : Addr} {o : HO} (h : F p = none) : Sub F (upd F p o) := fun a u e => by
  rw [upd_ne (ne_of_none e h)]; exact e
theorem rd_sub {F H : Hp} (x : Sub F H) {a : Addr} {u : HO} (h : Rd F a u) : Rd H a u := by
  rcases h with h | ⟨o, h⟩
  · exact .inl (x _ _ h)
  · exact .inr ⟨o, x _ _ h⟩
theorem sql_sub {K : PySem.W.Frag} {F H : Hp} (x : Sub F H) {a : Addr} {xs : List V} (h : SqL K F a xs) : SqL K H a xs := by
  rcases h with h | h
  · exact .inl (rd_sub x h)
  · exact .inr h
theorem sqt_sub {K : PySem.W.Frag} {F H : Hp} (x : Sub F H) {a : Addr} {xs : List V} (h : SqT K F a xs) : SqT K H a xs := by
  rcases h with h | h
  · exact .inl (rd_sub x h)
  · exact .inr h
theorem tq_sub {K : PySem.W.Frag} {F H : Hp} (x : Sub F H) {a : Addr} {xs : List V} (h : F a = some (.tup xs)) : SqT K H a xs := .inl (.inl (x _ _ h))
/-- the plain values -/
def simV : V → Option PyData
  | .non => some .none
  | .bl b => some (.bool b)
  | .int i => some (.int i)
  | .str x => some (.str x)
  | _ => none
def keyD : Key → PyData
  | .inl i => .int i
  | .inr x => .str x
/-- a dict of plain values, its keys ints and texts -/
def KvD (kvs : List (Key × V)) (ps : List (PyData × PyData)) : Prop := kvs.map (fun x => (keyD x.1, simV x.2)) = ps.map fun p => (p.1, some p.2)
/-- a dict whose keys are tuples of ints and texts -/
def KvT (kvs : List (List Key × V)) (ps : List (PyData × PyData)) : Prop := kvs.map (fun x => (PyData.tuple (x.1.map keyD), simV x.2)) = ps.map fun p => (p.1, some p.2)
mutual
/-- data: what a value stands for; lists are tracked as lists -/
inductive Dq (K : PySem.W.Frag) (H : Hp) : V → PyData → Prop
  | non : Dq K H .non .none
  | bl (b : Bool) : Dq K H (.bl b) (.bool b)
  | int (i : Int) : Dq K H (.int i) (.int i)
  | str (x : Str) : Dq K H (.str x) (.str x)
  | lst {a : Addr} {xs : List V} {ds : List PyData} : H a = some (.lst xs) → DqAll K H xs ds → Dq K H (.ref a) (.list ds)
  | tup {a : Addr} {xs : List V} {ds : List PyData} : H a = some (.tup xs) → DqAll K H xs ds → Dq K H (.ref a) (.tuple ds)
  | dic {a : Addr} {kvs : List (Key × V)} {ps : List (PyData × PyData)} : H a = some (.dK kvs) → KvD kvs ps → Dq K H (.ref a) (.dict ps)
  | dit {a : Addr} {kvs : List (List Key × V)} {ps : List (PyData × PyData)} : H a = some (.dT kvs) → KvT kvs ps → Dq K H (.ref a) (.dict ps)
inductive DqAll (K : PySem.W.Frag) (H : Hp) : List V → List PyData → Prop
  | nil : DqAll K H [] []
  | cons {v : V} {vs : List V} {d : PyData} {ds : List PyData} : Dq K H v d → DqAll K H vs ds → DqAll K H (v :: vs) (d :: ds)
end
theorem nodict_cons {d : PyData} {ds : List PyData} (h : PyData.hasDictAll (d :: ds) = false) : d.hasDict = false ∧ PyData.hasDictAll ds = false := by
  have h : (d.hasDict || PyData.hasDictAll ds) = false := h
  exact Bool.or_eq_false_iff.mp h
mutual
theorem dq_dp {K : PySem.W.Frag} {F : Hp} : ∀ {d : PyData} {v : V}, d.hasDict = false → Dq K F v d → L2.Dp K F v d
  | .none, _, _, h => by cases h; exact .non
  | .bool _, _, _, h => by cases h; exact .bl _
  | .int _, _, _, h => by cases h; exact .int _
  | .str _, _, _, h => by cases h; exact .str _
  | .list ds, _, n, h => by
    cases h with
    | lst a b => exact .lst (.inl (.inl a)) (dqa_dpa (show PyData.hasDictAll ds = false from n) b)
  | .tuple ds, _, n, h => by
    cases h with
    | tup a b => exact .tup (.inl (.inl a)) (dqa_dpa (show PyData.hasDictAll ds = false from n) b)
  | .dict _, _, n, _ => by cases n
theorem dqa_dpa {K : PySem.W.Frag} {F : Hp} : ∀ {ds : List PyData} {vs : List V}, PyData.hasDictAll ds = false → DqAll K F vs ds → L2.DpAll K F vs ds
  | [], _, _, h => by cases h; exact .nil
  | _ :: _, _, n, h => by
    cases h with
    | cons a b => exact .cons (dq_dp (nodict_cons n).1 a) (dqa_dpa (nodict_cons n).2 b)
end
mutual
theorem nodict_lay : ∀ {d : PyData}, d.canLay0 = true → d.hasDict = false
  | .none, _ => rfl
  | .bool _, _ => rfl
  | .int _, _ => rfl
  | .str _, _ => rfl
  | .list ds, h => nodicts_lay (ds := ds) h
  | .tuple ds, h => nodicts_lay (ds := ds) h
  | .dict _, h => by cases h
theorem nodicts_lay : ∀ {ds : List PyData}, PyData.canLayAll0 ds = true → PyData.hasDictAll ds = false
  | [], _ => rfl
  | d :: ds, h => by
    have h : (d.canLay0 && PyData.canLayAll0 ds) = true := h
    rw [Bool.and_eq_true] at h
    show (d.hasDict || PyData.hasDictAll ds) = false
    rw [nodict_lay h.1, nodicts_lay h.2]; rfl
end
theorem nodict_shaped {d : PyData} (h : SeqAt.shaped d = true) : d.hasDict = false := by
  unfold SeqAt.shaped at h
  rw [Bool.and_eq_true] at h
  exact nodict_lay h.1
mutual
theorem dp_sub {K : PySem.W.Frag} {F H : Hp} (x : Sub F H) : ∀ {d : PyData} {v : V}, Dq K F v d → Dq K H v d
  | .none, _, h => by cases h; exact .non
  | .bool _, _, h => by cases h; exact .bl _
  | .int _, _, h => by cases h; exact .int _
  | .str _, _, h => by cases h; exact .str _
  | .list ds, _, h => by
    cases h with
    | lst a b => exact .lst (x _ _ a) (dpa_sub x b)
  | .tuple ds, _, h => by
    cases h with
    | tup a b => exact .tup (x _ _ a) (dpa_sub x b)
  | .dict _, _, h => by
    cases h with
    | dic a b => exact .dic (x _ _ a) b
    | dit a b => exact .dit (x _ _ a) b
theorem dpa_sub {K : PySem.W.Frag} {F H : Hp} (x : Sub F H) : ∀ {ds : List PyData} {vs : List V}, DqAll K F vs ds → DqAll K H vs ds
  | [], _, h => by cases h; exact .nil
  | _ :: _, _, h => by
    cases h with
    | cons a b => exact .cons (dp_sub x a) (dpa_sub x b)
end
section
variable {K : PySem.W.Frag} {F : Hp}
theorem dpa_len : ∀ {vs : List V} {ds : List PyData}, DqAll K F vs ds → vs.length = ds.length
  | _, _, .nil => rfl
  | _, _, .cons _ t => by rw [List.length_cons, List.length_cons, dpa_len t]
theorem dpa_app : ∀ {vs ws : List V} {ds es : List PyData}, DqAll K F vs ds → DqAll K F ws es → DqAll K F (vs ++ ws) (ds ++ es)
  | _, _, _, _, .nil, h => h
  | _, _, _, _, .cons a t, h => .cons a (dpa_app t h)
theorem dpa_get : ∀ {vs : List V} {ds : List PyData} {i : Nat} {d : PyData}, DqAll K F vs ds → ds[i]? = some d → ∃ v, vs[i]? = some v ∧ Dq K F v d
  | _, _, _, _, .nil, e => by simp at e
  | _, _, 0, _, .cons a _, e => by simp at e; subst e; exact ⟨_, rfl, a⟩
  | _, _, i + 1, _, .cons _ t, e => by
    obtain ⟨v, h1, h2⟩ := dpa_get t (i := i) (by simpa using e)
    exact ⟨v, by simpa using h1, h2⟩
theorem dpa_take : ∀ {vs : List V} {ds : List PyData} (n : Nat), DqAll K F vs ds → DqAll K F (vs.take n) (ds.take n)
  | _, _, 0, _ => .nil
  | _, _, _ + 1, .nil => .nil
  | _, _, n + 1, .cons a t => .cons a (dpa_take n t)
theorem dpa_drop : ∀ {vs : List V} {ds : List PyData} (n : Nat), DqAll K F vs ds → DqAll K F (vs.drop n) (ds.drop n)
  | _, _, 0, h => h
  | _, _, _ + 1, .nil => .nil
  | _, _, n + 1, .cons _ t => dpa_drop n t
theorem dpa_rev : ∀ {vs : List V} {ds : List PyData}, DqAll K F vs ds → DqAll K F vs.reverse ds.reverse
  | _, _, .nil => .nil
  | _, _, .cons a t => by
    rw [List.reverse_cons, List.reverse_cons]
    exact dpa_app (dpa_rev t) (.cons a .nil)
theorem dpa_set {v : V} {d : PyData} (h : Dq K F v d) : ∀ {vs : List V} {ds : List PyData} (n : Nat), DqAll K F vs ds → DqAll K F (vs.set n v) (ds.set n d)
  | _, _, _, .nil => .nil
  | _, _, 0, .cons _ t => .cons h t
  | _, _, n + 1, .cons a t => .cons a (dpa_set h n t)
theorem dpa_erase : ∀ {vs : List V} {ds : List PyData} (n : Nat), DqAll K F vs ds → DqAll K F (vs.eraseIdx n) (ds.eraseIdx n)
  | _, _, _, .nil => .nil
  | _, _, 0, .cons _ t => t
  | _, _, n + 1, .cons a t => .cons a (dpa_erase n t)
theorem dpa_last : ∀ {vs : List V} {ds : List PyData}, DqAll K F vs ds → DqAll K F vs.dropLast ds.dropLast
  | _, _, .nil => .nil
  | _, _, .cons _ .nil => .nil
  | _, _, .cons a (.cons b t) => .cons a (dpa_last (.cons b t))
theorem dpa_ints : ∀ (ns : List Int), DqAll K F (ns.map V.int) (ns.map PyData.int)
  | [] => .nil
  | _ :: t => .cons (.int _) (dpa_ints t)
theorem dpa_int_inv : ∀ {ns : List Int} {vs : List V}, DqAll K F vs (ns.map PyData.int) → vs = ns.map V.int
  | [], _, h => by cases h; rfl
  | _ :: ns, _, h => by
    cases h with
    | cons a t => cases a; rw [dpa_int_inv t]; rfl
theorem dpa_bool_inv : ∀ {bs : List Bool} {vs : List V}, DqAll K F vs (bs.map PyData.bool) → vs = bs.map V.bl
  | [], _, h => by cases h; rfl
  | _ :: ns, _, h => by
    cases h with
    | cons a t => cases a; rw [dpa_bool_inv t]; rfl
end

/-! ### states -/
/-- what is known of a value: it itself, or the data that it stands for -/
inductive AD where
  | v (x : V)
  | d (x : PyData)
def AD.ok (K : PySem.W.Frag) (F : Hp) : AD → V → Prop
  | .v x, y => y = x
  | .d x, y => Dq K F y x
theorem AD.ok.sub {K : PySem.W.Frag} {F G : Hp} (x : Sub F G) : ∀ {a : AD} {y : V}, a.ok K F y → a.ok K G y
  | .v _, _, h => h
  | .d _, _, h => dp_sub x h
/-- what is owned -/
inductive MO where
  | lst (p : Addr) (ds : List PyData)
  | raw (p : Addr) (o : HO)
  | bag (pb pc : Addr) (cells : List Int) (cur mix : Int)
  | know (v : V) (d : PyData)
  | seq (p : Addr) (ds : List PyData)
def MO.fp : MO → List Addr
  | .lst p _ => [p]
  | .raw p _ => [p]
  | .bag pb pc _ _ _ => [pb, pc]
  | .know _ _ => []
  | .seq _ _ => []
def BagAt (H : Hp) (pb pc : Addr) (cells : List Int) (cur mix : Int) : Prop :=
  H pb = some (.lst [.ref pc, .int cur, .int mix]) ∧ H pc = some (.lst (cells.map V.int))
def MO.ok (K : PySem.W.Frag) (F H : Hp) : MO → Prop
  | .lst p ds => ∃ vs, H p = some (.lst vs) ∧ DqAll K F vs ds
  | .raw p o => H p = some o ∧ ∀ xs, o ≠ .tup xs
  | .bag pb pc cs x m => BagAt H pb pc cs x m
  | .know v d => Dq K F v d
  | .seq p ds => ∃ vs, SqL K F p vs ∧ DqAll K F vs ds
theorem MO.ok.subF {K : PySem.W.Frag} {F G H : Hp} (x : Sub F G) : ∀ {m : MO}, m.ok K F H → m.ok K G H
  | .lst _ _, ⟨vs, a, b⟩ => ⟨vs, a, dpa_sub x b⟩
  | .raw _ _, h => h
  | .bag _ _ _ _ _, h => h
  | .know _ _, h => dp_sub x h
  | .seq _ _, ⟨vs, a, b⟩ => ⟨vs, sql_sub x a, dpa_sub x b⟩
theorem MO.ok.same {K : PySem.W.Frag} {F H H' : Hp} : ∀ {m : MO}, m.ok K F H → (∀ p ∈ m.fp, ∀ o, H p = some o → H' p = some o) → m.ok K F H'
  | .lst p _, ⟨vs, a, b⟩, k => ⟨vs, k p List.mem_cons_self _ a, b⟩
  | .raw p _, h, k => ⟨k p List.mem_cons_self _ h.1, h.2⟩
  | .bag pb pc _ _ _, h, k => ⟨k pb List.mem_cons_self _ h.1, k pc (List.mem_cons_of_mem _ List.mem_cons_self) _ h.2⟩
  | .know _ _, h, _ => h
  | .seq _ _, h, _ => h
theorem MO.ok.there {K : PySem.W.Frag} {F H : Hp} : ∀ {m : MO}, m.ok K F H → ∀ p ∈ m.fp, ∃ o, H p = some o ∧ ∀ xs, o ≠ .tup xs
  | .lst p _, ⟨vs, a, b⟩, q, hq => by rw [List.mem_singleton.mp hq]; exact ⟨_, a, fun _ z => nomatch z⟩
  | .raw p _, h, q, hq => by rw [List.mem_singleton.mp hq]; exact ⟨_, h.1, h.2⟩
  | .bag pb pc _ _ _, h, q, hq => by
    rcases List.mem_cons.mp hq with e | e
    · rw [e]; exact ⟨_, h.1, fun _ z => nomatch z⟩
    · rw [List.mem_singleton.mp e]; exact ⟨_, h.2, fun _ z => nomatch z⟩
  | .know _ _, _, q, hq => nomatch hq
  | .seq _ _, _, q, hq => nomatch hq

/-- the background: at the entry -/
structure Bg where
  K : PySem.W.Frag
  F0 : Hp
  H0 : Hp
  M : List Addr
def SlOk (K : PySem.W.Frag) (F : Hp) : Option AD → Option V → Prop
  | none, _ => True
  | some a, s => ∃ y, s = some y ∧ a.ok K F y
abbrev Eps := List (Option AD)
abbrev Own := List MO
def fps (L : Own) : List Addr := L.flatMap MO.fp
structure Rep (B : Bg) (ε : Eps) (L : Own) (F : Hp) (σ : St) (H : Hp) : Prop where
  sub : Sub F H
  own : ∀ m ∈ L, m.ok B.K F H
  off : ∀ p ∈ fps L, F p = none ∧ (p ∈ B.M ∨ B.H0 p = none)
  nd : (fps L).Nodup
  sl : ∀ (i : Nat) (x : Option AD), ε[i]? = some x → ∃ s, σ[i]? = some s ∧ SlOk B.K F x s
  len : σ.length = ε.length
  f0 : Sub B.F0 F
  h0 : ∀ a o, a ∉ B.M → B.H0 a = some o → H a = some o
  nc : ∀ a, B.F0 a = none → B.H0 a ≠ none → F a = none ∨ ∃ xs, B.H0 a = some (.tup xs)
  mm : ∀ p ∈ B.M, p ∈ fps L
theorem mem_fps {L : Own} {m : MO} (h : m ∈ L) {p : Addr} (hp : p ∈ m.fp) : p ∈ fps L := List.mem_flatMap.mpr ⟨m, h, hp⟩

theorem fps_sub {L L' : Own} (h : L'.Sublist L) : (fps L').Sublist (fps L) := by
  induction h with
  | slnil => exact List.Sublist.refl _
  | cons a _ ih => exact List.Sublist.trans ih (List.sublist_append_right a.fp _)
  | cons_cons a _ ih => exact List.Sublist.append (List.Sublist.refl a.fp) ih
section
variable {B : Bg} {ε : Eps} {L : Own} {F : Hp} {σ : St} {H : Hp}
theorem Rep.thereN (r : Rep B ε L F σ H) {p : Addr} (hp : p ∈ fps L) : ∃ o, H p = some o ∧ ∀ xs, o ≠ .tup xs := by
  obtain ⟨m, hm, h⟩ := List.mem_flatMap.mp hp
  exact (r.own m hm).there p h
theorem Rep.there (r : Rep B ε L F σ H) {p : Addr} (hp : p ∈ fps L) : ∃ o, H p = some o :=
  let ⟨o, h, _⟩ := r.thereN hp
  ⟨o, h⟩
theorem Rep.noT (r : Rep B ε L F σ H) {p : Addr} (hp : p ∈ fps L) {xs : List V} (h : H p = some (.tup xs)) : False := by
  obtain ⟨o, h1, h2⟩ := r.thereN hp
  rw [h] at h1; cases h1; exact h2 xs rfl
theorem Rep.new (r : Rep B ε L F σ H) {p : Addr} (hp : H p = none) : p ∉ fps L := fun h => by
  obtain ⟨o, e⟩ := r.there h
  rw [hp] at e; cases e
theorem Rep.newM (r : Rep B ε L F σ H) {p : Addr} (hp : H p = none) : p ∉ B.M := fun h => r.new hp (r.mm p h)
theorem Rep.newH (r : Rep B ε L F σ H) {p : Addr} (hp : H p = none) : B.H0 p = none := by
  cases e : B.H0 p with
  | none => rfl
  | some o => rw [r.h0 p o (r.newM hp) e] at hp; cases hp
/-- the heap grows by things that do not matter -/
theorem Rep.heap (r : Rep B ε L F σ H) {H' : Hp} (k : Sub H H') : Rep B ε L F σ H' :=
  ⟨r.sub.tr k, fun m hm => (r.own m hm).same fun p _ o e => k p o e, r.off, r.nd, r.sl, r.len, r.f0, fun a o h e => k a o (r.h0 a o h e), r.nc, r.mm⟩
theorem SlOk.sub {K : PySem.W.Frag} {F G : Hp} (x : Sub F G) : ∀ {a : Option AD} {s : Option V}, SlOk K F a s → SlOk K G a s
  | none, _, _ => trivial
  | some _, _, ⟨y, e, h⟩ => ⟨y, e, h.sub x⟩
/-- a new frozen object -/
theorem Rep.grow (r : Rep B ε L F σ H) {p : Addr} {o : HO} (hp : H p = none) : Rep B ε L (upd F p o) σ (upd H p o) := by
  have hF := sub_none r.sub hp
  refine ⟨sub_upd r.sub p o, fun m hm => ((r.own m hm).subF (sub_fresh hF)).same fun q hq u e => ?_, fun q hq => ?_, r.nd, fun i x e => ?_, r.len, r.f0.tr (sub_fresh hF), fun a u h e => sub_fresh hp a u (r.h0 a u h e), fun a h1 h2 => ?_, r.mm⟩
  · exact sub_fresh hp q u e
  · have : q ≠ p := fun e => r.new hp (e ▸ hq)
    exact ⟨by rw [upd_ne this]; exact (r.off q hq).1, (r.off q hq).2⟩
  · obtain ⟨s, h1, h2⟩ := r.sl i x e
    exact ⟨s, h1, h2.sub (sub_fresh hF)⟩
  · have : a ≠ p := fun e => h2 (e ▸ r.newH hp)
    rw [upd_ne this]; exact r.nc a h1 h2
/-- a new owned object -/
theorem Rep.alloc (r : Rep B ε L F σ H) {p : Addr} {o : HO} {m : MO} (hp : H p = none) (hm : m.fp = [p]) (ok : m.ok B.K F (upd H p o)) : Rep B ε (m :: L) F σ (upd H p o) := by
  have hF := sub_none r.sub hp
  have e1 : fps (m :: L) = p :: fps L := by unfold fps; rw [List.flatMap_cons, hm]; rfl
  refine ⟨r.sub.tr (sub_fresh hp), fun x hx => ?_, fun q hq => ?_, ?_, r.sl, r.len, r.f0, fun a u h e => sub_fresh hp a u (r.h0 a u h e), r.nc, fun q hq => ?_⟩
  · rcases List.mem_cons.mp hx with e | e
    · rw [e]; exact ok
    · exact (r.own x e).same fun q _ u e => sub_fresh hp q u e
  · rw [e1] at hq
    rcases List.mem_cons.mp hq with e | e
    · rw [e]; exact ⟨hF, .inr (r.newH hp)⟩
    · exact r.off q e
  · rw [e1]; exact List.nodup_cons.mpr ⟨r.new hp, r.nd⟩
  · rw [e1]; exact List.mem_cons_of_mem _ (r.mm q hq)
theorem fps_set : ∀ {L : Own} {k : Nat} {m m' : MO}, L[k]? = some m → m'.fp = m.fp → fps (L.set k m') = fps L
  | [], _, _, _, h, _ => by simp at h
  | x :: L, 0, m, m', h, e => by
    simp at h; subst h
    show m'.fp ++ fps L = x.fp ++ fps L
    rw [e]
  | x :: L, k + 1, m, m', h, e => by
    show x.fp ++ fps (L.set k m') = x.fp ++ fps L
    rw [fps_set (by simpa using h) e]
theorem fps_apart : ∀ {L : Own} {k j : Nat} {m x : MO}, (fps L).Nodup → L[k]? = some m → L[j]? = some x → k ≠ j → ∀ p ∈ m.fp, p ∉ x.fp
  | [], _, _, _, _, _, h, _, _ => by simp at h
  | y :: L, 0, 0, _, _, _, _, _, n => absurd rfl n
  | y :: L, 0, j + 1, m, x, nd, h, h', _ => by
    simp at h; subst h
    have nd' : (y.fp ++ fps L).Nodup := nd
    intro p hp hx
    exact (List.nodup_append.mp nd').2.2 p hp p (mem_fps (List.mem_of_getElem? (by simpa using h')) hx) rfl
  | y :: L, k + 1, 0, m, x, nd, h, h', _ => by
    simp at h'; subst h'
    have nd' : (y.fp ++ fps L).Nodup := nd
    intro p hp hx
    exact (List.nodup_append.mp nd').2.2 p hx p (mem_fps (List.mem_of_getElem? (by simpa using h)) hp) rfl
  | y :: L, k + 1, j + 1, m, x, nd, h, h', n => by
    have nd' : (y.fp ++ fps L).Nodup := nd
    exact fps_apart (List.nodup_append.mp nd').2.1 (by simpa using h) (by simpa using h') fun e => n (by rw [e])
/-- an owned thing changes: all else stays -/
theorem Rep.chg (r : Rep B ε L F σ H) {k : Nat} {m m' : MO} {H' : Hp} (hk : L[k]? = some m) (hf : m'.fp = m.fp) (ok : m'.ok B.K F H') (keep : ∀ a o, a ∉ m.fp → H a = some o → H' a = some o) : Rep B ε (L.set k m') F σ H' := by
  have ef := fps_set (m' := m') hk hf
  have hmem : ∀ p ∈ m.fp, p ∈ fps L := fun p hp => mem_fps (List.mem_of_getElem? hk) hp
  have kf : ∀ a o, F a = some o → H' a = some o := fun a o e => keep a o (fun h => by rw [(r.off a (hmem a h)).1] at e; cases e) (r.sub a o e)
  refine ⟨kf, fun x hx => ?_, by rw [ef]; exact r.off, by rw [ef]; exact r.nd, r.sl, r.len, r.f0, fun a o h e => ?_, r.nc, by rw [ef]; exact r.mm⟩
  · obtain ⟨j, hj⟩ := List.mem_iff_getElem?.mp hx
    rw [List.getElem?_set] at hj
    split at hj
    · split at hj
      · cases hj; exact ok
      · cases hj
    · rename_i ne
      exact (r.own x (List.mem_of_getElem? hj)).same fun p hp o e => keep p o (fun h => fps_apart r.nd hk hj ne p h hp) e
  · refine keep a o (fun hm => ?_) (r.h0 a o h e)
    rcases (r.off a (hmem a hm)).2 with q | q
    · exact h q
    · rw [q] at e; cases e
theorem Rep.slot (r : Rep B ε L F σ H) {i : Nat} {a : AD} {y : V} (h : a.ok B.K F y) : Rep B (ε.set i (some a)) L F (σ.set i (some y)) H := by
  refine ⟨r.sub, r.own, r.off, r.nd, fun j x e => ?_, by rw [List.length_set, List.length_set]; exact r.len, r.f0, r.h0, r.nc, r.mm⟩
  rw [List.getElem?_set] at e
  rw [List.getElem?_set, r.len]
  split at e
  · rename_i ij
    subst ij
    split at e
    · rename_i il
      cases e
      rw [if_pos rfl, if_pos il]
      exact ⟨_, rfl, y, rfl, h⟩
    · cases e
  · rename_i ij
    rw [if_neg ij]
    exact r.sl j x e
/-- forget slots -/
def Wk : Eps → Eps → Prop
  | [], [] => True
  | a :: x, b :: y => (b = none ∨ b = a) ∧ Wk x y
  | _, _ => False
theorem Wk.refl : ∀ x : Eps, Wk x x
  | [] => trivial
  | _ :: x => ⟨.inr rfl, Wk.refl x⟩
theorem Wk.len : ∀ {x y : Eps}, Wk x y → x.length = y.length
  | [], [], _ => rfl
  | _ :: _, _ :: _, h => by rw [List.length_cons, List.length_cons, Wk.len h.2]
theorem Wk.get : ∀ {x y : Eps}, Wk x y → ∀ (i : Nat) b, y[i]? = some b → b = none ∨ x[i]? = some b
  | [], [], _, i, b, e => by simp at e
  | a :: x, c :: y, h, 0, b, e => by
    simp at e; subst e
    rcases h.1 with z | z
    · exact .inl z
    · exact .inr (by rw [z]; rfl)
  | a :: x, c :: y, h, i + 1, b, e => by
    rcases Wk.get h.2 i b (by simpa using e) with z | z
    · exact .inl z
    · exact .inr (by simpa using z)
theorem Rep.wk (r : Rep B ε L F σ H) {ε' : Eps} (w : Wk ε ε') : Rep B ε' L F σ H := by
  refine ⟨r.sub, r.own, r.off, r.nd, fun j x e => ?_, by rw [r.len, w.len], r.f0, r.h0, r.nc, r.mm⟩
  rcases w.get j x e with z | z
  · subst z
    have : j < σ.length := by
      rw [r.len, w.len]
      exact (List.getElem?_eq_some_iff.mp e).1
    exact ⟨_, List.getElem?_eq_getElem this, trivial⟩
  · exact r.sl j x z
/-- one more thing known -/
theorem Rep.learn (r : Rep B ε L F σ H) {v : V} {d : PyData} (h : Dq B.K F v d) : Rep B ε (L ++ [.know v d]) F σ H := by
  have e1 : fps (L ++ [.know v d]) = fps L := by unfold fps; rw [List.flatMap_append]; show _ ++ [] = _; rw [List.append_nil]
  refine ⟨r.sub, fun m hm => ?_, by rw [e1]; exact r.off, by rw [e1]; exact r.nd, r.sl, r.len, r.f0, r.h0, r.nc, by rw [e1]; exact r.mm⟩
  rcases List.mem_append.mp hm with q | q
  · exact r.own m q
  · rw [List.mem_singleton.mp q]; exact h
/-- what is known is forgotten; what is owned (and is not the entry's) is given up -/
theorem Rep.drop (r : Rep B ε L F σ H) {k : Nat} {m : MO} (hk : L[k]? = some m) (hM : ∀ p ∈ m.fp, p ∉ B.M) : Rep B ε (L.eraseIdx k) F σ H := by
  have hs : ∀ x ∈ L.eraseIdx k, x ∈ L := fun x hx => List.mem_of_mem_eraseIdx hx
  have hp : ∀ p ∈ fps (L.eraseIdx k), p ∈ fps L := fun p hp => by
    obtain ⟨x, h1, h2⟩ := List.mem_flatMap.mp hp
    exact mem_fps (hs x h1) h2
  refine ⟨r.sub, fun x hx => r.own x (hs x hx), fun p h => r.off p (hp p h), ?_, r.sl, r.len, r.f0, r.h0, r.nc, fun p hpM => ?_⟩
  · have : (fps (L.eraseIdx k)).Sublist (fps L) := fps_sub (List.eraseIdx_sublist L k)
    exact r.nd.sublist this
  · obtain ⟨x, h1, h2⟩ := List.mem_flatMap.mp (r.mm p hpM)
    refine List.mem_flatMap.mpr ⟨x, ?_, h2⟩
    obtain ⟨j, hj⟩ := List.mem_iff_getElem?.mp h1
    have ne : j ≠ k := fun e => by
      subst e
      rw [hk] at hj; cases hj
      exact hM p h2 hpM
    rw [List.mem_eraseIdx_iff_getElem?]
    exact ⟨j, ne, hj⟩
end

/-! ### judgements -/
section
variable (B : Bg)
def Ho (P : St → Hp → Prop) (ε : Eps) (L : Own) : Prop := ∀ F σ H, Rep B ε L F σ H → P σ H
def EX (te : TE) (ε : Eps) (L : Own) (a : AD) (L' : Own) : Prop := ∀ F σ H, Rep B ε L F σ H → ∀ Q : VK, (∀ v F' H', Sub F F' → Rep B ε L' F' σ H' → a.ok B.K F' v → Q v H') → te σ H Q
/-- a new list, owned: it stands at the head of L' -/
def EN (te : TE) (ε : Eps) (L : Own) (ds : List PyData) (L' : Own) : Prop := ∀ F σ H, Rep B ε L F σ H → ∀ Q : VK, (∀ p F' H', Sub F F' → p ∉ B.M → Rep B ε (.lst p ds :: L') F' σ H' → Q (.ref p) H') → te σ H Q
def ETt (tt : TT) (ε : Eps) (L : Own) (b : Bool) (L' : Own) : Prop := ∀ F σ H, Rep B ε L F σ H → ∀ Q : Bool → Hp → Prop, (∀ F' H', Sub F F' → Rep B ε L' F' σ H' → Q b H') → tt σ H Q
def AdAll (K : PySem.W.Frag) (F : Hp) : List AD → List V → Prop
  | [], [] => True
  | a :: as, v :: vs => a.ok K F v ∧ AdAll K F as vs
  | _, _ => False
def EA (ta : TA) (ε : Eps) (L : Own) (as : List AD) (L' : Own) : Prop := ∀ F σ H, Rep B ε L F σ H → ∀ Q : List V → Hp → Prop, (∀ vs F' H', Sub F F' → Rep B ε L' F' σ H' → AdAll B.K F' as vs → Q vs H') → ta σ H Q
def EO (to : TO) (ε : Eps) (L : Own) (o : Option Int) (L' : Own) : Prop := ∀ F σ H, Rep B ε L F σ H → ∀ Q : Option Int → Hp → Prop, (∀ F' H', Sub F F' → Rep B ε L' F' σ H' → Q o H') → to σ H Q
def GT (g : TG) (a : AD) (ε ε' : Eps) : Prop := ∀ L F σ H v, Rep B ε L F σ H → a.ok B.K F v → ∀ P : St → Hp → Prop, (∀ σ', Rep B ε' L F σ' H → P σ' H) → g v σ H P
def AbsP (I : Eps → Own → Prop) : St → Hp → Prop := fun σ H => ∃ ε L F, I ε L ∧ Rep B ε L F σ H
end
theorem AdAll.sub {K : PySem.W.Frag} {F G : Hp} (x : Sub F G) : ∀ {as : List AD} {vs : List V}, AdAll K F as vs → AdAll K G as vs
  | [], [], h => h
  | _ :: _, _ :: _, h => ⟨h.1.sub x, AdAll.sub x h.2⟩

section
variable {B : Bg} {ε ε' : Eps} {L L' L0 L1 L2 L3 : Own} {te ta tb : TE} {tt tu : TT} {tas tr : TA} {a b : AD} {D : Ends} {ts tc : TS}
/-! #### names, constants -/
theorem ex_v {i : Nat} (h : ε[i]? = some (some a)) : EX B (tVar i) ε L a L := fun F σ H r Q q => by
  obtain ⟨s, h1, y, rfl, h2⟩ := r.sl i _ h
  exact ⟨y, h1, q y F H (Sub.rfl' F) r h2⟩
theorem ex_cI {i : Int} : EX B (tC (.int i)) ε L (.d (.int i)) L := fun F σ H r Q q => q _ F H (Sub.rfl' F) r (.int i)
theorem ex_cB {i : Bool} : EX B (tC (.bl i)) ε L (.d (.bool i)) L := fun F σ H r Q q => q _ F H (Sub.rfl' F) r (.bl i)
theorem ex_cN : EX B (tC .non) ε L (.d .none) L := fun F σ H r Q q => q _ F H (Sub.rfl' F) r .non
theorem ex_cS {s : Str} : EX B (tC (.str s)) ε L (.d (.str s)) L := fun F σ H r Q q => q _ F H (Sub.rfl' F) r (.str s)
/-! #### two places -/
/-- what an operation gives, by what is known of its places -/
def RX (B : Bg) (r : R2) (ε : Eps) (L : Own) (x y z : AD) (L' : Own) : Prop := ∀ F σ H v w, Rep B ε L F σ H → x.ok B.K F v → y.ok B.K F w → ∀ Q : VK, (∀ u F' H', Sub F F' → Rep B ε L' F' σ H' → z.ok B.K F' u → Q u H') → r v w H Q
def RN (B : Bg) (r : R2) (ε : Eps) (L : Own) (x y : AD) (ds : List PyData) (L' : Own) : Prop := ∀ F σ H v w, Rep B ε L F σ H → x.ok B.K F v → y.ok B.K F w → ∀ Q : VK, (∀ p F' H', Sub F F' → p ∉ B.M → Rep B ε (.lst p ds :: L') F' σ H' → Q (.ref p) H') → r v w H Q
variable {r : R2} {x y z : AD}
theorem ex_op (ha : EX B ta ε L x L1) (hb : EX B tb ε L1 y L2) (hr : RX B r ε L2 x y z L3) : EX B (tOp r ta tb) ε L z L3 := fun F σ H rp Q q =>
  ha F σ H rp _ fun v F1 H1 s1 r1 o1 => hb F1 σ H1 r1 _ fun w F2 H2 s2 r2 o2 => hr F2 σ H2 v w r2 (o1.sub s2) o2 Q fun u F3 H3 s3 r3 o3 => q u F3 H3 ((s1.tr s2).tr s3) r3 o3
theorem en_op {ds : List PyData} (ha : EX B ta ε L x L1) (hb : EX B tb ε L1 y L2) (hr : RN B r ε L2 x y ds L3) : EN B (tOp r ta tb) ε L ds L3 := fun F σ H rp Q q =>
  ha F σ H rp _ fun v F1 H1 s1 r1 o1 => hb F1 σ H1 r1 _ fun w F2 H2 s2 r2 o2 => hr F2 σ H2 v w r2 (o1.sub s2) o2 Q fun u F3 H3 s3 hp r3 => q u F3 H3 ((s1.tr s2).tr s3) hp r3
theorem int_inv {K : PySem.W.Frag} {F : Hp} {v : V} {i : Int} (h : (AD.d (.int i)).ok K F v) : v = .int i := by cases h; rfl
theorem bool_inv {K : PySem.W.Frag} {F : Hp} {v : V} {i : Bool} (h : (AD.d (.bool i)).ok K F v) : v = .bl i := by cases h; rfl
theorem rx_I0 {g : Int → Int → V} {d : PyData} {i j : Int} (hd : ∀ K F, Dq K F (g i j) d) : RX B (rI0 g) ε L (.d (.int i)) (.d (.int j)) (.d d) L := fun F σ H v w rp hv hw Q q =>
  ⟨i, j, int_inv hv, int_inv hw, q _ F H (Sub.rfl' F) rp (hd _ _)⟩
theorem rx_I {C : Int → Int → Prop} {g : Int → Int → V} {d : PyData} {i j : Int} (hc : C i j) (hd : ∀ K F, Dq K F (g i j) d) : RX B (rI C g) ε L (.d (.int i)) (.d (.int j)) (.d d) L := fun F σ H v w rp hv hw Q q =>
  ⟨i, j, int_inv hv, int_inv hw, hc, q _ F H (Sub.rfl' F) rp (hd _ _)⟩
variable {i j : Int}
theorem ex_add (ha : EX B ta ε L (.d (.int i)) L1) (hb : EX B tb ε L1 (.d (.int j)) L2) : EX B (tOp (rI0 fun i j => .int (i + j)) ta tb) ε L (.d (.int (i + j))) L2 := ex_op ha hb (rx_I0 fun _ _ => .int _)
theorem ex_sub (ha : EX B ta ε L (.d (.int i)) L1) (hb : EX B tb ε L1 (.d (.int j)) L2) : EX B (tOp (rI0 fun i j => .int (i - j)) ta tb) ε L (.d (.int (i - j))) L2 := ex_op ha hb (rx_I0 fun _ _ => .int _)
theorem ex_mul (ha : EX B ta ε L (.d (.int i)) L1) (hb : EX B tb ε L1 (.d (.int j)) L2) (hc : CMulW i j) : EX B (tOp (rI CMulW fun i j => .int (i * j)) ta tb) ε L (.d (.int (i * j))) L2 := ex_op ha hb (rx_I hc fun _ _ => .int _)
theorem ex_pow (ha : EX B ta ε L (.d (.int i)) L1) (hb : EX B tb ε L1 (.d (.int j)) L2) (hc : CPow i j) : EX B (tOp (rI CPow fun i j => .int (i ^ j.toNat)) ta tb) ε L (.d (.int (i ^ j.toNat))) L2 := ex_op ha hb (rx_I hc fun _ _ => .int _)
theorem ex_mod (ha : EX B ta ε L (.d (.int i)) L1) (hb : EX B tb ε L1 (.d (.int j)) L2) (hc : 0 < j) : EX B (tOp (rI (fun _ j => 0 < j) fun i j => .int (i % j)) ta tb) ε L (.d (.int (i % j))) L2 := ex_op ha hb (rx_I hc fun _ _ => .int _)
theorem ex_fdiv (ha : EX B ta ε L (.d (.int i)) L1) (hb : EX B tb ε L1 (.d (.int j)) L2) (hc : CDivW i j) : EX B (tOp (rI CDivW fun i j => .int (i / j)) ta tb) ε L (.d (.int (i / j))) L2 := ex_op ha hb (rx_I hc fun _ _ => .int _)
theorem ex_lt (ha : EX B ta ε L (.d (.int i)) L1) (hb : EX B tb ε L1 (.d (.int j)) L2) : EX B (tOp (rI0 fun i j => .bl (decide (i < j))) ta tb) ε L (.d (.bool (decide (i < j)))) L2 := ex_op ha hb (rx_I0 fun _ _ => .bl _)
theorem ex_le (ha : EX B ta ε L (.d (.int i)) L1) (hb : EX B tb ε L1 (.d (.int j)) L2) : EX B (tOp (rI0 fun i j => .bl (decide (i ≤ j))) ta tb) ε L (.d (.bool (decide (i ≤ j)))) L2 := ex_op ha hb (rx_I0 fun _ _ => .bl _)
theorem ex_gt (ha : EX B ta ε L (.d (.int i)) L1) (hb : EX B tb ε L1 (.d (.int j)) L2) : EX B (tOp (rI0 fun i j => .bl (decide (j < i))) ta tb) ε L (.d (.bool (decide (j < i)))) L2 := ex_op ha hb (rx_I0 fun _ _ => .bl _)
theorem ex_ge (ha : EX B ta ε L (.d (.int i)) L1) (hb : EX B tb ε L1 (.d (.int j)) L2) : EX B (tOp (rI0 fun i j => .bl (decide (j ≤ i))) ta tb) ε L (.d (.bool (decide (j ≤ i)))) L2 := ex_op ha hb (rx_I0 fun _ _ => .bl _)
theorem ex_eqI (ha : EX B ta ε L (.d (.int i)) L1) (hb : EX B tb ε L1 (.d (.int j)) L2) : EX B (tOp rEq ta tb) ε L (.d (.bool (decide (i = j)))) L2 := ex_op ha hb fun F σ H v w rp hv hw Q q => by
  rw [int_inv hv, int_inv hw]
  refine ⟨rfl, ?_⟩
  have e : decide ((V.int i) = V.int j) = decide (i = j) := by
    by_cases h : i = j
    · subst h; simp
    · rw [decide_eq_false h, decide_eq_false fun z => h (V.int.inj z)]
  rw [e]
  exact q _ F H (Sub.rfl' F) rp (.bl _)
theorem ex_neI (ha : EX B ta ε L (.d (.int i)) L1) (hb : EX B tb ε L1 (.d (.int j)) L2) : EX B (tOp rNe ta tb) ε L (.d (.bool (!decide (i = j)))) L2 := ex_op ha hb fun F σ H v w rp hv hw Q q => by
  rw [int_inv hv, int_inv hw]
  refine ⟨rfl, ?_⟩
  have e : decide ((V.int i) = V.int j) = decide (i = j) := by
    by_cases h : i = j
    · subst h; simp
    · rw [decide_eq_false h, decide_eq_false fun z => h (V.int.inj z)]
  rw [e]
  exact q _ F H (Sub.rfl' F) rp (.bl _)
theorem ex_neS {s t : Str} (ha : EX B ta ε L (.d (.str s)) L1) (hb : EX B tb ε L1 (.d (.str t)) L2) : EX B (tOp rNe ta tb) ε L (.d (.bool (!decide (s = t)))) L2 := ex_op ha hb fun F σ H v w rp hv hw Q q => by
  have e1 : v = .str s := by cases hv; rfl
  have e2 : w = .str t := by cases hw; rfl
  rw [e1, e2]
  refine ⟨rfl, ?_⟩
  have e : decide ((V.str s) = V.str t) = decide (s = t) := by
    by_cases h : s = t
    · subst h; simp
    · rw [decide_eq_false h, decide_eq_false fun z => h (V.str.inj z)]
  rw [e]
  exact q _ F H (Sub.rfl' F) rp (.bl _)
theorem ex_eqS {s t : Str} (ha : EX B ta ε L (.d (.str s)) L1) (hb : EX B tb ε L1 (.d (.str t)) L2) : EX B (tOp rEq ta tb) ε L (.d (.bool (decide (s = t)))) L2 := ex_op ha hb fun F σ H v w rp hv hw Q q => by
  have e1 : v = .str s := by cases hv; rfl
  have e2 : w = .str t := by cases hw; rfl
  rw [e1, e2]
  refine ⟨rfl, ?_⟩
  have e : decide ((V.str s) = V.str t) = decide (s = t) := by
    by_cases h : s = t
    · subst h; simp
    · rw [decide_eq_false h, decide_eq_false fun z => h (V.str.inj z)]
  rw [e]
  exact q _ F H (Sub.rfl' F) rp (.bl _)
/-- == and != of data -/
theorem ex_eqD {d e : PyData} (ha : EX B ta ε L (.d d) L1) (hb : EX B tb ε L1 (.d e) L2) (h1 : SeqAt.shaped d = true) (h2 : SeqAt.shaped e = true) : EX B (tOp (rEqD B.K) ta tb) ε L (.d (.bool (PyData.eqv d e))) L2 := ex_op ha hb fun F σ H v w rp hv hw Q q =>
  ⟨d, e, dq_dp (nodict_shaped h1) (dp_sub rp.sub hv), dq_dp (nodict_shaped h2) (dp_sub rp.sub hw), h1, h2, q _ F H (Sub.rfl' F) rp (.bl _)⟩
theorem ex_neD {d e : PyData} (ha : EX B ta ε L (.d d) L1) (hb : EX B tb ε L1 (.d e) L2) (h1 : SeqAt.shaped d = true) (h2 : SeqAt.shaped e = true) : EX B (tOp (rNeD B.K) ta tb) ε L (.d (.bool (!PyData.eqv d e))) L2 := ex_op ha hb fun F σ H v w rp hv hw Q q =>
  ⟨d, e, dq_dp (nodict_shaped h1) (dp_sub rp.sub hv), dq_dp (nodict_shaped h2) (dp_sub rp.sub hw), h1, h2, q _ F H (Sub.rfl' F) rp (.bl _)⟩
def isNoneD : PyData → Bool
  | .none => true
  | _ => false
theorem ex_isN {d : PyData} (ha : EX B ta ε L (.d d) L1) : EX B (tIsN ta) ε L (.d (.bool (isNoneD d))) L1 := fun F σ H rp Q q =>
  ha F σ H rp _ fun v F1 H1 s1 r1 o1 => by
    have e : decide (v = V.non) = isNoneD d := by
      have o2 : Dq B.K F1 v d := o1
      cases o2 <;> rfl
    show Q (.bl (decide (v = .non))) H1
    rw [e]
    exact q _ F1 H1 s1 r1 (.bl _)
theorem ex_notN {d : PyData} (ha : EX B ta ε L (.d d) L1) : EX B (tNotN ta) ε L (.d (.bool (!isNoneD d))) L1 := fun F σ H rp Q q =>
  ha F σ H rp _ fun v F1 H1 s1 r1 o1 => by
    have e : (!decide (v = V.non)) = (!isNoneD d) := by
      have o2 : Dq B.K F1 v d := o1
      cases o2 <;> rfl
    show Q (.bl (!decide (v = .non))) H1
    rw [e]
    exact q _ F1 H1 s1 r1 (.bl _)
theorem ex_neg (ha : EX B ta ε L (.d (.int i)) L1) : EX B (tUn (rU fun i => .int (-i)) ta) ε L (.d (.int (-i))) L1 := fun F σ H rp Q q =>
  ha F σ H rp _ fun v F1 H1 s1 r1 o1 => ⟨i, int_inv o1, q _ F1 H1 s1 r1 (.int _)⟩
/-- the result said otherwise -/
theorem ex_is {c : AD} (h : EX B te ε L a L1) (e : a = c) : EX B te ε L c L1 := e ▸ h
theorem ex_int {k : Int} (h : EX B te ε L (.d (.int i)) L1) (e : i = k) : EX B te ε L (.d (.int k)) L1 := e ▸ h
theorem ex_boolE {b c : Bool} (h : EX B te ε L (.d (.bool b)) L1) (e : b = c) : EX B te ε L (.d (.bool c)) L1 := e ▸ h
theorem et_is {b c : Bool} (h : ETt B tt ε L b L1) (e : b = c) : ETt B tt ε L c L1 := e ▸ h
/-! #### tests -/
theorem et_test {b : Bool} (h : EX B te ε L (.d (.bool b)) L1) : ETt B (tTest te) ε L b L1 := fun F σ H rp Q q => h F σ H rp _ fun v F1 H1 s1 r1 o1 => ⟨b, bool_inv o1, q F1 H1 s1 r1⟩
theorem et_B {b : Bool} (h : EX B te ε L (.d (.bool b)) L1) : ETt B (tB te) ε L b L1 := fun F σ H rp Q q => h F σ H rp _ fun v F1 H1 s1 r1 o1 => ⟨b, bool_inv o1, q F1 H1 s1 r1⟩
theorem et_and {b c : Bool} (h1 : ETt B tt ε L b L1) (h2 : b = true → ETt B tu ε L1 c L2) (hL : b = false → L1 = L2) : ETt B (tAnd tt tu) ε L (b && c) L2 := fun F σ H rp Q q => h1 F σ H rp _ fun F1 H1 s1 r1 => by
  cases b with
  | true => exact h2 rfl F1 σ H1 r1 Q fun F2 H2 s2 r2 => q F2 H2 (s1.tr s2) r2
  | false => exact q F1 H1 s1 (hL rfl ▸ r1)
theorem et_or {b c : Bool} (h1 : ETt B tt ε L b L1) (h2 : b = false → ETt B tu ε L1 c L2) (hL : b = true → L1 = L2) : ETt B (tOr tt tu) ε L (b || c) L2 := fun F σ H rp Q q => h1 F σ H rp _ fun F1 H1 s1 r1 => by
  cases b with
  | false => exact h2 rfl F1 σ H1 r1 Q fun F2 H2 s2 r2 => q F2 H2 (s1.tr s2) r2
  | true => exact q F1 H1 s1 (hL rfl ▸ r1)
theorem et_not {b : Bool} (h : ETt B tt ε L b L1) : ETt B (tNot tt) ε L (!b) L1 := fun F σ H rp Q q => h F σ H rp _ fun F1 H1 s1 r1 => q F1 H1 s1 r1
theorem ex_notV {b : Bool} (h : EX B te ε L (.d (.bool b)) L1) : EX B (tNotV te) ε L (.d (.bool (!b))) L1 := fun F σ H rp Q q => h F σ H rp _ fun v F1 H1 s1 r1 o1 => ⟨b, bool_inv o1, q _ F1 H1 s1 r1 (.bl _)⟩
theorem ex_andV {b c : Bool} (h1 : EX B ta ε L (.d (.bool b)) L1) (h2 : b = true → EX B tb ε L1 (.d (.bool c)) L2) (hL : b = false → L1 = L2) : EX B (tAndV ta tb) ε L (.d (.bool (b && c))) L2 := fun F σ H rp Q q => h1 F σ H rp _ fun v F1 H1 s1 r1 o1 => ⟨b, bool_inv o1, by
  cases b with
  | true => exact h2 rfl F1 σ H1 r1 Q fun v2 F2 H2 s2 r2 o2 => q v2 F2 H2 (s1.tr s2) r2 o2
  | false => exact q _ F1 H1 s1 (hL rfl ▸ r1) (.bl _)⟩
theorem ex_orV {b c : Bool} (h1 : EX B ta ε L (.d (.bool b)) L1) (h2 : b = false → EX B tb ε L1 (.d (.bool c)) L2) (hL : b = true → L1 = L2) : EX B (tOrV ta tb) ε L (.d (.bool (b || c))) L2 := fun F σ H rp Q q => h1 F σ H rp _ fun v F1 H1 s1 r1 o1 => ⟨b, bool_inv o1, by
  cases b with
  | false => exact h2 rfl F1 σ H1 r1 Q fun v2 F2 H2 s2 r2 o2 => q v2 F2 H2 (s1.tr s2) r2 o2
  | true => exact q _ F1 H1 s1 (hL rfl ▸ r1) (.bl _)⟩
theorem ex_if {b : Bool} (h : ETt B tt ε L b L1) (h1 : b = true → EX B ta ε L1 a L2) (h2 : b = false → EX B tb ε L1 a L2) : EX B (tIf tt ta tb) ε L a L2 := fun F σ H rp Q q => h F σ H rp _ fun F1 H1 s1 r1 => by
  cases b with
  | true => exact h1 rfl F1 σ H1 r1 Q fun v2 F2 H2 s2 r2 o2 => q v2 F2 H2 (s1.tr s2) r2 o2
  | false => exact h2 rfl F1 σ H1 r1 Q fun v2 F2 H2 s2 r2 o2 => q v2 F2 H2 (s1.tr s2) r2 o2
/-- x if c else y, on ints -/
theorem ex_ifI {b : Bool} (h : ETt B tt ε L b L1) (h1 : b = true → EX B ta ε L1 (.d (.int i)) L2) (h2 : b = false → EX B tb ε L1 (.d (.int j)) L2) : EX B (tIf tt ta tb) ε L (.d (.int (if b then i else j))) L2 :=
  ex_if h (fun e => ex_int (h1 e) (by rw [e]; rfl)) (fun e => ex_int (h2 e) (by rw [e]; rfl))
/-! #### arguments, displays -/
theorem ea_nil : EA B tNil ε L [] L := fun F σ H rp Q q => q [] F H (Sub.rfl' F) rp trivial
theorem ea_cons {as : List AD} (h : EX B te ε L a L1) (hr : EA B tr ε L1 as L2) : EA B (tCons te tr) ε L (a :: as) L2 := fun F σ H rp Q q =>
  h F σ H rp _ fun v F1 H1 s1 r1 o1 => hr F1 σ H1 r1 _ fun vs F2 H2 s2 r2 o2 => q _ F2 H2 (s1.tr s2) r2 ⟨o1.sub s2, o2⟩
theorem ad_data {K : PySem.W.Frag} {F : Hp} : ∀ {ds : List PyData} {vs : List V}, AdAll K F (ds.map AD.d) vs → DqAll K F vs ds
  | [], [], _ => .nil
  | _ :: _, _ :: _, h => .cons h.1 (ad_data h.2)
theorem ex_tup {ds : List PyData} (h : EA B tas ε L (ds.map AD.d) L1) (hl : ds.length ≤ 100000) : EX B (tTup tas) ε L (.d (.tuple ds)) L1 := fun F σ H rp Q q =>
  h F σ H rp _ fun vs F1 H1 s1 r1 o1 => by
    have oa := ad_data o1
    refine ⟨Evl.sz_of (by rw [dpa_len oa]; exact hl), fun p hp => ?_⟩
    have hF := sub_none r1.sub hp
    exact q _ _ _ (s1.tr (sub_fresh hF)) (r1.grow hp) (.tup upd_same (dpa_sub (sub_fresh hF) oa))
theorem en_lst {ds : List PyData} (h : EA B tas ε L (ds.map AD.d) L1) (hl : ds.length ≤ 100000) : EN B (tLst tas) ε L ds L1 := fun F σ H rp Q q =>
  h F σ H rp _ fun vs F1 H1 s1 r1 o1 => by
    have oa := ad_data o1
    exact ⟨Evl.sz_of (by rw [dpa_len oa]; exact hl), fun p hp => q p F1 _ s1 (r1.newM hp) (r1.alloc hp rfl ⟨vs, upd_same, oa⟩)⟩
/-- a new list that will not change -/
theorem ex_frz {ds : List PyData} (h : EN B te ε L ds L1) : EX B te ε L (.d (.list ds)) L1 := fun F σ H rp Q q =>
  h F σ H rp _ fun p F1 H1 s1 hp r1 => by
    obtain ⟨vs, h1, h2⟩ := r1.own _ List.mem_cons_self
    have e1 : fps (.lst p ds :: L1) = p :: fps L1 := rfl
    have of := r1.off p (by rw [e1]; exact List.mem_cons_self)
    have nd := r1.nd
    rw [e1] at nd
    have nd' := List.nodup_cons.mp nd
    have sF : Sub F1 (upd F1 p (.lst vs)) := sub_fresh of.1
    have h0p : B.H0 p = none := of.2.resolve_left hp
    refine q _ (upd F1 p (.lst vs)) H1 (s1.tr sF) ⟨fun a o e => ?_, fun m hm => (r1.own m (List.mem_cons_of_mem _ hm)).subF sF, fun x hx => ?_, nd'.2, fun k x e => ?_, r1.len, r1.f0.tr sF, r1.h0, fun a g1 g2 => ?_, fun x hx => ?_⟩ (.lst upd_same (dpa_sub sF h2))
    · by_cases z : a = p
      · subst z; rw [upd_same] at e; cases e; exact h1
      · rw [upd_ne z] at e; exact r1.sub a o e
    · have ne : x ≠ p := fun z => nd'.1 (z ▸ hx)
      have := r1.off x (by rw [e1]; exact List.mem_cons_of_mem _ hx)
      exact ⟨by rw [upd_ne ne]; exact this.1, this.2⟩
    · obtain ⟨s, q1, q2⟩ := r1.sl k x e
      exact ⟨s, q1, q2.sub sF⟩
    · have ne : a ≠ p := fun z => g2 (z ▸ h0p)
      rw [upd_ne ne]; exact r1.nc a g1 g2
    · have := r1.mm x hx
      rw [e1] at this
      rcases List.mem_cons.mp this with z | z
      · exact absurd (z ▸ hx) hp
      · exact z
/-! #### lists and tuples read -/
/-- a list at hand: frozen, or owned -/
inductive IsL (L : Own) : AD → List PyData → Prop
  | d {ds : List PyData} : IsL L (.d (.list ds)) ds
  | o {p : Addr} {ds : List PyData} {k : Nat} (h : L[k]? = some (.lst p ds)) : IsL L (.v (.ref p)) ds
  | r {p : Addr} {ds : List PyData} {k : Nat} (h : L[k]? = some (.seq p ds)) : IsL L (.v (.ref p)) ds
theorem IsL.get {F : Hp} {σ : St} {H : Hp} {v : V} {ds : List PyData} (h : IsL L a ds) (rp : Rep B ε L F σ H) (o : a.ok B.K F v) : ∃ p vs, v = .ref p ∧ SqL B.K H p vs ∧ DqAll B.K F vs ds := by
  cases h with
  | d =>
    have o' : Dq B.K F v (.list ds) := o
    cases o' with
    | lst h1 h2 => exact ⟨_, _, rfl, .inl (.inl (rp.sub _ _ h1)), h2⟩
  | o hk =>
    obtain ⟨vs, h1, h2⟩ := rp.own _ (List.mem_of_getElem? hk)
    exact ⟨_, vs, o, .inl (.inl h1), h2⟩
  | r hk =>
    obtain ⟨vs, h1, h2⟩ := rp.own _ (List.mem_of_getElem? hk)
    exact ⟨_, vs, o, sql_sub rp.sub h1, h2⟩
theorem tup_inv {K : PySem.W.Frag} {F : Hp} {v : V} {ds : List PyData} (h : (AD.d (.tuple ds)).ok K F v) : ∃ p vs, v = .ref p ∧ F p = some (.tup vs) ∧ DqAll K F vs ds := by
  have o' : Dq K F v (.tuple ds) := h
  cases o' with
  | tup h1 h2 => exact ⟨_, _, rfl, h1, h2⟩
theorem ixN_lt {n : Nat} {i : Int} {k : Nat} (h : ixN n i = some k) : k < n := by
  unfold ixN at h
  split at h
  · split at h
    · cases h; omega
    · cases h
  · split at h
    · cases h; omega
    · cases h
theorem atI_dp {K : PySem.W.Frag} {F : Hp} {vs : List V} {ds : List PyData} {d : PyData} (h : DqAll K F vs ds) (e : atI ds i = some d) : ∃ v, atI vs i = some v ∧ Dq K F v d := by
  unfold atI at e ⊢
  rw [dpa_len h]
  cases hx : ixN ds.length i with
  | none => rw [hx] at e; cases e
  | some k =>
    rw [hx] at e
    exact dpa_get h e
theorem ex_ixL {ds : List PyData} {d : PyData} (ha : EX B ta ε L x L1) (hb : EX B tb ε L1 (.d (.int i)) L2) (hx : IsL L2 x ds) (hi : atI ds i = some d) : EX B (tOp (rIxL B.K) ta tb) ε L (.d d) L2 := ex_op ha hb fun F σ H v w rp hv hw Q q => by
  obtain ⟨p, vs, rfl, h1, h2⟩ := hx.get rp hv
  obtain ⟨u, e1, e2⟩ := atI_dp h2 hi
  exact ⟨p, vs, i, u, rfl, int_inv hw, h1, e1, q u F H (Sub.rfl' F) rp e2⟩
theorem ex_ixT {ds : List PyData} {d : PyData} (ha : EX B ta ε L (.d (.tuple ds)) L1) (hb : EX B tb ε L1 (.d (.int i)) L2) (hi : atI ds i = some d) : EX B (tOp (rIxT B.K) ta tb) ε L (.d d) L2 := ex_op ha hb fun F σ H v w rp hv hw Q q => by
  obtain ⟨p, vs, rfl, h1, h2⟩ := tup_inv hv
  obtain ⟨u, e1, e2⟩ := atI_dp h2 hi
  exact ⟨p, vs, i, u, rfl, int_inv hw, tq_sub rp.sub h1, e1, q u F H (Sub.rfl' F) rp e2⟩
theorem eo_n : EO B tNoPart ε L none L := fun F σ H rp Q q => q F H (Sub.rfl' F) rp
theorem eo_s (h : EX B te ε L (.d (.int i)) L1) : EO B (tPart te) ε L (some i) L1 := fun F σ H rp Q q => h F σ H rp _ fun v F1 H1 s1 r1 o1 => ⟨i, int_inv o1, q F1 H1 s1 r1⟩
def cutD (xs : List PyData) (lo hi : Option Int) : List PyData := (xs.drop (HT.sIx xs.length 0 lo)).take (HT.sIx xs.length xs.length hi - HT.sIx xs.length 0 lo)
theorem cut_dp {K : PySem.W.Frag} {F : Hp} {vs : List V} {ds : List PyData} {lo hi : Option Int} (h : DqAll K F vs ds) : DqAll K F (cutV vs lo hi) (cutD ds lo hi) := by
  unfold cutV cutD
  rw [dpa_len h]
  exact dpa_take _ (dpa_drop _ h)
theorem en_slL {tl th : TO} {lo hi : Option Int} {ds : List PyData} (h : EX B te ε L x L1) (h1 : EO B tl ε L1 lo L2) (h2 : EO B th ε L2 hi L3) (hx : IsL L3 x ds) : EN B (tSl (rSlL B.K) te tl th) ε L (cutD ds lo hi) L3 := fun F σ H rp Q q =>
  h F σ H rp _ fun v F1 H1 s1 r1 o1 => h1 F1 σ H1 r1 _ fun F2 H2 s2 r2 => h2 F2 σ H2 r2 _ fun F3 H3 s3 r3 => by
    obtain ⟨p, vs, rfl, g1, g2⟩ := hx.get r3 (o1.sub (s2.tr s3))
    exact ⟨p, vs, rfl, g1, fun p' hp => q p' F3 _ ((s1.tr s2).tr s3) (r3.newM hp) (r3.alloc hp rfl ⟨_, upd_same, cut_dp g2⟩)⟩
theorem ex_slT {tl th : TO} {lo hi : Option Int} {ds : List PyData} (h : EX B te ε L (.d (.tuple ds)) L1) (h1 : EO B tl ε L1 lo L2) (h2 : EO B th ε L2 hi L3) : EX B (tSl (rSlA B.K) te tl th) ε L (.d (.tuple (cutD ds lo hi))) L3 := fun F σ H rp Q q =>
  h F σ H rp _ fun v F1 H1 s1 r1 o1 => h1 F1 σ H1 r1 _ fun F2 H2 s2 r2 => h2 F2 σ H2 r2 _ fun F3 H3 s3 r3 => by
    obtain ⟨p, vs, rfl, g1, g2⟩ := tup_inv (o1.sub (s2.tr s3))
    refine ⟨p, vs, rfl, tq_sub r3.sub g1, fun c => ?_, fun _ p' hp => ?_⟩
    · refine q _ F3 H3 ((s1.tr s2).tr s3) r3 (.tup g1 ?_)
      have e := cut_dp (lo := lo) (hi := hi) g2
      have e2 : cutV vs lo hi = vs := by
        unfold cutV
        rw [c.1, c.2, List.drop_zero, Nat.sub_zero, List.take_length]
      rw [e2] at e
      exact e
    · have hF := sub_none r3.sub hp
      exact q _ _ _ (((s1.tr s2).tr s3).tr (sub_fresh hF)) (r3.grow hp) (.tup upd_same (dpa_sub (sub_fresh hF) (cut_dp g2)))
theorem ex_catT {ds es : List PyData} (ha : EX B ta ε L (.d (.tuple ds)) L1) (hb : EX B tb ε L1 (.d (.tuple es)) L2) (hl : ds.length + es.length ≤ 100000) : EX B (tOp (rCatA B.K) ta tb) ε L (.d (.tuple (ds ++ es))) L2 := ex_op ha hb fun F σ H v w rp hv hw Q q => by
  obtain ⟨p, vs, rfl, g1, g2⟩ := tup_inv hv
  obtain ⟨p', ws, rfl, g3, g4⟩ := tup_inv hw
  have app := dpa_app g2 g4
  refine ⟨p, p', vs, ws, rfl, rfl, tq_sub rp.sub g1, tq_sub rp.sub g3, Evl.sz_of (by rw [dpa_len g2, dpa_len g4]; exact hl), fun e => ?_, fun _ e => ?_, fun _ _ n hn => ?_⟩
  · subst e
    exact q _ F H (Sub.rfl' F) rp (.tup g3 app)
  · subst e
    rw [List.append_nil] at app
    exact q _ F H (Sub.rfl' F) rp (.tup g1 app)
  · have hF := sub_none rp.sub hn
    exact q _ _ _ (sub_fresh hF) (rp.grow hn) (.tup upd_same (dpa_sub (sub_fresh hF) app))
theorem ex_lenL {ds : List PyData} {r : List V → Hp → VK → Prop} (h : EX B te ε L x L1) (hx : IsL L1 x ds) (hr : r = fun xs H Q => ∃ p ys, xs = [.ref p] ∧ (SqL B.K H p ys ∨ SqT B.K H p ys) ∧ Q (.int ys.length) H) :
    EX B (tCB r (tCons te tNil)) ε L (.d (.int (ds.length : Int))) L1 := fun F σ H rp Q q =>
  h F σ H rp _ fun v F1 H1 s1 r1 o1 => by
    obtain ⟨p, vs, rfl, g1, g2⟩ := hx.get r1 o1
    show r [.ref p] H1 Q
    rw [hr]
    refine ⟨p, vs, rfl, .inl g1, ?_⟩
    rw [dpa_len g2]
    exact q _ F1 H1 s1 r1 (.int _)
theorem ex_lenT {ds : List PyData} {r : List V → Hp → VK → Prop} (h : EX B te ε L (.d (.tuple ds)) L1) (hr : r = fun xs H Q => ∃ p ys, xs = [.ref p] ∧ (SqL B.K H p ys ∨ SqT B.K H p ys) ∧ Q (.int ys.length) H) :
    EX B (tCB r (tCons te tNil)) ε L (.d (.int (ds.length : Int))) L1 := fun F σ H rp Q q =>
  h F σ H rp _ fun v F1 H1 s1 r1 o1 => by
    obtain ⟨p, vs, rfl, g1, g2⟩ := tup_inv o1
    show r [.ref p] H1 Q
    rw [hr]
    refine ⟨p, vs, rfl, .inr (tq_sub r1.sub g1), ?_⟩
    rw [dpa_len g2]
    exact q _ F1 H1 s1 r1 (.int _)
end
end Fz

/-! ## Fz2 -/
set_option Elab.async false
set_option linter.all false
set_option maxRecDepth 100000
set_option maxHeartbeats 2000000
set_option autoImplicit false
/-! Fz2: statements, loops, comprehensions, calls. -/
namespace Fz
open PySem L2

section
variable {B : Bg} {ε ε' : Eps} {L L' L0 L1 L2 L3 : Own} {te ta tb : TE} {tt tu : TT} {tas tr : TA} {a b : AD} {D : Ends} {ts tc tw : TS} {g : TG}
/-! ### statements -/
theorem gt_name {j : Nat} : GT B (gName j) a ε (ε.set j (some a)) := fun L F σ H v r o P p => p _ (r.slot o)
theorem x_asg (h : EX B te ε L a L1) (hg : GT B g a ε ε') (k : Ho B D.nx ε' L1) : Ho B (tAsg te g D) ε L := fun F σ H r =>
  h F σ H r _ fun v F1 H1 _ r1 o1 => hg L1 F1 σ H1 v r1 o1 _ fun σ' r2 => k F1 σ' H1 r2
theorem x_set {i : Nat} (h : EX B te ε L a L1) (k : Ho B D.nx (ε.set i (some a)) L1) : Ho B (tAsg te (gName i) D) ε L := x_asg h gt_name k
theorem x_setN {i : Nat} {ds : List PyData} (h : EN B te ε L ds L1) (k : ∀ p, p ∉ B.M → Ho B D.nx (ε.set i (some (.v (.ref p)))) (.lst p ds :: L1)) : Ho B (tAsg te (gName i) D) ε L := fun F σ H r =>
  h F σ H r _ fun p F1 H1 _ hp r1 => k p hp F1 _ H1 (r1.slot (a := .v (.ref p)) rfl)
theorem x_drop (h : EX B te ε L a L1) (k : Ho B D.nx ε L1) : Ho B (tDrop te D) ε L := fun F σ H r => h F σ H r _ fun v F1 H1 _ r1 o1 => k F1 σ H1 r1
theorem x_seq (h : Ho B (ts { D with nx := tc D }) ε L) : Ho B (tSeq ts tc D) ε L := h
/-- a statement, then the rest from what M says -/
theorem x_cut {M : Eps → Own → Prop} (h : Ho B (ts { D with nx := AbsP B M }) ε L) (k : ∀ ε' L', M ε' L' → Ho B (tc D) ε' L') : Ho B (Evl.tCut ts tc D) ε L := fun F σ H r =>
  ⟨AbsP B M, h F σ H r, fun σ' H' ⟨ε', L', F', hm, r'⟩ => k ε' L' hm F' σ' H' r'⟩
theorem x_next (h : Ho B D.nx ε L) : Ho B (tNext D) ε L := h
theorem x_cont (h : Ho B D.ct ε L) : Ho B (tCont D) ε L := h
theorem x_break (h : Ho B D.bk ε L) : Ho B (tBreak D) ε L := h
theorem x_if {b : Bool} (h : ETt B tt ε L b L1) (h1 : b = true → Ho B (ts D) ε L1) (h2 : b = false → Ho B (tw D) ε L1) : Ho B (tIfS tt ts tw D) ε L := fun F σ H r =>
  h F σ H r _ fun F1 H1 _ r1 => by
    cases b with
    | true => exact h1 rfl F1 σ H1 r1
    | false => exact h2 rfl F1 σ H1 r1
theorem x_ret {d : PyData} (h : EX B te ε L (.d d) L1) (k : ∀ v F σ H, Rep B ε L1 F σ H → Dq B.K F v d → D.rt v H) : Ho B (tRet te D) ε L := fun F σ H r =>
  h F σ H r _ fun v F1 H1 _ r1 o1 => k v F1 σ H1 r1 o1
theorem x_retV {v : V} (h : EX B te ε L (.v v) L1) (k : ∀ F σ H, Rep B ε L1 F σ H → D.rt v H) : Ho B (tRet te D) ε L := fun F σ H r =>
  h F σ H r _ fun w F1 H1 _ r1 o1 => by
    have e : w = v := o1
    rw [e]; exact k F1 σ H1 r1
theorem x_par {i j : Nat} {a b : AD} (h : EA B tas ε L [a, b] L1) (k : Ho B D.nx ((ε.set i (some a)).set j (some b)) L1) : Ho B (tPar i j tas D) ε L := fun F σ H r =>
  h F σ H r _ fun vs F1 H1 _ r1 o1 => by
    match vs, o1 with
    | [v, w], o => exact ⟨v, w, rfl, k F1 _ H1 ((r1.slot o.1).slot o.2.1)⟩
/-- what is wanted holds from what is known, junk forgotten -/
theorem x_abs {I : Eps → Own → Prop} (h : I ε' L) (w : Wk ε ε') : Ho B (AbsP B I) ε L := fun F σ H r => ⟨ε', L, F, h, r.wk w⟩
theorem ho_wk {P : St → Hp → Prop} (h : Ho B P ε' L) (w : Wk ε ε') : Ho B P ε L := fun F σ H r => h F σ H (r.wk w)
theorem ho_abs {P : St → Hp → Prop} {I : Eps → Own → Prop} (h : ∀ ε L, I ε L → Ho B P ε L) {σ : St} {H : Hp} (x : AbsP B I σ H) : P σ H :=
  let ⟨ε, L, F, i, r⟩ := x
  h ε L i F σ H r
/-- an owned thing, or a thing known, given up -/
theorem ho_drop {P : St → Hp → Prop} {k : Nat} {m : MO} (h : Ho B P ε (L.eraseIdx k)) (hk : L[k]? = some m) (hM : ∀ p ∈ m.fp, p ∉ B.M) : Ho B P ε L := fun F σ H r => h F σ H (r.drop hk hM)

/-! ### targets that are tuples -/
theorem gt_tup2 {i j : Nat} {d e : PyData} : GT B (gTup B.K 2 (gCons (gName i) (gCons (gName j) gNil))) (.d (.tuple [d, e])) ε ((ε.set i (some (.d d))).set j (some (.d e))) := fun L F σ H v r o P p => by
  obtain ⟨q, vs, rfl, h1, h2⟩ := tup_inv o
  cases h2 with
  | cons a t =>
    cases t with
    | cons b t =>
      cases t
      exact ⟨q, _, rfl, tq_sub r.sub h1, rfl, _, _, rfl, _, _, rfl, rfl, p _ ((r.slot (a := .d d) a).slot (a := .d e) b)⟩
theorem gt_tup3 {i j k : Nat} {d e f : PyData} : GT B (gTup B.K 3 (gCons (gName i) (gCons (gName j) (gCons (gName k) gNil)))) (.d (.tuple [d, e, f])) ε (((ε.set i (some (.d d))).set j (some (.d e))).set k (some (.d f))) := fun L F σ H v r o P p => by
  obtain ⟨q, vs, rfl, h1, h2⟩ := tup_inv o
  cases h2 with
  | cons a t =>
    cases t with
    | cons b t =>
      cases t with
      | cons c t =>
        cases t
        exact ⟨q, _, rfl, tq_sub r.sub h1, rfl, _, _, rfl, _, _, rfl, _, _, rfl, rfl, p _ (((r.slot (a := .d d) a).slot (a := .d e) b).slot (a := .d f) c)⟩

/-! ### loops -/
theorem x_forR1 {j : Nat} {n : Int} (h : EA B tas ε L [.d (.int n)] L1) (hn : -(2 ^ 62) ≤ n ∧ n < 2 ^ 62) (I : Nat → Eps → Own → Prop) (h0 : I 0 ε L1)
    (hs : ∀ (i : Nat) ε' L', (i : Int) < n → I i ε' L' → Ho B (tc { D with nx := AbsP B (I (i + 1)), ct := AbsP B (I (i + 1)), bk := D.nx }) (ε'.set j (some (.d (.int (i : Int))))) L')
    (hd : ∀ ε' L', I n.toNat ε' L' → Ho B D.nx ε' L') : Ho B (tFor (iRng1 tas) (gName j) tc D) ε L := fun F σ H r =>
  h F σ H r _ fun vs F1 H1 _ r1 o1 => by
    match vs, o1 with
    | [v], o =>
      have ev : v = .int n := int_inv o.1
      subst ev
      refine ⟨n, rfl, hn.1, hn.2, for_range (lo := 0) (n := n.toNat) (fun i => AbsP B (I i)) ⟨ε, L1, F1, h0, r1⟩ (fun i σ' H' hi p => ?_) fun σ' H' p => ho_abs hd p⟩
      obtain ⟨ε', L', F', hI, r'⟩ := p
      have e0 : (0 : Int) + (i : Int) = (i : Int) := Int.zero_add _
      show tc _ (σ'.set j (some (.int ((0 : Int) + (i : Int))))) H'
      rw [e0]
      exact hs i ε' L' (by omega) hI F' _ H' (r'.slot (a := .d (.int (i : Int))) (.int _))
theorem x_forR2 {j : Nat} {lo n : Int} (h : EA B tas ε L [.d (.int lo), .d (.int n)] L1) (hn : (-(2 ^ 62) ≤ lo ∧ lo < 2 ^ 62) ∧ -(2 ^ 62) ≤ n ∧ n < 2 ^ 62) (I : Nat → Eps → Own → Prop) (h0 : I 0 ε L1)
    (hs : ∀ (i : Nat) ε' L', lo + (i : Int) < n → I i ε' L' → Ho B (tc { D with nx := AbsP B (I (i + 1)), ct := AbsP B (I (i + 1)), bk := D.nx }) (ε'.set j (some (.d (.int (lo + (i : Int)))))) L')
    (hd : ∀ ε' L', I (n - lo).toNat ε' L' → Ho B D.nx ε' L') : Ho B (tFor (iRng2 tas) (gName j) tc D) ε L := fun F σ H r =>
  h F σ H r _ fun vs F1 H1 _ r1 o1 => by
    match vs, o1 with
    | [v, w], o =>
      have ev : v = .int lo := int_inv o.1
      have ew : w = .int n := int_inv o.2.1
      subst ev ew
      refine ⟨lo, n, rfl, ⟨hn.1.1, hn.1.2, hn.2.1, hn.2.2⟩, for_range (lo := lo) (n := (n - lo).toNat) (fun i => AbsP B (I i)) ⟨ε, L1, F1, h0, r1⟩ (fun i σ' H' hi p => ?_) fun σ' H' p => ho_abs hd p⟩
      obtain ⟨ε', L', F', hI, r'⟩ := p
      exact hs i ε' L' (by omega) hI F' _ H' (r'.slot (a := .d (.int (lo + (i : Int)))) (.int _))
/-- over a frozen list -/
theorem x_forL {ds : List PyData} (h : EX B te ε L (.d (.list ds)) L1) (I : V → Nat → Eps → Own → Prop) (h0 : ∀ v, I v 0 ε (L1 ++ [.know v (.list ds)])) (hl : ∀ v i ε' L', I v i ε' L' → MO.know v (.list ds) ∈ L')
    (hs : ∀ v i d ε' L', ds[i]? = some d → I v i ε' L' → ∃ ε'', GT B g (.d d) ε' ε'' ∧ Ho B (tc { D with nx := AbsP B (I v (i + 1)), ct := AbsP B (I v (i + 1)), bk := D.nx }) ε'' L')
    (hd : ∀ v ε' L', I v ds.length ε' L' → Ho B D.nx ε' L') : Ho B (tFor (iList B.K te) g tc D) ε L := fun F σ H r =>
  h F σ H r _ fun v F1 H1 _ r1 o1 => by
    have o' : Dq B.K F1 v (.list ds) := o1
    have r2 := r1.learn o'
    cases o' with
    | @lst p vs _ q1 q2 =>
      have back : ∀ {i : Nat} {ε' : Eps} {L' : Own} {F' : Hp} {σ' : St} {H' : Hp}, I (.ref p) i ε' L' → Rep B ε' L' F' σ' H' → ∃ ws, SqL B.K H' p ws ∧ DqAll B.K F' ws ds := fun hI r' => by
        have k : Dq B.K _ (.ref p) (.list ds) := r'.own _ (hl _ _ _ _ hI)
        cases k with
        | lst k1 k2 => exact ⟨_, .inl (.inl (r'.sub _ _ k1)), k2⟩
      refine ⟨p, rfl, ⟨vs, .inl (.inl (r1.sub _ _ q1))⟩, ⟨fun i m σ' H' => m = ds.length - i ∧ i ≤ ds.length ∧ AbsP B (I (.ref p) i) σ' H', ⟨_, rfl, Nat.zero_le _, ε, _, F1, h0 _, r2⟩, ?_⟩⟩
      rintro i m σ' H' ⟨rfl, hi, ε', L', F', hI, r'⟩
      obtain ⟨ws, k1, k2⟩ := back hI r'
      by_cases hlt : i < ds.length
      · obtain ⟨d, hdi⟩ : ∃ d, ds[i]? = some d := ⟨_, List.getElem?_eq_getElem hlt⟩
        obtain ⟨w, e1, e2⟩ := dpa_get k2 hdi
        obtain ⟨ε'', hg, hb⟩ := hs _ i d ε' L' hdi hI
        refine .inr ⟨⟨ws, w, k1, e1⟩, AbsP B (I (.ref p) (i + 1)), fun σ2 H2 hN => ⟨ds.length - (i + 1), by omega, rfl, hlt, hN⟩, fun x H2 hy => ?_⟩
        obtain ⟨rfl, hx⟩ := hy
        have ex : x = w := Option.some.inj ((hx ws k1).symm.trans e1)
        subst ex
        exact hg L' F' σ' _ x r' e2 _ fun σ3 r3 => hb F' σ3 _ r3
      · have ei : i = ds.length := by omega
        subst ei
        exact .inl ⟨⟨ws, k1, by rw [dpa_len k2]; exact Nat.le_refl _⟩, hd _ _ _ hI F' σ' H' r'⟩
/-- over an owned list that the loop leaves -/
theorem x_forO {p : Addr} {ds : List PyData} (h : EX B te ε L (.v (.ref p)) L1) (I : Nat → Eps → Own → Prop) (h0 : I 0 ε L1) (hl : ∀ i ε' L', I i ε' L' → MO.lst p ds ∈ L')
    (hs : ∀ i d ε' L', ds[i]? = some d → I i ε' L' → ∃ ε'', GT B g (.d d) ε' ε'' ∧ Ho B (tc { D with nx := AbsP B (I (i + 1)), ct := AbsP B (I (i + 1)), bk := D.nx }) ε'' L')
    (hd : ∀ ε' L', I ds.length ε' L' → Ho B D.nx ε' L') : Ho B (tFor (iList B.K te) g tc D) ε L := fun F σ H r =>
  h F σ H r _ fun v F1 H1 _ r1 o1 => by
    have ev : v = .ref p := o1
    subst ev
    have back : ∀ {i : Nat} {ε' : Eps} {L' : Own} {F' : Hp} {σ' : St} {H' : Hp}, I i ε' L' → Rep B ε' L' F' σ' H' → ∃ ws, SqL B.K H' p ws ∧ DqAll B.K F' ws ds := fun hI r' => by
      obtain ⟨ws, k1, k2⟩ := r'.own _ (hl _ _ _ hI)
      exact ⟨ws, .inl (.inl k1), k2⟩
    obtain ⟨vs, q1, q2⟩ := back h0 r1
    refine ⟨p, rfl, ⟨vs, q1⟩, ⟨fun i m σ' H' => m = ds.length - i ∧ i ≤ ds.length ∧ AbsP B (I i) σ' H', ⟨_, rfl, Nat.zero_le _, ε, _, F1, h0, r1⟩, ?_⟩⟩
    rintro i m σ' H' ⟨rfl, hi, ε', L', F', hI, r'⟩
    obtain ⟨ws, k1, k2⟩ := back hI r'
    by_cases hlt : i < ds.length
    · obtain ⟨d, hdi⟩ : ∃ d, ds[i]? = some d := ⟨_, List.getElem?_eq_getElem hlt⟩
      obtain ⟨w, e1, e2⟩ := dpa_get k2 hdi
      obtain ⟨ε'', hg, hb⟩ := hs i d ε' L' hdi hI
      refine .inr ⟨⟨ws, w, k1, e1⟩, AbsP B (I (i + 1)), fun σ2 H2 hN => ⟨ds.length - (i + 1), by omega, rfl, hlt, hN⟩, fun x H2 hy => ?_⟩
      obtain ⟨rfl, hx⟩ := hy
      have ex : x = w := Option.some.inj ((hx ws k1).symm.trans e1)
      subst ex
      exact hg L' F' σ' _ x r' e2 _ fun σ3 r3 => hb F' σ3 _ r3
    · have ei : i = ds.length := by omega
      subst ei
      exact .inl ⟨⟨ws, k1, by rw [dpa_len k2]; exact Nat.le_refl _⟩, hd _ _ hI F' σ' H' r'⟩
/-- over a tuple -/
theorem x_forT {ds : List PyData} (h : EX B te ε L (.d (.tuple ds)) L1) (I : V → Nat → Eps → Own → Prop) (h0 : ∀ v, I v 0 ε (L1 ++ [.know v (.tuple ds)])) (hl : ∀ v i ε' L', I v i ε' L' → MO.know v (.tuple ds) ∈ L')
    (hs : ∀ v i d ε' L', ds[i]? = some d → I v i ε' L' → ∃ ε'', GT B g (.d d) ε' ε'' ∧ Ho B (tc { D with nx := AbsP B (I v (i + 1)), ct := AbsP B (I v (i + 1)), bk := D.nx }) ε'' L')
    (hd : ∀ v ε' L', I v ds.length ε' L' → Ho B D.nx ε' L') : Ho B (tFor (iTup B.K te) g tc D) ε L := fun F σ H r =>
  h F σ H r _ fun v F1 H1 _ r1 o1 => by
    have o' : Dq B.K F1 v (.tuple ds) := o1
    have r2 := r1.learn o'
    cases o' with
    | @tup p vs _ q1 q2 =>
      have back : ∀ {i : Nat} {ε' : Eps} {L' : Own} {F' : Hp} {σ' : St} {H' : Hp}, I (.ref p) i ε' L' → Rep B ε' L' F' σ' H' → ∃ ws, SqT B.K H' p ws ∧ DqAll B.K F' ws ds := fun hI r' => by
        have k : Dq B.K _ (.ref p) (.tuple ds) := r'.own _ (hl _ _ _ _ hI)
        cases k with
        | tup k1 k2 => exact ⟨_, tq_sub r'.sub k1, k2⟩
      refine ⟨p, rfl, ⟨vs, tq_sub r1.sub q1⟩, ⟨fun i m σ' H' => m = ds.length - i ∧ i ≤ ds.length ∧ AbsP B (I (.ref p) i) σ' H', ⟨_, rfl, Nat.zero_le _, ε, _, F1, h0 _, r2⟩, ?_⟩⟩
      rintro i m σ' H' ⟨rfl, hi, ε', L', F', hI, r'⟩
      obtain ⟨ws, k1, k2⟩ := back hI r'
      by_cases hlt : i < ds.length
      · obtain ⟨d, hdi⟩ : ∃ d, ds[i]? = some d := ⟨_, List.getElem?_eq_getElem hlt⟩
        obtain ⟨w, e1, e2⟩ := dpa_get k2 hdi
        obtain ⟨ε'', hg, hb⟩ := hs _ i d ε' L' hdi hI
        refine .inr ⟨⟨ws, w, k1, e1⟩, AbsP B (I (.ref p) (i + 1)), fun σ2 H2 hN => ⟨ds.length - (i + 1), by omega, rfl, hlt, hN⟩, fun x H2 hy => ?_⟩
        obtain ⟨rfl, hx⟩ := hy
        have ex : x = w := Option.some.inj ((hx ws k1).symm.trans e1)
        subst ex
        exact hg L' F' σ' _ x r' e2 _ fun σ3 r3 => hb F' σ3 _ r3
      · have ei : i = ds.length := by omega
        subst ei
        exact .inl ⟨⟨ws, k1, by rw [dpa_len k2]; exact Nat.le_refl _⟩, hd _ _ _ hI F' σ' H' r'⟩
/-- over enumerate of a frozen list -/
theorem x_forE {ds : List PyData} (h : EA B tas ε L [.d (.list ds)] L1) (I : V → Nat → Eps → Own → Prop) (h0 : ∀ v, I v 0 ε (L1 ++ [.know v (.list ds)])) (hl : ∀ v i ε' L', I v i ε' L' → MO.know v (.list ds) ∈ L')
    (hs : ∀ v i d ε' L', ds[i]? = some d → I v i ε' L' → ∃ ε'', GT B g (.d (.tuple [.int (i : Int), d])) ε' ε'' ∧ Ho B (tc { D with nx := AbsP B (I v (i + 1)), ct := AbsP B (I v (i + 1)), bk := D.nx }) ε'' L')
    (hd : ∀ v ε' L', I v ds.length ε' L' → Ho B D.nx ε' L') : Ho B (tFor (iEnum B.K tas) g tc D) ε L := fun F σ H r =>
  h F σ H r _ fun vs0 F1 H1 _ r1 o1 => by
    match vs0, o1 with
    | [v], o =>
    have o' : Dq B.K F1 v (.list ds) := o.1
    have r2 := r1.learn o'
    cases o' with
    | @lst p vs _ q1 q2 =>
      have back : ∀ {i : Nat} {ε' : Eps} {L' : Own} {F' : Hp} {σ' : St} {H' : Hp}, I (.ref p) i ε' L' → Rep B ε' L' F' σ' H' → ∃ ws, SqL B.K H' p ws ∧ DqAll B.K F' ws ds := fun hI r' => by
        have k : Dq B.K _ (.ref p) (.list ds) := r'.own _ (hl _ _ _ _ hI)
        cases k with
        | lst k1 k2 => exact ⟨_, .inl (.inl (r'.sub _ _ k1)), k2⟩
      refine ⟨p, vs, rfl, .inl (.inl (r1.sub _ _ q1)), ⟨fun i m σ' H' => m = ds.length - i ∧ i ≤ ds.length ∧ AbsP B (I (.ref p) i) σ' H', ⟨_, rfl, Nat.zero_le _, ε, _, F1, h0 _, r2⟩, ?_⟩⟩
      rintro i m σ' H' ⟨rfl, hi, ε', L', F', hI, r'⟩
      obtain ⟨ws, k1, k2⟩ := back hI r'
      by_cases hlt : i < ds.length
      · obtain ⟨d, hdi⟩ : ∃ d, ds[i]? = some d := ⟨_, List.getElem?_eq_getElem hlt⟩
        obtain ⟨w, e1, e2⟩ := dpa_get k2 hdi
        obtain ⟨ε'', hg, hb⟩ := hs _ i d ε' L' hdi hI
        refine .inr ⟨⟨ws, w, k1, e1⟩, AbsP B (I (.ref p) (i + 1)), fun σ2 H2 hN => ⟨ds.length - (i + 1), by omega, rfl, hlt, hN⟩, fun x H2 hy => ?_⟩
        obtain ⟨T, y, rfl, hT, rfl, hx⟩ := hy
        have ex : y = w := Option.some.inj ((hx ws k1).symm.trans e1)
        subst ex
        have hF := sub_none r'.sub hT
        exact hg L' _ σ' _ _ (r'.grow hT) (.tup upd_same (.cons (.int _) (.cons (dp_sub (sub_fresh hF) e2) .nil))) _ fun σ3 r3 => hb _ σ3 _ r3
      · have ei : i = ds.length := by omega
        subst ei
        exact .inl ⟨⟨ws, k1, by rw [dpa_len k2]; exact Nat.le_refl _⟩, hd _ _ _ hI F' σ' H' r'⟩
theorem x_while (I : Nat → Eps → Own → Prop) {m0 : Nat} (h0 : I m0 ε L)
    (hs : ∀ m ε' L', I m ε' L' → ∃ b L'', ETt B tt ε' L' b L'' ∧ (b = true → Ho B (tc { D with nx := AbsP B (fun ε L => ∃ m', m' < m ∧ I m' ε L), ct := AbsP B (fun ε L => ∃ m', m' < m ∧ I m' ε L), bk := D.nx }) ε' L'') ∧ (b = false → Ho B D.nx ε' L'')) :
    Ho B (tWhile tt tc D) ε L := fun F σ H r => by
  refine ⟨fun m => AbsP B (I m), ⟨m0, ε, L, F, h0, r⟩, ?_⟩
  rintro m σ' H' ⟨ε', L', F', hI, r'⟩
  obtain ⟨b, L'', ht, h1, h2⟩ := hs m ε' L' hI
  refine ht F' σ' H' r' _ fun F2 H2 _ r2 => ?_
  cases b with
  | true =>
    refine ⟨AbsP B (fun ε L => ∃ m', m' < m ∧ I m' ε L), fun σ3 H3 ⟨ε3, L3, F3, ⟨m', hm, hI'⟩, r3⟩ => ⟨m', hm, ε3, L3, F3, hI', r3⟩, ?_⟩
    exact h1 rfl F2 σ' H2 r2
  | false => exact h2 rfl F2 σ' H2 r2
end

/-! ### comprehensions -/
def wipeE (ε : Eps) : List Nat → Eps
  | [] => ε
  | v :: vs => (wipeE ε vs).set v none
section
variable {B : Bg} {ε ε' : Eps} {L L' L0 L1 L2 L3 : Own} {F : Hp} {σ : St} {H : Hp}
theorem Rep.forget (r : Rep B ε L F σ H) {i : Nat} : Rep B (ε.set i none) L F (σ.set i none) H := by
  refine ⟨r.sub, r.own, r.off, r.nd, fun j x e => ?_, by rw [List.length_set, List.length_set]; exact r.len, r.f0, r.h0, r.nc, r.mm⟩
  rw [List.getElem?_set] at e
  rw [List.getElem?_set, r.len]
  split at e
  · rename_i ij
    subst ij
    split at e
    · rename_i il
      cases e
      rw [if_pos rfl, if_pos il]
      exact ⟨_, rfl, trivial⟩
    · cases e
  · rename_i ij
    rw [if_neg ij]
    exact r.sl j x e
theorem Rep.wipe (r : Rep B ε L F σ H) : ∀ vs : List Nat, Rep B (wipeE ε vs) L F (_root_.L2.wipe σ vs) H
  | [] => r
  | _ :: vs => (r.wipe vs).forget
/-- the slots as they were, the heap as it is -/
theorem Rep.reslot {σ' : St} {ε0 : Eps} {L0 : Own} {F0 H0 : Hp} (r : Rep B ε L F σ H) (r0 : Rep B ε0 L0 F0 σ' H0) (s : Sub F0 F) : Rep B ε0 L F σ' H :=
  ⟨r.sub, r.own, r.off, r.nd, fun i x e => let ⟨y, a, b⟩ := r0.sl i x e; ⟨y, a, b.sub s⟩, r0.len, r.f0, r.h0, r.nc, r.mm⟩
theorem fps_rot (m : MO) (L : Own) : (fps (L ++ [m])).Perm (fps (m :: L)) := by
  have e : fps (L ++ [m]) = fps L ++ m.fp := by unfold fps; rw [List.flatMap_append]; show _ ++ (m.fp ++ []) = _; rw [List.append_nil]
  rw [e]
  exact List.perm_append_comm
theorem Rep.perm (r : Rep B ε L F σ H) (h1 : ∀ m, m ∈ L' → m ∈ L) (h2 : (fps L).Perm (fps L')) : Rep B ε L' F σ H :=
  ⟨r.sub, fun m hm => r.own m (h1 m hm), fun p hp => r.off p (h2.mem_iff.mpr hp), h2.nodup r.nd, r.sl, r.len, r.f0, r.h0, r.nc, fun p hp => h2.mem_iff.mp (r.mm p hp)⟩
theorem Rep.toEnd {m : MO} (r : Rep B ε (m :: L) F σ H) : Rep B ε (L ++ [m]) F σ H := r.perm (fun x hx => by
  rcases List.mem_append.mp hx with h | h
  · exact List.mem_cons_of_mem _ h
  · rw [List.mem_singleton.mp h]; exact List.mem_cons_self) (fps_rot m L).symm
theorem Rep.toHead {m : MO} (r : Rep B ε (L ++ [m]) F σ H) : Rep B ε (m :: L) F σ H := r.perm (fun x hx => by
  rcases List.mem_cons.mp hx with h | h
  · rw [h]; exact List.mem_append_right _ List.mem_cons_self
  · exact List.mem_append_left _ h) (fps_rot m L)
end
end Fz

/-! ## Fz3 -/
set_option Elab.async false
set_option linter.all false
set_option maxRecDepth 100000
set_option maxHeartbeats 2000000
set_option autoImplicit false
/-! Fz3: comprehensions, calls, methods of lists, built-ins. -/
namespace Fz
open PySem L2

section
variable {B : Bg} {ε ε' : Eps} {L L' La Lb Lc Ld : Own} {te ta tb tl : TE} {tt tu : TT} {tas tr : TA} {a b x : AD} {D : Ends} {ts tc tw : TS} {g : TG} {vs : List Nat}
/-! ### comprehensions: I says what is gathered behind i items, and what is owned then -/
def CW (B : Bg) (ε : Eps) (vs : List Nat) (F1 : Hp) (σ : St) (I : Nat → List PyData → Own → Prop) (Dl : Addr) (i : Nat) (H : Hp) : Prop :=
  ∃ acc L F, Sub F1 F ∧ I i acc L ∧ Rep B (wipeE ε vs) (L ++ [.lst Dl acc]) F (wipe σ vs) H
/-- one turn of a comprehension, said of data -/
def CTurn (B : Bg) (g : TG) (tt : TT) (te : TE) (ε : Eps) (vs : List Nat) (I : Nat → List PyData → Own → Prop) (i : Nat) (d : PyData) : Prop :=
  ∀ acc L', I i acc L' → acc.length < 100000 ∧ ∃ ε2, GT B g (.d d) (wipeE ε vs) ε2 ∧ ∃ b L2, (∀ m, ETt B tt ε2 (L' ++ [m]) b (L2 ++ [m])) ∧ (b = true → ∃ e L3, (∀ m, EX B te ε2 (L2 ++ [m]) (.d e) (L3 ++ [m])) ∧ I (i + 1) (acc ++ [e]) L3) ∧ (b = false → I (i + 1) acc L2)
theorem get_last {L : Own} {m : MO} : (L ++ [m])[L.length]? = some m := by rw [List.getElem?_append_right (Nat.le_refl _), Nat.sub_self]; rfl
theorem set_last {L : Own} {m n : MO} : (L ++ [m]).set L.length n = L ++ [n] := by rw [List.set_append_right _ _ (Nat.le_refl _), Nat.sub_self]; rfl
theorem cturn_go {F1 : Hp} {σ : St} {I : Nat → List PyData → Own → Prop} {Dl : Addr} {i : Nat} {H : Hp} {d : PyData} {w : V} (hw : ∀ v σ H P, (g v (wipe σ vs) H P ↔ g v (wipe σ vs) H fun σ2 H2 => wipe σ2 vs = wipe σ vs ∧ P σ2 H2))
    (ct : CTurn B g tt te ε vs I i d) (c : CW B ε vs F1 σ I Dl i H) (hd : ∀ F acc L, Sub F1 F → Rep B (wipeE ε vs) (L ++ [.lst Dl acc]) F (wipe σ vs) H → Dq B.K F w d) :
    g w (wipe σ vs) H fun σ2 H2 => wipe σ2 vs = wipe σ vs ∧ tt σ2 H2 fun b H3 =>
      if b = true then te σ2 H3 fun y H4 => ∃ acc, H4 Dl = some (.lst acc) ∧ acc.length < sizeLine ∧ CW B ε vs F1 σ I Dl (i + 1) (upd H4 Dl (.lst (acc ++ [y]))) else CW B ε vs F1 σ I Dl (i + 1) H3 := by
  obtain ⟨acc, L', F, s, hI, r⟩ := c
  obtain ⟨hz, ε2, hg, b, L2, h1, h2, h3⟩ := ct acc L' hI
  refine (hw w σ H _).mp (hg _ F _ H w r (hd F acc L' s r) _ fun σ2 r2 => ?_)
  refine h1 _ F σ2 H r2 _ fun F3 H3 s3 r3 => ?_
  cases b with
  | true =>
    obtain ⟨e, L3, h4, h5⟩ := h2 rfl
    show te σ2 H3 _
    refine h4 _ F3 σ2 H3 r3 _ fun y F4 H4 s4 r4 o4 => ?_
    obtain ⟨ws, k1, k2⟩ := r4.own _ (List.mem_append_right _ List.mem_cons_self)
    have hz2 : ws.length < sizeLine := by rw [dpa_len k2]; exact Evl.sz_lt hz
    refine ⟨ws, k1, hz2, acc ++ [e], L3, F4, (s.tr s3).tr s4, h5, ?_⟩
    have r5 : Rep B (wipeE ε vs) (L3 ++ [.lst Dl acc]) F4 (wipe σ vs) H4 := r4.reslot r ((s3).tr s4)
    have r6 := r5.chg (m' := .lst Dl (acc ++ [e])) (H' := upd H4 Dl (.lst (ws ++ [y]))) get_last rfl ⟨_, upd_same, dpa_app k2 (.cons o4 .nil)⟩ fun q o hq e => by
      rw [upd_ne (fun z => hq (by rw [z]; exact List.mem_cons_self))]; exact e
    rw [set_last] at r6
    exact r6
  | false =>
    exact ⟨acc, L2, F3, s.tr s3, h3 rfl, r3.reslot r s3⟩
/-- targets that store in slots of the comprehension alone -/
theorem gw_name {j : Nat} (hj : j ∈ vs) : ∀ (v : V) (σ : St) (H : Hp) (P : St → Hp → Prop), (gName j v (wipe σ vs) H P ↔ gName j v (wipe σ vs) H fun σ2 H2 => wipe σ2 vs = wipe σ vs ∧ P σ2 H2) := fun v σ H P => by
  have key : ∀ (vs : List Nat), j ∈ vs → ∀ (σ : St) x, wipe (σ.set j x) vs = wipe σ vs := by
    intro vs
    induction vs with
    | nil => intro h; simp at h
    | cons k ks ih =>
      intro h σ x
      show (wipe (σ.set j x) ks).set k none = (wipe σ ks).set k none
      by_cases hk : j ∈ ks
      · rw [ih hk]
      · have ejk : j = k := by
          rcases List.mem_cons.mp h with e | e
          · exact e
          · exact absurd e hk
        subst ejk
        have push : ∀ (ks : List Nat) (σ : St), j ∉ ks → wipe (σ.set j x) ks = (wipe σ ks).set j x := by
          intro ks
          induction ks with
          | nil => intro σ _; rfl
          | cons l ls ih2 =>
            intro σ hn
            show (wipe (σ.set j x) ls).set l none = ((wipe σ ls).set l none).set j x
            rw [ih2 σ fun z => hn (List.mem_cons_of_mem _ z)]
            exact List.set_comm _ _ fun z => hn (z ▸ List.mem_cons_self)
        rw [push ks σ hk, List.set_set]
  have w2 : ∀ (vs : List Nat) (σ : St), wipe (wipe σ vs) vs = wipe σ vs := by
    intro vs
    have aux : ∀ (ks ls : List Nat) (σ : St), (∀ k ∈ ks, k ∈ ls) → wipe (wipe σ ls) ks = wipe σ ls := by
      intro ks
      induction ks with
      | nil => intro ls σ _; rfl
      | cons k ks ih =>
        intro ls σ h
        show (wipe (wipe σ ls) ks).set k none = wipe σ ls
        rw [ih ls σ fun z hz => h z (List.mem_cons_of_mem _ hz)]
        have hk := h k List.mem_cons_self
        clear ih h
        induction ls with
        | nil => simp at hk
        | cons l ls ih =>
          show ((wipe σ ls).set l none).set k none = (wipe σ ls).set l none
          by_cases e : l = k
          · subst e; rw [List.set_set]
          · rw [List.set_comm _ _ e]
            rcases List.mem_cons.mp hk with z | z
            · exact absurd z.symm e
            · rw [ih z]
    intro σ
    exact aux vs vs σ fun _ h => h
  constructor
  · intro h
    exact ⟨by rw [key vs hj, w2], h⟩
  · intro h
    exact h.2
theorem cw_start {F1 : Hp} {σ : St} {H1 : Hp} {I : Nat → List PyData → Own → Prop} {Dl : Addr} (r1 : Rep B ε La F1 σ H1) (hD : H1 Dl = none) (h0 : I 0 [] La) : CW B ε vs F1 σ I Dl 0 (upd H1 Dl (.lst [])) :=
  ⟨[], La, F1, Sub.rfl' F1, h0, ((r1.alloc (m := .lst Dl []) hD rfl ⟨[], upd_same, .nil⟩).toEnd).wipe vs⟩
theorem cw_end {F F1 : Hp} {σ : St} {H1 : Hp} {I : Nat → List PyData → Own → Prop} {Dl : Addr} {n : Nat} {H' : Hp} {Q : VK} (s1 : Sub F F1) (r1 : Rep B ε La F1 σ H1) (hD : H1 Dl = none) (c : CW B ε vs F1 σ I Dl n H')
    {ds : List PyData} (hd : ∀ acc L', I n acc L' → acc = ds ∧ L' = L) (q : ∀ p F' H', Sub F F' → p ∉ B.M → Rep B ε (.lst p ds :: L) F' σ H' → Q (.ref p) H') : Q (.ref Dl) H' := by
  obtain ⟨acc, L', F', s, hI, r⟩ := c
  obtain ⟨rfl, rfl⟩ := hd acc L' hI
  exact q Dl F' H' (s1.tr s) (r1.newM hD) (r.reslot r1 s).toHead
theorem en_lcR1 {j : Nat} {n : Int} {ds : List PyData} (h : EA B tas ε L [.d (.int n)] La) (hn : -(2 ^ 62) ≤ n ∧ n < 2 ^ 62) (I : Nat → List PyData → Own → Prop) (h0 : I 0 [] La) (hj : j ∈ vs)
    (hs : ∀ i : Nat, (i : Int) < n → CTurn B (gName j) tt te ε vs I i (.int (i : Int))) (hd : ∀ acc L', I n.toNat acc L' → acc = ds ∧ L' = Lb) : EN B (tLc (iRng1 tas) (gName j) tt te vs) ε L ds Lb := fun F σ H r Q q =>
  h F σ H r _ fun ws F1 H1 s1 r1 o1 => by
    match ws, o1 with
    | [v], o =>
      have ev : v = .int n := int_inv o.1
      subst ev
      refine ⟨n, rfl, hn.1, hn.2, fun Dl hD => lc_range (lo := 0) (n := n.toNat) (CW B ε vs F1 σ I Dl) (cw_start r1 hD h0) (fun i H' hi c => ?_) fun H' c => cw_end s1 r1 hD c hd q⟩
      have e0 : (0 : Int) + (i : Int) = (i : Int) := Int.zero_add _
      rw [e0]
      exact cturn_go (gw_name hj) (hs i (by omega)) c fun _ _ _ _ _ => .int _
theorem en_lcR2 {j : Nat} {lo n : Int} {ds : List PyData} (h : EA B tas ε L [.d (.int lo), .d (.int n)] La) (hn : (-(2 ^ 62) ≤ lo ∧ lo < 2 ^ 62) ∧ -(2 ^ 62) ≤ n ∧ n < 2 ^ 62) (I : Nat → List PyData → Own → Prop) (h0 : I 0 [] La) (hj : j ∈ vs)
    (hs : ∀ i : Nat, lo + (i : Int) < n → CTurn B (gName j) tt te ε vs I i (.int (lo + (i : Int)))) (hd : ∀ acc L', I (n - lo).toNat acc L' → acc = ds ∧ L' = Lb) : EN B (tLc (iRng2 tas) (gName j) tt te vs) ε L ds Lb := fun F σ H r Q q =>
  h F σ H r _ fun ws F1 H1 s1 r1 o1 => by
    match ws, o1 with
    | [v, w], o =>
      have ev : v = .int lo := int_inv o.1
      have ew : w = .int n := int_inv o.2.1
      subst ev ew
      refine ⟨lo, n, rfl, ⟨hn.1.1, hn.1.2, hn.2.1, hn.2.2⟩, fun Dl hD => lc_range (lo := lo) (n := (n - lo).toNat) (CW B ε vs F1 σ I Dl) (cw_start r1 hD h0) (fun i H' hi c => ?_) fun H' c => cw_end s1 r1 hD c hd q⟩
      exact cturn_go (gw_name hj) (hs i (by omega)) c fun _ _ _ _ _ => .int _
/-- over a frozen list, any target -/
theorem en_lcL {xs ds : List PyData} (h : EX B tl ε L (.d (.list xs)) La) (I : Nat → List PyData → Own → Prop) (h0 : I 0 [] La)
    (hw : ∀ (v : V) (σ : St) (H : Hp) (P : St → Hp → Prop), (g v (wipe σ vs) H P ↔ g v (wipe σ vs) H fun σ2 H2 => wipe σ2 vs = wipe σ vs ∧ P σ2 H2))
    (hs : ∀ (i : Nat) d, xs[i]? = some d → CTurn B g tt te ε vs I i d) (hd : ∀ acc L', I xs.length acc L' → acc = ds ∧ L' = Lb) : EN B (tLc (iList B.K tl) g tt te vs) ε L ds Lb := fun F σ H r Q q =>
  h F σ H r _ fun v F1 H1 s1 r1 o1 => by
    have o' : Dq B.K F1 v (.list xs) := o1
    cases o' with
    | @lst p us _ q1 q2 =>
      refine ⟨p, rfl, ⟨us, .inl (.inl (r1.sub _ _ q1))⟩, fun Dl hD => lc_list (xs := us) (CW B ε vs F1 σ I Dl) (cw_start r1 hD h0) (fun i H' _ c => ?_) (fun i x H' hi c => ?_) fun H' c => cw_end s1 r1 hD (by rw [dpa_len q2] at c; exact c) hd q⟩
      · obtain ⟨acc, L', F', s, hI, r'⟩ := c
        exact .inl (.inl (r'.sub _ _ (s _ _ q1)))
      · have hlt : i < xs.length := by rw [← dpa_len q2]; exact (List.getElem?_eq_some_iff.mp hi).1
        obtain ⟨w, e1, e2⟩ := dpa_get q2 (List.getElem?_eq_getElem hlt)
        have ex : x = w := Option.some.inj (hi.symm.trans e1)
        subst ex
        exact cturn_go hw (hs i _ (List.getElem?_eq_getElem hlt)) c fun F' _ _ s _ => dp_sub s e2
theorem en_lcT {xs ds : List PyData} (h : EX B tl ε L (.d (.tuple xs)) La) (I : Nat → List PyData → Own → Prop) (h0 : I 0 [] La)
    (hw : ∀ (v : V) (σ : St) (H : Hp) (P : St → Hp → Prop), (g v (wipe σ vs) H P ↔ g v (wipe σ vs) H fun σ2 H2 => wipe σ2 vs = wipe σ vs ∧ P σ2 H2))
    (hs : ∀ (i : Nat) d, xs[i]? = some d → CTurn B g tt te ε vs I i d) (hd : ∀ acc L', I xs.length acc L' → acc = ds ∧ L' = Lb) : EN B (tLc (iTup B.K tl) g tt te vs) ε L ds Lb := fun F σ H r Q q =>
  h F σ H r _ fun v F1 H1 s1 r1 o1 => by
    have o' : Dq B.K F1 v (.tuple xs) := o1
    cases o' with
    | @tup p us _ q1 q2 =>
      refine ⟨p, rfl, ⟨us, tq_sub r1.sub q1⟩, fun Dl hD => lc_tup (xs := us) (CW B ε vs F1 σ I Dl) (cw_start r1 hD h0) (fun i H' _ c => ?_) (fun i x H' hi c => ?_) fun H' c => cw_end s1 r1 hD (by rw [dpa_len q2] at c; exact c) hd q⟩
      · obtain ⟨acc, L', F', s, hI, r'⟩ := c
        exact tq_sub r'.sub (s _ _ q1)
      · have hlt : i < xs.length := by rw [← dpa_len q2]; exact (List.getElem?_eq_some_iff.mp hi).1
        obtain ⟨w, e1, e2⟩ := dpa_get q2 (List.getElem?_eq_getElem hlt)
        have ex : x = w := Option.some.inj (hi.symm.trans e1)
        subst ex
        exact cturn_go hw (hs i _ (List.getElem?_eq_getElem hlt)) c fun F' _ _ s _ => dp_sub s e2
/-- the plain kind: what is owned stays, the items are filtered and mapped -/
theorem cturn_pure {i : Nat} {d : PyData} {L0 : Own} {xs : List PyData} {f : PyData → PyData} {t : PyData → Bool} {ε2 : Eps} (hx : xs[i]? = some d) (hz : xs.length ≤ 90000) (hg : GT B g (.d d) (wipeE ε vs) ε2)
    (ht : ∀ m, ETt B tt ε2 (L0 ++ [m]) (t d) (L0 ++ [m])) (he : t d = true → ∀ m, EX B te ε2 (L0 ++ [m]) (.d (f d)) (L0 ++ [m])) :
    CTurn B g tt te ε vs (fun i acc L => acc = ((xs.take i).filter t).map f ∧ L = L0) i d := fun acc L' ⟨ha, hL⟩ => by
  subst ha hL
  have hi : i < xs.length := (List.getElem?_eq_some_iff.mp hx).1
  have e1 : xs.take (i + 1) = xs.take i ++ [d] := by rw [List.take_add_one, hx]; rfl
  refine ⟨?_, ε2, hg, t d, L', ht, fun hb => ⟨f d, L', he hb, ?_, rfl⟩, fun hb => ⟨?_, rfl⟩⟩
  · rw [List.length_map]
    exact Nat.lt_of_le_of_lt (List.length_filter_le _ _) (by rw [List.length_take]; omega)
  · rw [e1, List.filter_append, List.map_append, List.filter_cons, if_pos hb]; rfl
  · rw [e1, List.filter_append, List.map_append, List.filter_cons, if_neg (by rw [hb]; exact Bool.false_ne_true)]
    show _ = _ ++ []
    rw [List.append_nil]
theorem et_yes : ETt B tYes ε L true L := fun F σ H r Q q => q F H (Sub.rfl' F) r
end

/-! ### what defs promise -/
def NxM (M : List Addr) (F H F' H' : Hp) : Prop := Sub F F' ∧ (∀ a o, a ∉ M → H a = some o → H' a = some o) ∧ Sub F' H' ∧ ∀ a, F a = none → H a ≠ none → F' a = none ∨ ∃ xs, H a = some (.tup xs)
/-- a def of data: R says what comes of what -/
def spR (K : PySem.W.Frag) (R : List PyData → PyData → Prop) : Sp := fun vs H Q _ => ∃ F ds d, Sub F H ∧ DqAll K F vs ds ∧ R ds d ∧ ∀ v F' H', NxM [] F H F' H' → Dq K F' v d → Q v H'
def BOk (cells : List Int) (cur mix : Int) : Prop := 0 ≤ mix ∧ mix < 2147483647 ∧ 0 ≤ cur ∧ ∀ c ∈ cells, 0 ≤ c
structure Bag where
  cells : List Int
  cur : Int
  mix : Int
  ok : BOk cells cur mix
def Bag.at (b : Bag) (pb pc : Addr) : MO := .bag pb pc b.cells b.cur b.mix
/-- a def whose first argument is the bag -/
def spB (K : PySem.W.Frag) (R : Bag → List PyData → PyData → Bag → Prop) : Sp := fun vs H Q _ => ∃ F pb pc b vs' ds d b', vs = .ref pb :: vs' ∧ Sub F H ∧ F pb = none ∧ F pc = none ∧ pb ≠ pc ∧ BagAt H pb pc b.cells b.cur b.mix ∧ DqAll K F vs' ds ∧ R b ds d b' ∧
  ∀ v F' H', NxM [pb, pc] F H F' H' → BagAt H' pb pc b'.cells b'.cur b'.mix → Dq K F' v d → Q v H'
section
variable {B : Bg} {ε ε' : Eps} {L L' La Lb Lc Ld : Own} {te ta tb tl : TE} {tt tu : TT} {tas tr : TA} {a b x : AD} {D : Ends} {ts tc tw : TS} {g : TG} {F : Hp} {σ : St} {H : Hp}
/-- behind a call that changes what M tells of -/
theorem Rep.call (r : Rep B ε L F σ H) {F' H' : Hp} (n : NxM [] F H F' H') : Rep B ε L F' σ H' := by
  obtain ⟨n1, n2, n3, n4⟩ := n
  have k : Sub H H' := fun a o e => n2 a o (by simp) e
  refine ⟨n3, fun m hm => ((r.own m hm).subF n1).same fun p _ o e => k p o e, fun p hp => ⟨?_, (r.off p hp).2⟩, r.nd, fun i x e => ?_, r.len, r.f0.tr n1, fun a o h e => k a o (r.h0 a o h e), fun a h1 h2 => ?_, r.mm⟩
  · obtain ⟨o, ho⟩ := r.there hp
    exact (n4 p (r.off p hp).1 (by rw [ho]; exact fun z => nomatch z)).resolve_right fun ⟨xs, e⟩ => r.noT hp e
  · obtain ⟨s, q1, q2⟩ := r.sl i x e
    exact ⟨s, q1, q2.sub n1⟩
  · refine (r.nc a h1 h2).elim (fun hn => ?_) .inr
    by_cases hm : a ∈ B.M
    · obtain ⟨o, ho⟩ := r.there (r.mm a hm)
      exact .inl ((n4 a hn (by rw [ho]; exact fun z => nomatch z)).resolve_right fun ⟨xs, e⟩ => r.noT (r.mm a hm) e)
    · cases e : B.H0 a with
      | none => exact absurd e h2
      | some o =>
        refine (n4 a hn (by rw [r.h0 a o hm e]; exact fun z => nomatch z)).elim .inl fun ⟨xs, q⟩ => .inr ⟨xs, ?_⟩
        rw [r.h0 a o hm e] at q
        exact q
theorem Rep.callB (r : Rep B ε L F σ H) {k : Nat} {pb pc : Addr} {c : List Int} {u m : Int} {b' : Bag} (hk : L[k]? = some (.bag pb pc c u m)) {F' H' : Hp} (n : NxM [pb, pc] F H F' H') (hb : BagAt H' pb pc b'.cells b'.cur b'.mix) : Rep B ε (L.set k (b'.at pb pc)) F' σ H' := by
  obtain ⟨n1, n2, n3, n4⟩ := n
  -- first the frozen part grows over the old heap, then the bag changes
  have hL := List.mem_of_getElem? hk
  have ef := fps_set (m' := b'.at pb pc) hk rfl
  have hmem : ∀ p ∈ ([pb, pc] : List Addr), p ∈ fps L := fun p hp => mem_fps hL hp
  refine ⟨n3, fun x hx => ?_, fun p hp => ?_, by rw [ef]; exact r.nd, fun i x e => ?_, r.len, r.f0.tr n1, fun a o h e => ?_, fun a h1 h2 => ?_, by rw [ef]; exact r.mm⟩
  · obtain ⟨j, hj⟩ := List.mem_iff_getElem?.mp hx
    rw [List.getElem?_set] at hj
    split at hj
    · split at hj
      · cases hj; exact hb
      · cases hj
    · rename_i ne
      exact ((r.own x (List.mem_of_getElem? hj)).subF n1).same fun p hp o e => n2 p o (fun h => fps_apart r.nd hk hj ne p h hp) e
  · rw [ef] at hp
    obtain ⟨o, ho⟩ := r.there hp
    exact ⟨(n4 p (r.off p hp).1 (by rw [ho]; exact fun z => nomatch z)).resolve_right fun ⟨xs, e⟩ => r.noT hp e, (r.off p hp).2⟩
  · obtain ⟨s, q1, q2⟩ := r.sl i x e
    exact ⟨s, q1, q2.sub n1⟩
  · refine n2 a o (fun hm => ?_) (r.h0 a o h e)
    rcases (r.off a (hmem a hm)).2 with q | q
    · exact h q
    · rw [q] at e; cases e
  · refine (r.nc a h1 h2).elim (fun hn => ?_) .inr
    by_cases hm : a ∈ B.M
    · obtain ⟨o, ho⟩ := r.there (r.mm a hm)
      exact .inl ((n4 a hn (by rw [ho]; exact fun z => nomatch z)).resolve_right fun ⟨xs, e⟩ => r.noT (r.mm a hm) e)
    · cases e : B.H0 a with
      | none => exact absurd e h2
      | some o =>
        refine (n4 a hn (by rw [r.h0 a o hm e]; exact fun z => nomatch z)).elim .inl fun ⟨xs, q⟩ => .inr ⟨xs, ?_⟩
        rw [r.h0 a o hm e] at q
        exact q
theorem ex_call {R : List PyData → PyData → Prop} {E : XK} {ds : List PyData} {d : PyData} (h : EA B tas ε L (ds.map AD.d) La) (hR : R ds d) : EX B (tCall (spR B.K R) [] E tas) ε L (.d d) La := fun F σ H r Q q =>
  h F σ H r _ fun vs F1 H1 s1 r1 o1 => by
    rw [List.append_nil]
    exact ⟨F1, ds, d, r1.sub, ad_data o1, hR, fun v F' H' n o => q v F' H' (s1.tr n.1) (r1.call n) o⟩
theorem ex_callB {R : Bag → List PyData → PyData → Bag → Prop} {E : XK} {k : Nat} {pb pc : Addr} {b : Bag} {ds : List PyData} {d : PyData} {b' : Bag} (h : EA B tas ε L (.v (.ref pb) :: ds.map AD.d) La) (hk : La[k]? = some (b.at pb pc)) (hR : R b ds d b') :
    EX B (tCall (spB B.K R) [] E tas) ε L (.d d) (La.set k (b'.at pb pc)) := fun F σ H r Q q =>
  h F σ H r _ fun vs F1 H1 s1 r1 o1 => by
    match vs, o1 with
    | v :: vs', o =>
      have ev : v = .ref pb := o.1
      subst ev
      rw [List.append_nil]
      have hm := List.mem_of_getElem? hk
      have nd : pb ≠ pc := fun e => by
        have x : ([pb, pc] : List Addr).Nodup := by
          have sl : ([pb, pc] : List Addr).Sublist (fps La) := by
            obtain ⟨l1, l2, e2⟩ := List.append_of_mem hm
            rw [e2]
            unfold fps
            rw [List.flatMap_append, List.flatMap_cons]
            exact (List.sublist_append_left _ _).trans (List.sublist_append_right _ _)
          exact r1.nd.sublist sl
        subst e
        simp at x
      exact ⟨F1, pb, pc, b, vs', ds, d, b', rfl, r1.sub, (r1.off pb (mem_fps hm List.mem_cons_self)).1, (r1.off pc (mem_fps hm (List.mem_cons_of_mem _ List.mem_cons_self))).1, nd, r1.own _ hm, ad_data o.2, hR,
        fun v F' H' n hb o => q v F' H' (s1.tr n.1) (r1.callB hk n hb) o⟩
/-- with keywords alone: perm puts them in the parameters' order -/
theorem ex_callK {R : List PyData → PyData → Prop} {E : XK} {gV : List V → List V → List V} {tk : TA} {as bs : List AD} {ds : List PyData} {d : PyData} (h : EA B tas ε L as La) (hk : EA B tk ε La bs Lb)
    (hp : ∀ K F vs zs, AdAll K F as vs → AdAll K F bs zs → DqAll K F (gV vs zs) ds) (hR : R ds d) : EX B (tCallK (spR B.K R) gV E tas tk) ε L (.d d) Lb := fun F σ H r Q q =>
  h F σ H r _ fun vs F1 H1 s1 r1 o1 => hk F1 σ H1 r1 _ fun zs F2 H2 s2 r2 o2 =>
    ⟨F2, ds, d, r2.sub, hp _ _ _ _ (o1.sub s2) o2, hR, fun v F' H' n o => q v F' H' ((s1.tr s2).tr n.1) (r2.call n) o⟩

/-! ### a def's entry and end -/
def argE (ds : List PyData) (n : Nat) : Eps := ds.map (fun d => some (.d d)) ++ List.replicate (n - ds.length) none
theorem rep_start {K : PySem.W.Frag} {N : List Str} {F H : Hp} {vs : List V} {ds : List PyData} (s : Sub F H) (h : DqAll K F vs ds) (hn : ds.length ≤ N.length) : Rep ⟨K, F, H, []⟩ (argE ds N.length) [] F (_root_.L2.start N vs) H := by
  have hl := dpa_len h
  refine ⟨s, fun m hm => (nomatch hm), fun p hp => (nomatch hp), List.nodup_nil, fun i x e => ?_, ?_, Sub.rfl' F, fun _ _ _ e => e, fun _ e _ => .inl e, fun p hp => (nomatch hp)⟩
  · unfold argE at e
    unfold _root_.L2.start
    by_cases hi : i < ds.length
    · rw [List.getElem?_append_left (by rw [List.length_map]; exact hi), List.getElem?_map] at e
      cases e1 : ds[i]? with
      | none => rw [e1] at e; cases e
      | some d =>
        rw [e1] at e
        cases e
        obtain ⟨v, g1, g2⟩ := dpa_get h e1
        refine ⟨some v, ?_, v, rfl, g2⟩
        rw [List.getElem?_append_left (by rw [List.length_map, hl]; exact hi), List.getElem?_map, g1]; rfl
    · rw [List.getElem?_append_right (by rw [List.length_map]; omega), List.length_map, List.getElem?_replicate] at e
      split at e
      · cases e
        rename_i hlt
        refine ⟨none, ?_, trivial⟩
        rw [List.getElem?_append_right (by rw [List.length_map, hl]; omega), List.length_map, hl, List.getElem?_replicate, if_pos hlt]
      · cases e
  · unfold _root_.L2.start argE
    rw [List.length_append, List.length_append, List.length_map, List.length_map, List.length_replicate, List.length_replicate, hl]
theorem rep_startB {K : PySem.W.Frag} {N : List Str} {F H : Hp} {pb pc : Addr} {b : Bag} {vs : List V} {ds : List PyData} (s : Sub F H) (f1 : F pb = none) (f2 : F pc = none) (ne : pb ≠ pc) (hb : BagAt H pb pc b.cells b.cur b.mix) (h : DqAll K F vs ds) (hn : ds.length + 1 ≤ N.length) :
    Rep ⟨K, F, H, [pb, pc]⟩ (some (.v (.ref pb)) :: argE ds (N.length - 1)) [b.at pb pc] F (_root_.L2.start N (.ref pb :: vs)) H := by
  have hl := dpa_len h
  refine ⟨s, fun m hm => ?_, fun p hp => ?_, ?_, fun i x e => ?_, ?_, Sub.rfl' F, fun _ _ _ e => e, fun _ e _ => .inl e, fun p hp => hp⟩
  · rw [List.mem_singleton.mp hm]; exact hb
  · have hp' : p ∈ ([pb, pc] : List Addr) := hp
    refine ⟨?_, .inl hp'⟩
    rcases List.mem_cons.mp hp' with e | e
    · rw [e]; exact f1
    · rw [List.mem_singleton.mp e]; exact f2
  · show ([pb, pc] : List Addr).Nodup
    simp [ne]
  · cases i with
    | zero => cases e; exact ⟨_, rfl, _, rfl, rfl⟩
    | succ i =>
      have e : (argE ds (N.length - 1))[i]? = some x := e
      show ∃ s, (_root_.L2.start N (.ref pb :: vs))[i + 1]? = some s ∧ _
      have es : (_root_.L2.start N (.ref pb :: vs))[i + 1]? = (vs.map some ++ List.replicate (N.length - 1 - vs.length) none)[i]? := by
        unfold _root_.L2.start
        rw [List.map_cons, List.cons_append, List.getElem?_cons_succ, List.length_cons]
        have : N.length - (vs.length + 1) = N.length - 1 - vs.length := by omega
        rw [this]
      rw [es]
      unfold argE at e
      by_cases hi : i < ds.length
      · rw [List.getElem?_append_left (by rw [List.length_map]; exact hi), List.getElem?_map] at e
        cases e1 : ds[i]? with
        | none => rw [e1] at e; cases e
        | some d =>
          rw [e1] at e
          cases e
          obtain ⟨v, g1, g2⟩ := dpa_get h e1
          refine ⟨some v, ?_, v, rfl, g2⟩
          rw [List.getElem?_append_left (by rw [List.length_map, hl]; exact hi), List.getElem?_map, g1]; rfl
      · rw [List.getElem?_append_right (by rw [List.length_map]; omega), List.length_map, List.getElem?_replicate] at e
        split at e
        · cases e
          rename_i hlt
          refine ⟨none, ?_, trivial⟩
          rw [List.getElem?_append_right (by rw [List.length_map, hl]; omega), List.length_map, hl, List.getElem?_replicate, if_pos hlt]
        · cases e
  · unfold _root_.L2.start argE
    simp only [List.length_append, List.length_map, List.length_replicate, List.length_cons, hl]
    omega
theorem Rep.nx (r : Rep B ε L F σ H) : NxM B.M B.F0 B.H0 F H := ⟨r.f0, r.h0, r.sub, r.nc⟩
theorem Rep.bag {pb pc : Addr} {c : List Int} {u m : Int} (r : Rep B ε L F σ H) (h : MO.bag pb pc c u m ∈ L) : BagAt H pb pc c u m := r.own _ h
end

section
variable {P : Program} {w : World} {K : PySem.W.Frag} {mg : Str → Option Value} {base : Heap}
/-- THE RULE for a def of data -/
theorem fn_data {x qual : Str} {st : Stmt} {f : Addr} {fd : FuncData} {N ps : List Str} {k : Nat} {R : List PyData → PyData → Prop} (Fn : Fun K x qual st f fd) (S : FnScope N ps (defScope st)) (hps : ps.length ≤ N.length) (len : ∀ ds d, R ds d → ds.length = ps.length)
    (hbody : ∀ (cdv : Value) (A : Around) (outer : List Env) (s : Shared) (H : Hp) (E : XK), Room k (A.deeper (PyProof.Rows.envOfC qual (defScope st) s.heap.objs.size f cdv)) →
      ∃ t, PSs (cxOf CX0 P w K mg base N qual (defScope st) f cdv A outer s H E).nox (defBody st) t ∧
        ∀ (B : Bg) (Q : VK) ds d, B.K = K → B.M = [] → R ds d → (∀ v F' H', NxM [] B.F0 B.H0 F' H' → Dq K F' v d → Q v H') → Ho B (t { nx := fun _ H' => Q .non H', rt := Q }) (argE ds N.length) []) :
    FnOk P w K mg base CX0 (k + 1) f fd ps (spR K R) := by
  refine Fn.ok S (fun vs H Q E h => ?_) fun cdv A outer s H vs Q E hr h => ?_
  · obtain ⟨F, ds, d, _, hd, hR, _⟩ := h
    rw [dpa_len hd]; exact len ds d hR
  · obtain ⟨t, ht, hb⟩ := hbody cdv A outer s H E hr
    obtain ⟨F, ds, d, hs, hd, hR, q⟩ := h
    refine ⟨t, ht, hb ⟨K, F, H, []⟩ Q ds d rfl rfl hR q F _ H (rep_start hs hd ?_)⟩
    rw [len ds d hR]; exact hps
/-- THE RULE for a def with the bag -/
theorem fn_bag {x qual : Str} {st : Stmt} {f : Addr} {fd : FuncData} {N ps : List Str} {k : Nat} {R : Bag → List PyData → PyData → Bag → Prop} (Fn : Fun K x qual st f fd) (S : FnScope N ps (defScope st)) (hps : ps.length ≤ N.length) (len : ∀ b ds d b', R b ds d b' → ds.length + 1 = ps.length)
    (hbody : ∀ (cdv : Value) (A : Around) (outer : List Env) (s : Shared) (H : Hp) (E : XK), Room k (A.deeper (PyProof.Rows.envOfC qual (defScope st) s.heap.objs.size f cdv)) →
      ∃ t, PSs (cxOf CX0 P w K mg base N qual (defScope st) f cdv A outer s H E).nox (defBody st) t ∧
        ∀ (B : Bg) (Q : VK) pb pc b ds d b', B.K = K → B.M = [pb, pc] → R b ds d b' → (∀ v F' H', NxM [pb, pc] B.F0 B.H0 F' H' → BagAt H' pb pc b'.cells b'.cur b'.mix → Dq K F' v d → Q v H') →
          Ho B (t { nx := fun _ H' => Q .non H', rt := Q }) (some (.v (.ref pb)) :: argE ds (N.length - 1)) [b.at pb pc]) :
    FnOk P w K mg base CX0 (k + 1) f fd ps (spB K R) := by
  refine Fn.ok S (fun vs H Q E h => ?_) fun cdv A outer s H vs Q E hr h => ?_
  · obtain ⟨F, pb, pc, b, vs', ds, d, b', rfl, _, _, _, _, _, hd, hR, _⟩ := h
    rw [List.length_cons, dpa_len hd]; exact len b ds d b' hR
  · obtain ⟨t, ht, hb⟩ := hbody cdv A outer s H E hr
    obtain ⟨F, pb, pc, b, vs', ds, d, b', rfl, hs, f1, f2, ne, bg, hd, hR, q⟩ := h
    refine ⟨t, ht, hb ⟨K, F, H, [pb, pc]⟩ Q pb pc b ds d b' rfl rfl hR q F _ H (rep_startB hs f1 f2 ne bg hd ?_)⟩
    rw [len b ds d b' hR]; exact hps
end
end Fz

/-! ## Fz4 -/
set_option Elab.async false
set_option linter.all false
set_option maxRecDepth 100000
set_option maxHeartbeats 2000000
set_option autoImplicit false
/-! Fz4: methods of lists, built-ins, the bag. -/
namespace Fz
open PySem L2

section
variable {B : Bg} {ε ε' : Eps} {L L' La Lb Lc Ld : Own} {te ta tb tl to ti : TE} {tt tu : TT} {tas tr : TA} {a b x : AD} {D : Ends} {ts tc tw : TS} {g : TG}
/-! ### built-ins by values -/
theorem ex_abs {i : Int} (h : EX B te ε L (.d (.int i)) La) : EX B (tCB (fun xs H Q => ∃ i, xs = [.int i] ∧ Q (.int (if i < 0 then -i else i)) H) (tCons te tNil)) ε L (.d (.int (if i < 0 then -i else i))) La := fun F σ H r Q q =>
  h F σ H r _ fun v F1 H1 s1 r1 o1 => ⟨i, by rw [int_inv o1], q _ F1 H1 s1 r1 (.int _)⟩
theorem ex_int1 {i : Int} (h : EX B te ε L (.d (.int i)) La) : EX B (tCB (fun xs H Q => (∃ i, xs = [.int i] ∧ Q (.int i) H) ∨ ∃ k, xs = [.bl k] ∧ Q (.int (if k then 1 else 0)) H) (tCons te tNil)) ε L (.d (.int i)) La := fun F σ H r Q q =>
  h F σ H r _ fun v F1 H1 s1 r1 o1 => .inl ⟨i, by rw [int_inv o1], q _ F1 H1 s1 r1 (.int _)⟩
theorem ex_max2 {i j : Int} (h : EX B ta ε L (.d (.int i)) La) (h2 : EX B tb ε La (.d (.int j)) Lb) : EX B (tCB (fun xs H Q => ∃ i j, xs = [.int i, .int j] ∧ Q (.int (if j > i then j else i)) H) (tCons ta (tCons tb tNil))) ε L (.d (.int (if j > i then j else i))) Lb := fun F σ H r Q q =>
  h F σ H r _ fun v F1 H1 s1 r1 o1 => h2 F1 σ H1 r1 _ fun w F2 H2 s2 r2 o2 => ⟨i, j, by rw [int_inv o1, int_inv o2], q _ F2 H2 (s1.tr s2) r2 (.int _)⟩
theorem ex_min2 {i j : Int} (h : EX B ta ε L (.d (.int i)) La) (h2 : EX B tb ε La (.d (.int j)) Lb) : EX B (tCB (fun xs H Q => ∃ i j, xs = [.int i, .int j] ∧ Q (.int (if j < i then j else i)) H) (tCons ta (tCons tb tNil))) ε L (.d (.int (if j < i then j else i))) Lb := fun F σ H r Q q =>
  h F σ H r _ fun v F1 H1 s1 r1 o1 => h2 F1 σ H1 r1 _ fun w F2 H2 s2 r2 o2 => ⟨i, j, by rw [int_inv o1, int_inv o2], q _ F2 H2 (s1.tr s2) r2 (.int _)⟩
/-- list(x) of a list, of a tuple -/
def rListOf (K : PySem.W.Frag) : List V → Hp → VK → Prop := fun xs H Q => ∃ p ys, xs = [.ref p] ∧ (SqL K H p ys ∨ SqT K H p ys) ∧ ∀ l, H l = none → Q (.ref l) (upd H l (.lst ys))
theorem en_list {ds : List PyData} (h : EX B te ε L x La) (hx : IsL La x ds) : EN B (tCB (rListOf B.K) (tCons te tNil)) ε L ds La := fun F σ H r Q q =>
  h F σ H r _ fun v F1 H1 s1 r1 o1 => by
    obtain ⟨p, vs, rfl, g1, g2⟩ := hx.get r1 o1
    exact ⟨p, vs, rfl, .inl g1, fun l hl => q l F1 _ s1 (r1.newM hl) (r1.alloc hl rfl ⟨vs, upd_same, g2⟩)⟩
theorem en_listT {ds : List PyData} (h : EX B te ε L (.d (.tuple ds)) La) : EN B (tCB (rListOf B.K) (tCons te tNil)) ε L ds La := fun F σ H r Q q =>
  h F σ H r _ fun v F1 H1 s1 r1 o1 => by
    obtain ⟨p, vs, rfl, g1, g2⟩ := tup_inv o1
    exact ⟨p, vs, rfl, .inr (tq_sub r1.sub g1), fun l hl => q l F1 _ s1 (r1.newM hl) (r1.alloc hl rfl ⟨vs, upd_same, g2⟩)⟩
/-- tuple(x) -/
theorem ex_tupL {ds : List PyData} (h : EX B te ε L x La) (hx : IsL La x ds) : EX B (tThen te (kTup B.K)) ε L (.d (.tuple ds)) La := fun F σ H r Q q =>
  h F σ H r _ fun v F1 H1 s1 r1 o1 => by
    obtain ⟨p, vs, rfl, g1, g2⟩ := hx.get r1 o1
    refine .inl ⟨p, vs, rfl, g1, fun l hl => ?_⟩
    have hF := sub_none r1.sub hl
    exact q _ _ _ (s1.tr (sub_fresh hF)) (r1.grow hl) (.tup upd_same (dpa_sub (sub_fresh hF) g2))
theorem ex_tupT {ds : List PyData} (h : EX B te ε L (.d (.tuple ds)) La) : EX B (tThen te (kTup B.K)) ε L (.d (.tuple ds)) La := fun F σ H r Q q =>
  h F σ H r _ fun v F1 H1 s1 r1 o1 => by
    obtain ⟨p, vs, rfl, g1, g2⟩ := tup_inv o1
    exact .inr ⟨p, vs, rfl, tq_sub r1.sub g1, q _ F1 H1 s1 r1 o1⟩
def rgD (a b : Int) : List PyData := (List.range (b - a).toNat).map fun i => PyData.int (a + (i : Nat))
theorem rg_dp {K : PySem.W.Frag} {F : Hp} (a b : Int) : DqAll K F (rgV a b) (rgD a b) := by
  unfold rgV rgD
  generalize List.range (b - a).toNat = l
  induction l with
  | nil => exact .nil
  | cons x l ih => exact .cons (.int _) ih
theorem en_listRg1 {n : Int} (h : EX B ta ε L (.d (.int n)) La) (hn : 0 ≤ n ∧ n ≤ 100000) : EN B (tLstRg (tRg1 ta)) ε L (rgD 0 n) La := fun F σ H r Q q =>
  h F σ H r _ fun v F1 H1 s1 r1 o1 => ⟨n, int_inv o1, RgOk.of_le (by omega) (by omega) (by omega) (by omega), fun l hl => q l F1 _ s1 (r1.newM hl) (r1.alloc hl rfl ⟨_, upd_same, rg_dp 0 n⟩)⟩
theorem en_listRg2 {m n : Int} (h : EX B ta ε L (.d (.int m)) La) (h2 : EX B tb ε La (.d (.int n)) Lb) (hn : (0 ≤ m ∧ m ≤ 100000) ∧ 0 ≤ n ∧ n ≤ 100000) : EN B (tLstRg (tRg2 ta tb)) ε L (rgD m n) Lb := fun F σ H r Q q =>
  h F σ H r _ fun v F1 H1 s1 r1 o1 => h2 F1 σ H1 r1 _ fun w F2 H2 s2 r2 o2 => ⟨m, n, int_inv o1, int_inv o2, RgOk.of_le (by omega) (by omega) (by omega) (by omega), fun l hl => q l F2 _ (s1.tr s2) (r2.newM hl) (r2.alloc hl rfl ⟨_, upd_same, rg_dp m n⟩)⟩
theorem ex_sum {ns : List Int} (h : EX B te ε L x La) (hx : IsL La x (ns.map PyData.int)) : EX B (tCB (rSum B.K) (tCons te tNil)) ε L (.d (.int ns.sum)) La := fun F σ H r Q q =>
  h F σ H r _ fun v F1 H1 s1 r1 o1 => by
    obtain ⟨p, vs, rfl, g1, g2⟩ := hx.get r1 o1
    rw [dpa_int_inv g2] at g1
    exact ⟨p, ns, rfl, g1, q _ F1 H1 s1 r1 (.int _)⟩
theorem ex_allB {bs : List Bool} (h : EX B te ε L x La) (hx : IsL La x (bs.map PyData.bool)) : EX B (tCB (rAll B.K) (tCons te tNil)) ε L (.d (.bool (bs.all id))) La := fun F σ H r Q q =>
  h F σ H r _ fun v F1 H1 s1 r1 o1 => by
    obtain ⟨p, vs, rfl, g1, g2⟩ := hx.get r1 o1
    rw [dpa_bool_inv g2] at g1
    exact ⟨p, bs, rfl, g1, q _ F1 H1 s1 r1 (.bl _)⟩
theorem ex_anyB {bs : List Bool} (h : EX B te ε L x La) (hx : IsL La x (bs.map PyData.bool)) : EX B (tCB (rAny B.K) (tCons te tNil)) ε L (.d (.bool (bs.any id))) La := fun F σ H r Q q =>
  h F σ H r _ fun v F1 H1 s1 r1 o1 => by
    obtain ⟨p, vs, rfl, g1, g2⟩ := hx.get r1 o1
    rw [dpa_bool_inv g2] at g1
    exact ⟨p, bs, rfl, g1, q _ F1 H1 s1 r1 (.bl _)⟩
/-! ### lists that change -/
theorem lst_ne {p a : Addr} {o : HO} {H : Hp} {o' : HO} (hq : a ∉ [p]) (e : H a = some o) : upd H p o' a = some o := by
  rw [upd_ne (fun z => hq (by rw [z]; exact List.mem_cons_self))]; exact e
theorem Rep.setL {F : Hp} {σ : St} {H : Hp} (r : Rep B ε L F σ H) {k : Nat} {p : Addr} {ds ds' : List PyData} {vs : List V} (hk : L[k]? = some (.lst p ds)) (h : DqAll B.K F vs ds') : Rep B ε (L.set k (.lst p ds')) F σ (upd H p (.lst vs)) :=
  r.chg (m' := .lst p ds') hk rfl ⟨vs, upd_same, h⟩ fun a o hq e => lst_ne hq e
theorem tyv {K : PySem.W.Frag} {H : Hp} {p : Addr} {vs : List V} (h : H p = some (.lst vs)) : tyV K "list" (.ref p) H := Or.inl ⟨rfl, _, Or.inl (Or.inl h)⟩
/-- xs.append(e) as a statement -/
theorem x_app {k : Nat} {p : Addr} {ds : List PyData} {d : PyData} (ho : EX B to ε L (.v (.ref p)) La) (h : EX B te ε La (.d d) Lb) (hk : Lb[k]? = some (.lst p ds)) (hka : ∃ (j : Nat) (ds' : List PyData), La[j]? = some (.lst p ds')) (hz : ds.length < 100000)
    (q : Ho B D.nx ε (Lb.set k (.lst p (ds ++ [d])))) : Ho B (tDrop (tBM B.K "list" rAppend to (tCons te tNil)) D) ε L := fun F σ H r =>
  ho F σ H r _ fun v F1 H1 s1 r1 o1 => by
    have ev : v = .ref p := o1
    subst ev
    obtain ⟨j, ds', hj⟩ := hka
    obtain ⟨us, u1, _⟩ := r1.own _ (List.mem_of_getElem? hj)
    refine ⟨tyv u1, h F1 σ H1 r1 _ fun w F2 H2 s2 r2 o2 => ?_⟩
    obtain ⟨vs, g1, g2⟩ := r2.own _ (List.mem_of_getElem? hk)
    exact ⟨p, vs, w, rfl, rfl, g1, by rw [dpa_len g2]; exact Evl.sz_lt hz, q F2 σ _ (r2.setL hk (dpa_app g2 (.cons o2 .nil)))⟩
/-- xs.insert(i, e) as a statement -/
def rInsert : V → List V → Hp → VK → Prop := fun x vs H Q => ∃ (l : Addr) (xs : List V) (i : Int) (y : V), x = .ref l ∧ vs = [.int i, y] ∧ H l = some (.lst xs) ∧ xs.length < sizeLine ∧ 0 ≤ i ∧ i < 2 ^ 63 ∧
    Q .non (upd H l (.lst (xs.take i.toNat ++ [y] ++ xs.drop i.toNat)))
theorem x_ins {k : Nat} {p : Addr} {ds : List PyData} {d : PyData} {i : Int} (ho : EX B to ε L (.v (.ref p)) La) (hi : EX B ti ε La (.d (.int i)) Lb) (h : EX B te ε Lb (.d d) Lc) (hk : Lc[k]? = some (.lst p ds)) (hka : ∃ (j : Nat) (ds' : List PyData), La[j]? = some (.lst p ds')) (hz : ds.length < 100000) (hr : 0 ≤ i ∧ i < 2 ^ 63)
    (q : Ho B D.nx ε (Lc.set k (.lst p (ds.take i.toNat ++ [d] ++ ds.drop i.toNat)))) : Ho B (tDrop (tBM B.K "list" rInsert to (tCons ti (tCons te tNil))) D) ε L := fun F σ H r =>
  ho F σ H r _ fun v F1 H1 s1 r1 o1 => by
    have ev : v = .ref p := o1
    subst ev
    obtain ⟨j, ds', hj⟩ := hka
    obtain ⟨us, u1, _⟩ := r1.own _ (List.mem_of_getElem? hj)
    refine ⟨tyv u1, hi F1 σ H1 r1 _ fun w F2 H2 s2 r2 o2 => h F2 σ H2 r2 _ fun y F3 H3 s3 r3 o3 => ?_⟩
    have ew : w = .int i := int_inv o2
    subst ew
    obtain ⟨vs, g1, g2⟩ := r3.own _ (List.mem_of_getElem? hk)
    exact ⟨p, vs, i, y, rfl, rfl, g1, by rw [dpa_len g2]; exact Evl.sz_lt hz, hr.1, hr.2, q F3 σ _ (r3.setL hk (dpa_app (dpa_app (dpa_take _ g2) (.cons o3 .nil)) (dpa_drop _ g2)))⟩
/-- xs.pop() -/
theorem ex_pop {k : Nat} {p : Addr} {ds : List PyData} {d : PyData} (ho : EX B to ε L (.v (.ref p)) La) (hk : La[k]? = some (.lst p ds)) (hd : ds[ds.length - 1]? = some d) : EX B (tBM0 B.K "list" rPop to) ε L (.d d) (La.set k (.lst p ds.dropLast)) := fun F σ H r Q q =>
  ho F σ H r _ fun v F1 H1 s1 r1 o1 => by
    have ev : v = .ref p := o1
    subst ev
    obtain ⟨vs, g1, g2⟩ := r1.own _ (List.mem_of_getElem? hk)
    obtain ⟨u, e1, e2⟩ := dpa_get g2 hd
    exact ⟨tyv g1, p, vs, u, rfl, rfl, g1, by rw [dpa_len g2]; exact e1, q u F1 _ s1 (r1.setL hk (dpa_last g2)) e2⟩
/-- xs.pop(i) -/
theorem ex_popAt {k j : Nat} {p : Addr} {ds : List PyData} {d : PyData} {i : Int} (ho : EX B to ε L (.v (.ref p)) La) (hi : EX B ti ε La (.d (.int i)) Lb) (hka : ∃ (j : Nat) (ds' : List PyData), La[j]? = some (.lst p ds')) (hk : Lb[k]? = some (.lst p ds)) (hr : -(2 ^ 63) ≤ i ∧ i < 2 ^ 63) (hj : seqIndex? i ds.length = some j) (hd : ds[j]? = some d) :
    EX B (tBM B.K "list" rPopAt to (tCons ti tNil)) ε L (.d d) (Lb.set k (.lst p (ds.eraseIdx j))) := fun F σ H r Q q =>
  ho F σ H r _ fun v F1 H1 s1 r1 o1 => by
    have ev : v = .ref p := o1
    subst ev
    obtain ⟨j', ds', hj'⟩ := hka
    obtain ⟨us, u1, _⟩ := r1.own _ (List.mem_of_getElem? hj')
    refine ⟨tyv u1, hi F1 σ H1 r1 _ fun w F2 H2 s2 r2 o2 => ?_⟩
    have ew : w = .int i := int_inv o2
    subst ew
    obtain ⟨vs, g1, g2⟩ := r2.own _ (List.mem_of_getElem? hk)
    obtain ⟨u, e1, e2⟩ := dpa_get g2 hd
    exact ⟨p, vs, i, j, u, rfl, rfl, g1, hr.1, hr.2, by rw [dpa_len g2]; exact hj, e1, q u F2 _ (s1.tr s2) (r2.setL hk (dpa_erase j g2)) e2⟩
/-- xs[i] = e -/
theorem x_setIx {k j : Nat} {p : Addr} {ds : List PyData} {d : PyData} {i : Int} (h : EX B te ε L (.d d) La) (ho : EX B to ε La (.v (.ref p)) Lb) (hi : EX B ti ε Lb (.d (.int i)) Lc) (hk : Lc[k]? = some (.lst p ds)) (hj : ixN ds.length i = some j)
    (q : Ho B D.nx ε (Lc.set k (.lst p (ds.set j d)))) : Ho B (tAsg te (gSub to ti rSetL) D) ε L := fun F σ H r =>
  h F σ H r _ fun y F1 H1 s1 r1 o1 => ho F1 σ H1 r1 _ fun v F2 H2 s2 r2 o2 => hi F2 σ H2 r2 _ fun w F3 H3 s3 r3 o3 => by
    have ev : v = .ref p := o2
    have ew : w = .int i := int_inv o3
    subst ev ew
    obtain ⟨vs, g1, g2⟩ := r3.own _ (List.mem_of_getElem? hk)
    exact ⟨p, vs, i, j, rfl, rfl, g1, by rw [dpa_len g2]; exact hj, q F3 σ _ (r3.setL hk (dpa_set (o1.sub (s2.tr s3)) j g2))⟩
/-! ### the bag -/
section
variable {k : Nat} {pb pc : Addr} {c : List Int} {u m : Int}
theorem Rep.bagL {F : Hp} {σ : St} {H : Hp} (r : Rep B ε L F σ H) (hk : L[k]? = some (.bag pb pc c u m)) : SqL B.K H pb [.ref pc, .int u, .int m] ∧ SqL B.K H pc (c.map V.int) :=
  let h := r.own _ (List.mem_of_getElem? hk)
  ⟨.inl (.inl h.1), .inl (.inl h.2)⟩
theorem Rep.bagNe {F : Hp} {σ : St} {H : Hp} (r : Rep B ε L F σ H) (hk : L[k]? = some (.bag pb pc c u m)) : pb ≠ pc := fun e => by
  have h := r.own _ (List.mem_of_getElem? hk)
  have h1 : H pb = some (.lst [.ref pc, .int u, .int m]) := h.1
  have h2 : H pc = some (.lst (c.map V.int)) := h.2
  rw [← e, h1] at h2
  cases c with
  | nil => cases h2
  | cons a t => cases h2
theorem ex_bag0 (ho : EX B to ε L (.v (.ref pb)) La) (hi : EX B ti ε La (.d (.int 0)) Lb) (hk : Lb[k]? = some (.bag pb pc c u m)) : EX B (tOp (rIxL B.K) to ti) ε L (.v (.ref pc)) Lb := ex_op ho hi fun F σ H v w rp hv hw Q q =>
  ⟨pb, _, 0, .ref pc, hv, int_inv hw, (rp.bagL hk).1, rfl, q _ F H (Sub.rfl' F) rp rfl⟩
theorem ex_bag1 (ho : EX B to ε L (.v (.ref pb)) La) (hi : EX B ti ε La (.d (.int 1)) Lb) (hk : Lb[k]? = some (.bag pb pc c u m)) : EX B (tOp (rIxL B.K) to ti) ε L (.d (.int u)) Lb := ex_op ho hi fun F σ H v w rp hv hw Q q =>
  ⟨pb, _, 1, .int u, hv, int_inv hw, (rp.bagL hk).1, rfl, q _ F H (Sub.rfl' F) rp (.int _)⟩
theorem ex_bag2 (ho : EX B to ε L (.v (.ref pb)) La) (hi : EX B ti ε La (.d (.int 2)) Lb) (hk : Lb[k]? = some (.bag pb pc c u m)) : EX B (tOp (rIxL B.K) to ti) ε L (.d (.int m)) Lb := ex_op ho hi fun F σ H v w rp hv hw Q q =>
  ⟨pb, _, 2, .int m, hv, int_inv hw, (rp.bagL hk).1, rfl, q _ F H (Sub.rfl' F) rp (.int _)⟩
theorem Rep.bagSet {F : Hp} {σ : St} {H : Hp} (r : Rep B ε L F σ H) (hk : L[k]? = some (.bag pb pc c u m)) (u' m' : Int) : Rep B ε (L.set k (.bag pb pc c u' m')) F σ (upd H pb (.lst [.ref pc, .int u', .int m'])) :=
  r.chg (m' := .bag pb pc c u' m') hk rfl ⟨upd_same, by rw [upd_ne (r.bagNe hk).symm]; exact (r.own _ (List.mem_of_getElem? hk)).2⟩ fun a o hq e => by
    rw [upd_ne (fun z => hq (by rw [z]; exact List.mem_cons_self))]; exact e
theorem x_bag1 {z : Int} (h : EX B te ε L (.d (.int z)) La) (ho : EX B to ε La (.v (.ref pb)) Lb) (hi : EX B ti ε Lb (.d (.int 1)) Lc) (hk : Lc[k]? = some (.bag pb pc c u m))
    (q : Ho B D.nx ε (Lc.set k (.bag pb pc c z m))) : Ho B (tAsg te (gSub to ti rSetL) D) ε L := fun F σ H r =>
  h F σ H r _ fun y F1 H1 s1 r1 o1 => ho F1 σ H1 r1 _ fun v F2 H2 s2 r2 o2 => hi F2 σ H2 r2 _ fun w F3 H3 s3 r3 o3 => by
    have ev : v = .ref pb := o2
    have ey : y = .int z := int_inv o1
    subst ev ey
    exact ⟨pb, [.ref pc, .int u, .int m], 1, 1, rfl, int_inv o3, (r3.own _ (List.mem_of_getElem? hk)).1, rfl, q F3 σ _ (r3.bagSet hk z m)⟩
theorem x_bag2 {z : Int} (h : EX B te ε L (.d (.int z)) La) (ho : EX B to ε La (.v (.ref pb)) Lb) (hi : EX B ti ε Lb (.d (.int 2)) Lc) (hk : Lc[k]? = some (.bag pb pc c u m))
    (q : Ho B D.nx ε (Lc.set k (.bag pb pc c u z))) : Ho B (tAsg te (gSub to ti rSetL) D) ε L := fun F σ H r =>
  h F σ H r _ fun y F1 H1 s1 r1 o1 => ho F1 σ H1 r1 _ fun v F2 H2 s2 r2 o2 => hi F2 σ H2 r2 _ fun w F3 H3 s3 r3 o3 => by
    have ev : v = .ref pb := o2
    have ey : y = .int z := int_inv o1
    subst ev ey
    exact ⟨pb, [.ref pc, .int u, .int m], 2, 2, rfl, int_inv o3, (r3.own _ (List.mem_of_getElem? hk)).1, rfl, q F3 σ _ (r3.bagSet hk u z)⟩
theorem ex_popBag {z : Int} (ho : EX B to ε L (.v (.ref pc)) La) (hk : La[k]? = some (.bag pb pc c u m)) (hd : c[c.length - 1]? = some z) : EX B (tBM0 B.K "list" rPop to) ε L (.d (.int z)) (La.set k (.bag pb pc c.dropLast u m)) := fun F σ H r Q q =>
  ho F σ H r _ fun v F1 H1 s1 r1 o1 => by
    have ev : v = .ref pc := o1
    subst ev
    have hb := r1.own _ (List.mem_of_getElem? hk)
    have hc : H1 pc = some (.lst (c.map V.int)) := hb.2
    refine ⟨tyv hc, pc, _, .int z, rfl, rfl, hc, by rw [List.length_map, List.getElem?_map, hd]; rfl, q _ F1 _ s1 ?_ (.int _)⟩
    refine r1.chg (m' := .bag pb pc c.dropLast u m) hk rfl ⟨by rw [upd_ne (r1.bagNe hk)]; exact hb.1, by rw [upd_same, List.map_dropLast]⟩ fun a o hq e => by
      rw [upd_ne (fun z => hq (by rw [z]; exact List.mem_cons_of_mem _ List.mem_cons_self))]; exact e
theorem depth_ints : ∀ l : List Int, PyData.depthAll (l.map PyData.int) = 0
  | [] => rfl
  | a :: l => by
    show max 0 (PyData.depthAll (l.map PyData.int)) = 0
    rw [depth_ints l]; rfl
theorem lay_ints : ∀ l : List Int, PyData.canLayAll0 (l.map PyData.int) = true
  | [] => rfl
  | a :: l => by
    show (true && PyData.canLayAll0 (l.map PyData.int)) = true
    rw [lay_ints l]; rfl
theorem shaped_ints (l : List Int) : SeqAt.shaped (.list (l.map PyData.int)) = true := by
  unfold SeqAt.shaped
  show (PyData.canLayAll0 (l.map PyData.int) && decide (PyData.depthAll (l.map PyData.int) + 1 ≤ 64)) = true
  rw [lay_ints, depth_ints]; rfl
/-- bag[0] != [] -/
theorem ex_bagFull (ho : EX B to ε L (.v (.ref pc)) La) (hk : La[k]? = some (.bag pb pc c u m)) : EX B (tOp (rNeD B.K) to (tLst tNil)) ε L (.d (.bool (!c.isEmpty))) La := fun F σ H r Q q =>
  ho F σ H r _ fun v F1 H1 s1 r1 o1 => ⟨Nat.zero_le _, fun p hp => by
    have ev : v = .ref pc := o1
    subst ev
    have hb := r1.own _ (List.mem_of_getElem? hk)
    have hc : H1 pc = some (.lst (c.map V.int)) := hb.2
    have ne : pc ≠ p := fun e => by rw [e, hp] at hc; cases hc
    have ee : (!PyData.eqv (.list (c.map PyData.int)) (.list [])) = !c.isEmpty := by cases c <;> rfl
    refine ⟨.list (c.map PyData.int), .list [], dq_dp (nodict_shaped (shaped_ints c)) (.lst (by rw [upd_ne ne]; exact hc) (dpa_ints c)), dq_dp rfl (.lst upd_same .nil), shaped_ints c, rfl, ?_⟩
    rw [ee]
    exact q _ F1 _ s1 (r1.heap (sub_fresh hp)) (.bl _)⟩
end
end
end Fz

/-! ## FzD -/
set_option Elab.async false
set_option linter.all false
set_option maxRecDepth 100000
set_option maxHeartbeats 2000000
set_option autoImplicit false
/-! FzD: defs ready to be called; repr of data; // of very great ints. -/
namespace Fz
open PySem L2

/-- a def of the module, ready to be called -/
structure Df (P : Program) (w : World) (K : PySem.W.Frag) (mg : Str → Option Value) (base : Heap) (k : Nat) (x : Str) (ps : List Str) (sp : Sp) : Prop where
  ex : ∃ f fd, FnOk P w K mg base CX0 k f fd ps sp ∧ mg x = some (.ref f) ∧ PySem.W.keepIn K (.ref f) = true ∧ Binds K fd ps []
/-- the same, called with keywords -/
structure DfK (P : Program) (w : World) (K : PySem.W.Frag) (mg : Str → Option Value) (base : Heap) (k : Nat) (x : Str) (ps ks : List Str) (g : List Value → List Value → List Value) (gV : List V → List V → List V) (sp : Sp) : Prop where
  ex : ∃ f fd, FnOk P w K mg base CX0 k f fd ps sp ∧ mg x = some (.ref f) ∧ PySem.W.keepIn K (.ref f) = true ∧ KBinds K fd ps ks g gV
theorem Df.mk' {P : Program} {w : World} {K : PySem.W.Frag} {mg : Str → Option Value} {base : Heap} {k : Nat} {x : Str} {ps : List Str} {sp : Sp} {f : Addr} {fd : FuncData} (F : FnOk P w K mg base CX0 k f fd ps sp) (m : mg x = some (.ref f)) (kp : PySem.W.keepIn K (.ref f) = true) (b : Binds K fd ps []) : Df P w K mg base k x ps sp := ⟨f, fd, F, m, kp, b⟩
section
variable {X : Cx} {k : Nat} {x : Str} {ps ks : List Str} {sp : Sp} {p pos : Pos} {e : Expr} {es : List Expr} {kws : List Keyword} {t tk : TA} {g : List Value → List Value → List Value} {gV : List V → List V → List V}
theorem pe_callD (C : Df X.prog X.w X.K X.mg X.base k x ps sp) (hr : Room k X.A) (hg : Gl X x) (ha : PA X (e :: es) t) (hdb : (x == ("__debug__" : Str)) = false := by decide)
    (he : starEach (e :: es) X.env = (false, eval e X.env) :: starEach es X.env := by rfl) (hpl : (backTo pos (starEach es X.env)).any (·.1) = false := by rfl) : PE X (.Call (.Name x p) (e :: es) [] pos) (tCall sp [] E0 t) := by
  obtain ⟨f, fd, F, m, kp, b⟩ := C.ex
  exact pe_call F hr hg m kp b .nil pass0 ha hdb he hpl
theorem pe_callKD (C : DfK X.prog X.w X.K X.mg X.base k x ps ks g gV sp) (hr : Room k X.A) (hg : Gl X x) (hkw : PK X kws tk) (hall : (backToKw pos (keywordEach kws X.env)).all (·.1.isSome) = true := by rfl)
    (hks : (backToKw pos (keywordEach kws X.env)).filterMap (·.1) = ks := by rfl) (hdb : (x == ("__debug__" : Str)) = false := by decide)
    (hpl : ((backTo pos (starEach [] X.env)).any (·.1) || (backToKw pos (keywordEach kws X.env)).any (·.1.isNone)) = false := by rfl) : PE X (.Call (.Name x p) [] kws pos) (tCallK sp gV E0 tNil tk) := by
  obtain ⟨f, fd, F, m, kp, b⟩ := C.ex
  refine ⟨fun pins s σ H Q I h => ?_⟩
  refine wpAny_Call_Name_kw (ld_glob I hg m ?_ hdb)
  refine PySem.W.callWith_KW0 (h₀ := X.base) I.ok.mod.kin kp hall (thn (hkw.run pos pins s σ H _ I h) fun ws s2 ⟨zs, H2, I2, rz, q2⟩ => ⟨I2.kIn, ?_⟩) hpl
  rw [hks]
  exact run_fnk F hr b pass0 I2 .nil rz q2
end
/-- keywords alone: idx tells where each parameter's value stands among them -/
def kwG {α : Type} (n : Nat) (idx : List Nat) (us ws : List α) : List α := if us.isEmpty && ws.length == n then idx.filterMap (fun i => ws[i]?) else []
theorem kwG_vals {n : Nat} {idx : List Nat} {vs : List V} {us : List Value} {zs : List V} {ws : List Value} (r : Vals vs us) (q : Vals zs ws) : Vals (kwG n idx vs zs) (kwG n idx us ws) := by
  unfold kwG
  have e1 : vs.isEmpty = us.isEmpty := by cases r <;> rfl
  rw [e1, q.length]
  split
  · clear e1
    induction idx with
    | nil => exact .nil
    | cons i idx ih =>
      rw [List.filterMap_cons, List.filterMap_cons]
      cases e : zs[i]? with
      | none => rw [q.none_of e]; exact ih
      | some z =>
        obtain ⟨u, h1, h2⟩ := q.get e
        rw [h1]
        exact .cons h2 ih
  · exact .nil
theorem kwG_shape {α : Type} {n m : Nat} {idx : List Nat} {us ws : List α} (h : (kwG n idx us ws).length = m + 1) : us = [] ∧ ws.length = n := by
  unfold kwG at h
  split at h
  · rename_i c
    rw [Bool.and_eq_true] at c
    exact ⟨List.isEmpty_iff.mp c.1, beq_iff_eq.mp c.2⟩
  · cases h
/-- two parameters, by names -/
theorem kb2 {K : PySem.W.Frag} {fd : FuncData} {ps ks : List Str} {idx : List Nat} (hp : ps.length = 2) (h : ∀ a b : Value, bindArgs fd ⟨[], ks.zip [a, b]⟩ = pure (ps.zip (kwG 2 idx [] [a, b]))) : KBinds K fd ps ks (kwG 2 idx) (kwG 2 idx) :=
  ⟨fun s us ws _ hl => by
    obtain ⟨rfl, hw⟩ := kwG_shape (m := 1) (hl.trans hp)
    match ws, hw with
    | [a, b], _ => exact .of_eq (h a b), fun r q => kwG_vals r q⟩
theorem kb3 {K : PySem.W.Frag} {fd : FuncData} {ps ks : List Str} {idx : List Nat} (hp : ps.length = 3) (h : ∀ a b c : Value, bindArgs fd ⟨[], ks.zip [a, b, c]⟩ = pure (ps.zip (kwG 3 idx [] [a, b, c]))) : KBinds K fd ps ks (kwG 3 idx) (kwG 3 idx) :=
  ⟨fun s us ws _ hl => by
    obtain ⟨rfl, hw⟩ := kwG_shape (m := 2) (hl.trans hp)
    match ws, hw with
    | [a, b, c], _ => exact .of_eq (h a b c), fun r q => kwG_vals r q⟩

/-! ### // by a positive int of any size -/
section
variable {X : Cx} {k : Nat}
theorem op_fdivP (hr : Room k X.A) (hN : X.base.NoSeer ∧ X.prog.given.tree = none) (hk : 40 ≤ k := by decide) (hst : X.stack = X.env :: X.outer := by rfl) (hgen : X.env.scope.isGenerator = false := by rfl) (hco : X.env.scope.isCoroutine = false := by rfl)
    (hb : X.env.builtins = builtinsNs := by rfl) (hg : X.env.globals = mainGlobals := by rfl) : OpR X (binaryOp .FloorDiv) (rI (fun _ j => 0 < j) fun i j => .int (i / j)) := by
  intro pins s σ H x y v u Q I rx ry h
  obtain ⟨i, j, rfl, rfl, hc, q⟩ := h
  obtain ⟨t, rfl⟩ := rx
  obtain ⟨t', rfl⟩ := ry
  have hd : X.A.depth + Builtin.pylongFrames < recursionLimit := by
    have := hr.dp
    show X.A.depth + 100 < _
    omega
  have hsr : SeerAt (model X.prog X.w) X.A s.heap := SeerAt.of (hN.1.keeps I.bk) hN.2 (by rw [I.ok.frames, hst]) hgen hco hb hg
  refine PyProof.Rows.floordiv_int (by omega) ?_ (.inr (PylongRoom.of I.nolimit hd hsr))
  rw [Int.fdiv_eq_ediv_of_nonneg i (by omega)]
  exact ⟨.int (i / j), H, I.tok _, ⟨_, rfl⟩, q⟩
end
section
variable {B : Bg} {ε : Eps} {L La Lb : Own} {ta tb : TE} {i j : Int}
theorem ex_fdivP (ha : EX B ta ε L (.d (.int i)) La) (hb : EX B tb ε La (.d (.int j)) Lb) (hc : 0 < j) : EX B (tOp (rI (fun _ j => 0 < j) fun i j => .int (i / j)) ta tb) ε L (.d (.int (i / j))) Lb := ex_op ha hb (rx_I hc fun _ _ => .int _)
end

/-! ### where nothing is under way: repr -/
structure GOk (P : Program) (w : World) (K : PySem.W.Frag) (mg : Str → Option Value) (base : Heap) (k : Nat) (f : Addr) (fd : FuncData) (ps : List Str) (sp : Sp) : Prop where
  len : ∀ vs H Q E, sp vs H Q E → vs.length = ps.length
  run : ∀ (A : Around) (outer : List Env) (s : Shared) (H : Hp) (args : Args) (us : List Value) (vs : List V) (Q : VK), Room k A → A.guards = some [] → Env0 P w K mg base A outer s H → BindsTo s fd args (ps.zip us) → Vals vs us → sp vs H Q E0 →
    codeAny (model P w) A (.call (.ref f) args) (CR CX0 outer P w H s Q E0) s
structure GDf (P : Program) (w : World) (K : PySem.W.Frag) (mg : Str → Option Value) (base : Heap) (k : Nat) (x : Str) (ps : List Str) (sp : Sp) : Prop where
  ex : ∃ f fd, GOk P w K mg base k f fd ps sp ∧ mg x = some (.ref f) ∧ PySem.W.keepIn K (.ref f) = true ∧ Binds K fd ps []
theorem GDf.mk' {P : Program} {w : World} {K : PySem.W.Frag} {mg : Str → Option Value} {base : Heap} {k : Nat} {x : Str} {ps : List Str} {sp : Sp} {f : Addr} {fd : FuncData} (F : GOk P w K mg base k f fd ps sp) (m : mg x = some (.ref f)) (kp : PySem.W.keepIn K (.ref f) = true) (b : Binds K fd ps []) : GDf P w K mg base k x ps sp := ⟨f, fd, F, m, kp, b⟩
section
variable {X : Cx} {k : Nat} {x : Str} {ps : List Str} {sp : Sp} {p pos : Pos} {e : Expr} {es : List Expr} {t : TA}
theorem pe_callG (hG : X.A.guards = some []) (C : GDf X.prog X.w X.K X.mg X.base k x ps sp) (hr : Room k X.A) (hg : Gl X x) (ha : PA X (e :: es) t) (hdb : (x == ("__debug__" : Str)) = false := by decide)
    (he : starEach (e :: es) X.env = (false, eval e X.env) :: starEach es X.env := by rfl) (hpl : (backTo pos (starEach es X.env)).any (·.1) = false := by rfl) : PE X (.Call (.Name x p) (e :: es) [] pos) (tCall sp [] E0 t) := by
  obtain ⟨f, fd, F, m, kp, b⟩ := C.ex
  refine ⟨fun pins s σ H Q I h => ?_⟩
  refine wpAny_Call_Name_kw (ld_glob I hg m ?_ hdb)
  refine PySem.W.callWith_K (h₀ := X.base) I.ok.mod.kin kp (thn (ha.run pos pins s σ H _ I h) fun us s1 ⟨vs, H1, I1, rv, q⟩ => ⟨I1.kIn, ?_⟩) he hpl
  have q : sp (vs ++ []) H1 Q E0 := q
  rw [List.append_nil] at q
  have hlen : us.length = ps.length := by rw [← rv.length]; exact F.len _ _ _ _ q
  have bt : BindsTo s1 fd ⟨us, []⟩ (ps.zip us) := by
    have z := b s1 us I1.kIn (by rw [List.append_nil]; exact hlen)
    rw [List.append_nil] at z
    exact z
  refine wpAny_call (codeAny_mono (F.run X.A X.stack s1 H1 ⟨us, []⟩ us vs Q hr hG I1.env0 bt rv q) fun res s' hres => ?_)
  match res, hres with
  | .error e, hq => exact False.elim hq
  | .ok (.ret u), hq => exact I1.after hq
  | .ok .next, hq => exact False.elim hq
  | .ok .brk, hq => exact False.elim hq
  | .ok .cont, hq => exact False.elim hq
mutual
/-- no list within -/
def noLst : PyData → Bool
  | .list _ => false
  | .tuple ds => noLsts ds
  | _ => true
def noLsts : List PyData → Bool
  | [] => true
  | d :: ds => noLst d && noLsts ds
end
section
variable {pins : List (Addr × Obj)} {σ : St} {H : Hp} {s : Shared}
theorem sim_reads {h : Heap} {v : V} {u : Value} {d : PyData} (hs : simV v = some d) (r : RelV v u) : Reads h u d [] := by
  cases v with
  | non => cases hs; cases r; exact .none
  | bl b => cases hs; cases r; exact .bool b
  | int i => cases hs; obtain ⟨t, rfl⟩ := r; exact .int i t
  | str x => cases hs; obtain ⟨t, rfl⟩ := r; exact .str x t
  | _ => cases hs
theorem key_reads {h : Heap} {k : Key} {u : Value} (hk : keyIs k u = true) : Reads h u (keyD k) [] := by
  rcases keyIs_shape hk with ⟨i, t, rfl, rfl⟩ | ⟨x, t, rfl, rfl⟩
  · exact .int i t
  · exact .str x t
theorem kvs_reads {h : Heap} {P : Program} {w : World} : ∀ {es : List DictEntry} {ws : List (Key × Value)} {kvs : List (Key × V)} {ps : List (PyData × PyData)}, Pairs (mixKind P w) es ws → KV kvs ws → KvD kvs ps →
    ReadsAll h (es.map (·.key)) (ps.map (·.1)) [] ∧ ReadsAll h (es.map (·.val)) (ps.map (·.2)) []
  | _, _, _, ps, .nil, kv, kd => by
    cases kv
    cases ps with
    | nil => exact ⟨.nil, .nil⟩
    | cons p ps => cases kd
  | _, _, _, ps, .cons hk hv t, kv, kd => by
    cases kv with
    | cons q kv =>
      cases ps with
      | nil => cases kd
      | cons p ps =>
        unfold KvD at kd
        rw [List.map_cons, List.map_cons] at kd
        injection kd with k1 k2
        injection k1 with e1 e2
        obtain ⟨i1, i2⟩ := kvs_reads t kv k2
        obtain ⟨q1, q2⟩ := q
        refine ⟨ReadsAll.cons (as := []) (bs := []) ?_ i1, ReadsAll.cons (as := []) (bs := []) ?_ i2⟩
        · show Reads h _ p.1 []
          rw [← e1, q1]; exact key_reads hk
        · show Reads h (DictEntry.val _) _ []
          rw [hv]; exact sim_reads e2 q2
theorem keys_reads {h : Heap} : ∀ {ks : List Key} {us : List Value}, Vals (ks.map kV) us → ReadsAll h us (ks.map keyD) []
  | [], _, .nil => .nil
  | k :: ks, _, .cons r t => ReadsAll.cons (as := []) (bs := []) (by
    cases k with
    | inl i => obtain ⟨t, rfl⟩ := r; exact .int i t
    | inr x => obtain ⟨t, rfl⟩ := r; exact .str x t) (keys_reads t)
theorem kvt_reads (I : Inv X pins σ H s) : ∀ {kvs : List (List Key × V)} {xs : List (List Key × Addr × Value)} {ps : List (PyData × PyData)}, Paired (fun (p : List Key × V) (q : List Key × Addr × Value) => p.1 = q.1 ∧ H q.2.1 = some (.tup (p.1.map kV)) ∧ RelV p.2 q.2.2) kvs xs → KvT kvs ps →
    ReadsAll s.heap ((xs.map (entryOfKey (tupleKind (mixKind X.prog X.w)))).map (·.key)) (ps.map (·.1)) [] ∧ ReadsAll s.heap ((xs.map (entryOfKey (tupleKind (mixKind X.prog X.w)))).map (·.val)) (ps.map (·.2)) []
  | _, _, ps, .nil, kd => by
    cases ps with
    | nil => exact ⟨.nil, .nil⟩
    | cons p ps => cases kd
  | kv :: _, q :: _, ps, .cons hq t, kd => by
    cases ps with
    | nil => cases kd
    | cons p ps =>
      unfold KvT at kd
      rw [List.map_cons, List.map_cons] at kd
      injection kd with k1 k2
      injection k1 with e1 e2
      obtain ⟨i1, i2⟩ := kvt_reads I t k2
      obtain ⟨_, q1, q2⟩ := hq
      obtain ⟨its, rv, ⟨o, ho, hc, n, hd⟩, _⟩ := I.tuple (.inl (.inl q1))
      refine ⟨ReadsAll.cons (as := []) (bs := []) ?_ i1, ReadsAll.cons (as := []) (bs := []) ?_ i2⟩
      · show Reads s.heap (.ref q.2.1) p.1 []
        rw [← e1]; exact .tuple ho hc hd (keys_reads (by simpa using rv))
      · exact sim_reads e2 q2
mutual
theorem dq_reads (I : Inv X pins σ H s) : ∀ {d : PyData} {v : V} {u : Value}, Dq X.K H v d → RelV v u → ∃ as, Reads s.heap u d as ∧ (noLst d = true → sysModules ∉ as)
  | .none, _, _, h, r => by
    cases h
    cases r
    exact ⟨_, .none, fun _ z => nomatch z⟩
  | .bool b, _, _, h, r => by
    cases h
    cases r
    exact ⟨_, .bool b, fun _ z => nomatch z⟩
  | .int i, _, _, h, r => by
    cases h
    obtain ⟨t, rfl⟩ := r
    exact ⟨_, .int i t, fun _ z => nomatch z⟩
  | .str x, _, _, h, r => by
    cases h
    obtain ⟨t, rfl⟩ := r
    exact ⟨_, .str x t, fun _ z => nomatch z⟩
  | .list ds, _, _, h, r => by
    cases h with
    | lst hs ha =>
      cases r
      obtain ⟨its, rv, ⟨o, n, ho, hc, _, hd⟩, _⟩ := I.list (.inl (.inl hs))
      obtain ⟨as, hr, _⟩ := dq_readsAll I ha rv
      exact ⟨_, .list ho hc hd hr, fun z => nomatch z⟩
  | .tuple ds, _, _, h, r => by
    cases h with
    | tup hs ha =>
      cases r
      obtain ⟨its, rv, ⟨o, ho, hc, n, hd⟩, _⟩ := I.tuple (.inl (.inl hs))
      obtain ⟨as, hr, hn⟩ := dq_readsAll I ha rv
      exact ⟨_, .tuple ho hc hd hr, hn⟩
  | .dict _, _, _, h, r => by
    cases h with
    | dic ha hk =>
      cases r
      obtain ⟨_, hne, ws, kv, o, es, ep, ho, hx, hd, _, hp, _⟩ := dk_of I.hok ha
      obtain ⟨r1, r2⟩ := kvs_reads (h := s.heap) hp kv hk
      refine ⟨_, .dict ho hx.1 hd r1 r2, fun _ z => ?_⟩
      rw [List.append_nil] at z
      exact (beq_eq_false_iff_ne.mp hne) (List.mem_singleton.mp z).symm
    | dit ha hk =>
      cases r
      obtain ⟨_, hne, xs, pr, o, es, ep, ho, hx, hd, he, _⟩ := I.hok _ _ ha
      obtain ⟨r1, r2⟩ := kvt_reads I pr hk
      refine ⟨_, .dict ho hx.1 hd (by rw [he]; exact r1) (by rw [he]; exact r2), fun _ z => ?_⟩
      rw [List.append_nil] at z
      exact (beq_eq_false_iff_ne.mp hne) (List.mem_singleton.mp z).symm
theorem dq_readsAll (I : Inv X pins σ H s) : ∀ {ds : List PyData} {vs : List V} {us : List Value}, DqAll X.K H vs ds → Vals vs us → ∃ as, ReadsAll s.heap us ds as ∧ (noLsts ds = true → sysModules ∉ as)
  | [], _, _, h, r => by
    cases h
    cases r
    exact ⟨_, .nil, fun _ z => nomatch z⟩
  | d :: ds, _, _, h, r => by
    cases h with
    | cons h1 h2 =>
      cases r with
      | cons r1 r2 =>
        obtain ⟨as, q1, n1⟩ := dq_reads I h1 r1
        obtain ⟨bs, q2, n2⟩ := dq_readsAll I h2 r2
        refine ⟨_, .cons q1 q2, fun z m => ?_⟩
        have z : (noLst d && noLsts ds) = true := z
        rw [Bool.and_eq_true] at z
        rcases List.mem_append.mp m with m | m
        · exact n1 z.1 m
        · exact n2 z.2 m
end
end
/-- what repr can show: no dict beside a list -/
def repOk (d : PyData) : Bool := !d.hasDict || noLst d
def rReprD (K : PySem.W.Frag) : List V → Hp → VK → Prop := fun xs H Q => ∃ v d, xs = [v] ∧ Dq K H v d ∧ d.showable = true ∧ repOk d = true ∧ d.depth ≤ 64 ∧ d.shown.length ≤ sizeLine ∧ Q (.str d.shown) H
theorem call_reprD (hr : Room k X.A) (hG : X.A.guards = some []) : CallR X (.builtin "repr") (rReprD X.K) := by
  intro pins s σ H xs us Q I r h
  obtain ⟨v, d, rfl, hd, h1, h2, h3, h4, q⟩ := h
  obtain ⟨u, rfl, ru⟩ := vals1 r
  have fin : ∀ h' (z : Tok) (tk : Nat), (∀ b o, s.heap.get? b = some o → h'.get? b = some o) → EP X pins σ Q (.str d.shown z) { s with heap := h', toks := tk } := fun h' z tk hk =>
    ⟨.str d.shown, H, I.kept hk, ⟨z, rfl⟩, q⟩
  have big : ∀ a, u = .ref a → wpAny (model X.prog X.w) X.A (call (.builtin "repr") [u]) (EP X pins σ Q) X.xe s := fun a e => by
    subst e
    obtain ⟨as, rd, hn⟩ := dq_reads I hd ru
    refine repr_of_reads' rd h1 (fun hdd => hn ?_) hG (by have := hr.units; have := hr.un; omega) (fun _ _ e => e) (fun h' z tk hk => fin h' z tk hk) h4
    unfold repOk at h2
    rw [hdd] at h2
    exact h2
  cases hd with
  | non => cases ru; exact PySem.P.repr_of_none (fin s.heap _ _ fun _ _ e => e)
  | bl b => cases ru; exact PySem.P.repr_of_bool (fin s.heap _ _ fun _ _ e => e)
  | int i => obtain ⟨t, rfl⟩ := ru; exact PySem.P.repr_of_int (by simpa [PyData.showable] using h1) (fin s.heap _ _ fun _ _ e => e)
  | str z => obtain ⟨t, rfl⟩ := ru; exact PySem.P.repr_of_str (fin s.heap _ _ fun _ _ e => e) h4
  | @lst a _ _ _ _ => exact big a ru
  | @tup a _ _ _ _ => exact big a ru
  | @dic a _ _ _ _ => exact big a ru
  | @dit a _ _ _ _ => exact big a ru
end
section
variable {B : Bg} {ε : Eps} {L La : Own} {te : TE}
theorem ex_reprO {d : PyData} (h : EX B te ε L (.d d) La) (h1 : d.showable = true) (h2 : repOk d = true) (h3 : d.depth ≤ 64) (h4 : d.shown.length ≤ sizeLine) : EX B (tCB (rReprD B.K) (tCons te tNil)) ε L (.d (.str d.shown)) La := fun F σ H r Q q =>
  h F σ H r _ fun v F1 H1 s1 r1 o1 => ⟨v, d, rfl, dp_sub r1.sub o1, h1, h2, h3, h4, q _ F1 H1 s1 r1 (.str _)⟩
theorem ex_repr {d : PyData} (h : EX B te ε L (.d d) La) (h1 : d.showable = true) (h2 : d.hasDict = false) (h3 : d.depth ≤ 64) (h4 : d.shown.length ≤ sizeLine) : EX B (tCB (rReprD B.K) (tCons te tNil)) ε L (.d (.str d.shown)) La :=
  ex_reprO h h1 (by unfold repOk; rw [h2]; rfl) h3 h4
end

/-! ### the rule for a def where nothing is under way -/
section
variable {P : Program} {w : World} {K : PySem.W.Frag} {mg : Str → Option Value} {base : Heap}
theorem g_ok {x qual : Str} {st : Stmt} {f : Addr} {fd : FuncData} {N ps : List Str} {k : Nat} {sp : Sp} (Fn : Fun K x qual st f fd) (S : FnScope N ps (defScope st)) (len : ∀ vs H Q E, sp vs H Q E → vs.length = ps.length)
    (hbody : ∀ (cdv : Value) (A : Around) (outer : List Env) (s : Shared) (H : Hp) (vs : List V) (Q : VK), Room k (A.deeper (PyProof.Rows.envOfC qual (defScope st) s.heap.objs.size f cdv)) → (A.deeper (PyProof.Rows.envOfC qual (defScope st) s.heap.objs.size f cdv)).guards = some [] → sp vs H Q E0 →
      ∃ t, PSs (cxOf CX0 P w K mg base N qual (defScope st) f cdv A outer s H E0).nox (defBody st) t ∧ t { nx := fun _ H' => Q .non H', rt := Q } (_root_.L2.start N vs) H) : GOk P w K mg base (k + 1) f fd ps sp := by
  obtain ⟨oc, od, kV, doc, pm, an, cdv, ct, osl, rfl, lk, hcd⟩ := Fn.ex
  refine ⟨len, fun A outer s H args us vs Q hr hG e0 hbd rv hsp => ?_⟩
  have hvl := len _ _ _ _ hsp
  have inK : K.In s.heap := e0.mod.kin.keeps fun b o z => (e0.bs b o z).1
  have nolim : s.heap.NoLimit := e0.mod.nolimit.keeps fun b o z => (e0.bs b o z).1
  have kinds : ∀ y ∈ ps.zip us, (defScope st).names.lookup y.1 = some .local ∨ ((defScope st).names.lookup y.1 = some .cell ∧ ((cellsFrom (s.heap.objs.size + 1) (defScope st).names []).lookup y.1).isSome = true) := fun ⟨n, v⟩ hy => by
    cases S.par n (List.of_mem_zip hy).1 with
    | inl z => exact .inl z
    | inr z => exact .inr ⟨z, PySem.W.cellsFrom_some _ _ _ (.inl z)⟩
  refine codeAny_call_function hr.depth (inK _ _ lk) rfl S.co S.gen rfl (PySem.W.codeRec_of inK hcd) (hbd _ _ _ _ ?_)
  refine wpAny_newFunctionEnv_cells S.kind kinds fun env he s1 ic => ?_
  subst he
  refine ⟨nolim.keeps ic.toInCall.keep, codeAny_func ?_⟩
  obtain ⟨t, ht, hq⟩ := hbody cdv A outer s H vs Q (hr.deeper _) hG hsp
  have I := inv_start (CX := CX0) (E := E0) (cd := cdv) (f := f) (qual := qual) S hr.hd e0 hvl rv ic
  refine wpAny_mono (ht.nox.run [] s1 (_root_.L2.start N vs) H _ I hq) (fun fl s' hs => ?_) fun e s' hs => hs
  match fl, hs with
  | .ret u, ⟨v, σ', H', J, rv', q⟩ => exact ⟨v, H', J.os, J.bare, J.base, J.hok, rv', q⟩
  | .next, ⟨σ', H', J, q⟩ => exact ⟨V.non, H', J.os, J.bare, J.base, J.hok, rfl, q⟩
  | .brk, ⟨_, _, _, q⟩ => exact False.elim q
  | .cont, ⟨_, _, _, q⟩ => exact False.elim q
theorem g_bag {x qual : Str} {st : Stmt} {f : Addr} {fd : FuncData} {N ps : List Str} {k : Nat} {R : Bag → List PyData → PyData → Bag → Prop} (Fn : Fun K x qual st f fd) (S : FnScope N ps (defScope st)) (hps : ps.length ≤ N.length) (len : ∀ b ds d b', R b ds d b' → ds.length + 1 = ps.length)
    (hbody : ∀ (cdv : Value) (A : Around) (outer : List Env) (s : Shared) (H : Hp), Room k (A.deeper (PyProof.Rows.envOfC qual (defScope st) s.heap.objs.size f cdv)) → (A.deeper (PyProof.Rows.envOfC qual (defScope st) s.heap.objs.size f cdv)).guards = some [] →
      ∃ t, PSs (cxOf CX0 P w K mg base N qual (defScope st) f cdv A outer s H E0).nox (defBody st) t ∧
        ∀ (B : Bg) (Q : VK) pb pc b ds d b', B.K = K → B.M = [pb, pc] → R b ds d b' → (∀ v F' H', NxM [pb, pc] B.F0 B.H0 F' H' → BagAt H' pb pc b'.cells b'.cur b'.mix → Dq K F' v d → Q v H') →
          Ho B (t { nx := fun _ H' => Q .non H', rt := Q }) (some (.v (.ref pb)) :: argE ds (N.length - 1)) [b.at pb pc]) :
    GOk P w K mg base (k + 1) f fd ps (spB K R) := by
  refine g_ok Fn S (fun vs H Q E h => ?_) fun cdv A outer s H vs Q hr hG h => ?_
  · obtain ⟨F, pb, pc, b, vs', ds, d, b', rfl, _, _, _, _, _, hd, hR, _⟩ := h
    rw [List.length_cons, dpa_len hd]; exact len b ds d b' hR
  · obtain ⟨t, ht, hb⟩ := hbody cdv A outer s H hr hG
    obtain ⟨F, pb, pc, b, vs', ds, d, b', rfl, hs, f1, f2, ne, bg, hd, hR, q⟩ := h
    refine ⟨t, ht, hb ⟨K, F, H, [pb, pc]⟩ Q pb pc b ds d b' rfl rfl hR q F _ H (rep_startB hs f1 f2 ne bg hd ?_)⟩
    rw [len b ds d b' hR]; exact hps
end
end Fz

/-! ## FzP -/
set_option Elab.async false
set_option linter.all false
set_option maxRecDepth 100000
set_option maxHeartbeats 2000000
set_option autoImplicit false
/-! FzP: comprehensions that own nothing new. -/
namespace Fz
open PySem L2
section
variable {B : Bg} {ε : Eps} {L La : Own} {te tl : TE} {tt : TT} {tas : TA} {g : TG} {vs : List Nat}
theorem range_filter_succ {α : Type} {t : Nat → Bool} {f : Nat → α} {i : Nat} : ((List.range (i + 1)).filter t).map f = ((List.range i).filter t).map f ++ (if t i = true then [f i] else []) := by
  rw [List.range_succ, List.filter_append, List.map_append, List.filter_cons]
  split <;> rfl
theorem en_lcR1P {j : Nat} {n : Int} (t : Nat → Bool) (f : Nat → PyData) (h : EA B tas ε L [.d (.int n)] La) (hn : n ≤ 90000 ∧ -(2 ^ 62) ≤ n) (hj : j ∈ vs)
    (ht : ∀ (i : Nat) m, (i : Int) < n → ETt B tt ((wipeE ε vs).set j (some (.d (.int (i : Int))))) (La ++ [m]) (t i) (La ++ [m]))
    (he : ∀ (i : Nat) m, (i : Int) < n → t i = true → EX B te ((wipeE ε vs).set j (some (.d (.int (i : Int))))) (La ++ [m]) (.d (f i)) (La ++ [m])) :
    EN B (tLc (iRng1 tas) (gName j) tt te vs) ε L (((List.range n.toNat).filter t).map f) La :=
  en_lcR1 h (by omega) (fun i acc L => acc = ((List.range i).filter t).map f ∧ L = La) ⟨rfl, rfl⟩ hj (fun i hi acc L' ⟨ha, hL⟩ => by
    subst ha hL
    refine ⟨?_, _, gt_name, t i, L', fun m => ht i m hi, fun hb => ⟨f i, L', fun m => he i m hi hb, ?_, rfl⟩, fun hb => ⟨?_, rfl⟩⟩
    · rw [List.length_map]
      exact Nat.lt_of_le_of_lt (List.length_filter_le _ _) (by rw [List.length_range]; omega)
    · rw [range_filter_succ, if_pos hb]
    · rw [range_filter_succ, if_neg (by rw [hb]; exact Bool.false_ne_true)]; exact (List.append_nil _).symm) fun acc L' h => h
theorem en_lcR2P {j : Nat} {lo n : Int} (t : Nat → Bool) (f : Nat → PyData) (h : EA B tas ε L [.d (.int lo), .d (.int n)] La) (hn : (-90000 ≤ lo ∧ lo ≤ 90000) ∧ n ≤ 90000 ∧ -90000 ≤ n) (hj : j ∈ vs)
    (ht : ∀ (i : Nat) m, lo + (i : Int) < n → ETt B tt ((wipeE ε vs).set j (some (.d (.int (lo + (i : Int)))))) (La ++ [m]) (t i) (La ++ [m]))
    (he : ∀ (i : Nat) m, lo + (i : Int) < n → t i = true → EX B te ((wipeE ε vs).set j (some (.d (.int (lo + (i : Int)))))) (La ++ [m]) (.d (f i)) (La ++ [m])) (hz : n - lo ≤ 90000) :
    EN B (tLc (iRng2 tas) (gName j) tt te vs) ε L (((List.range (n - lo).toNat).filter t).map f) La :=
  en_lcR2 h (by omega) (fun i acc L => acc = ((List.range i).filter t).map f ∧ L = La) ⟨rfl, rfl⟩ hj (fun i hi acc L' ⟨ha, hL⟩ => by
    subst ha hL
    refine ⟨?_, _, gt_name, t i, L', fun m => ht i m hi, fun hb => ⟨f i, L', fun m => he i m hi hb, ?_, rfl⟩, fun hb => ⟨?_, rfl⟩⟩
    · rw [List.length_map]
      exact Nat.lt_of_le_of_lt (List.length_filter_le _ _) (by rw [List.length_range]; omega)
    · rw [range_filter_succ, if_pos hb]
    · rw [range_filter_succ, if_neg (by rw [hb]; exact Bool.false_ne_true)]; exact (List.append_nil _).symm) fun acc L' h => h
theorem en_lcLP {xs : List PyData} (t : PyData → Bool) (f : PyData → PyData) (E2 : PyData → Eps) (h : EX B tl ε L (.d (.list xs)) La) (hz : xs.length ≤ 90000)
    (hw : ∀ (v : V) (σ : St) (H : Hp) (P : St → Hp → Prop), (g v (wipe σ vs) H P ↔ g v (wipe σ vs) H fun σ2 H2 => wipe σ2 vs = wipe σ vs ∧ P σ2 H2))
    (hg : ∀ d ∈ xs, GT B g (.d d) (wipeE ε vs) (E2 d)) (ht : ∀ d ∈ xs, ∀ m, ETt B tt (E2 d) (La ++ [m]) (t d) (La ++ [m])) (he : ∀ d ∈ xs, t d = true → ∀ m, EX B te (E2 d) (La ++ [m]) (.d (f d)) (La ++ [m])) :
    EN B (tLc (iList B.K tl) g tt te vs) ε L ((xs.filter t).map f) La :=
  en_lcL h (fun i acc L => acc = ((xs.take i).filter t).map f ∧ L = La) ⟨rfl, rfl⟩ hw (fun i d hd => cturn_pure hd hz (hg d (List.mem_of_getElem? hd)) (ht d (List.mem_of_getElem? hd)) (he d (List.mem_of_getElem? hd)))
    fun acc L' ⟨h1, h2⟩ => ⟨by rw [h1, List.take_length], h2⟩
theorem en_lcTP {xs : List PyData} (t : PyData → Bool) (f : PyData → PyData) (E2 : PyData → Eps) (h : EX B tl ε L (.d (.tuple xs)) La) (hz : xs.length ≤ 90000)
    (hw : ∀ (v : V) (σ : St) (H : Hp) (P : St → Hp → Prop), (g v (wipe σ vs) H P ↔ g v (wipe σ vs) H fun σ2 H2 => wipe σ2 vs = wipe σ vs ∧ P σ2 H2))
    (hg : ∀ d ∈ xs, GT B g (.d d) (wipeE ε vs) (E2 d)) (ht : ∀ d ∈ xs, ∀ m, ETt B tt (E2 d) (La ++ [m]) (t d) (La ++ [m])) (he : ∀ d ∈ xs, t d = true → ∀ m, EX B te (E2 d) (La ++ [m]) (.d (f d)) (La ++ [m])) :
    EN B (tLc (iTup B.K tl) g tt te vs) ε L ((xs.filter t).map f) La :=
  en_lcT h (fun i acc L => acc = ((xs.take i).filter t).map f ∧ L = La) ⟨rfl, rfl⟩ hw (fun i d hd => cturn_pure hd hz (hg d (List.mem_of_getElem? hd)) (ht d (List.mem_of_getElem? hd)) (he d (List.mem_of_getElem? hd)))
    fun acc L' ⟨h1, h2⟩ => ⟨by rw [h1, List.take_length], h2⟩
end
end Fz
namespace Fz
open PySem L2
section
variable {B : Bg} {ε : Eps} {L : Own} {X : St → Hp → Prop} {rt : V → Hp → Prop} {bk ct : St → Hp → Prop}
theorem nxt (h : Ho B X ε L) : Ho B (Ends.nx ⟨X, rt, bk, ct⟩) ε L := h
theorem nxc (h : Ho B X ε L) {nx : St → Hp → Prop} : Ho B (Ends.ct ⟨nx, rt, bk, X⟩) ε L := h
end
end Fz
namespace Fz
open PySem L2
section
variable {B : Bg} {ε : Eps} {L : Own} {ts tc : TS} {D : Ends} {rt : V → Hp → Prop} {bk ct : St → Hp → Prop}
theorem x_sq (h : Ho B (ts { D with nx := tc D }) ε L) : Ho B (Ends.nx ⟨tSeq ts tc D, rt, bk, ct⟩) ε L := h
theorem x_sn (h : Ho B D.nx ε L) : Ho B (Ends.nx ⟨tNext D, rt, bk, ct⟩) ε L := h
end
end Fz

/-! ## FzM -/
set_option Elab.async false
set_option linter.all false
set_option maxRecDepth 100000
set_option maxHeartbeats 4000000
set_option autoImplicit false
/-! FzM: list(reversed(list)), at the model's level. -/
namespace Fz
open PySem PySem.Spec PyProof.Rows L2 RT
open Sem (wp)
section
variable {prog : Program} {w : World} {A : Around} {E : Value → Shared → Prop} {s : Shared}
theorem extend_rev {R : Result → Shared → Prop} {it l S : Addr} {items : Array Value} {res : Value} {c0 : Nat} (hh : A.handled = none) (hit : s.heap.IsRevIter it l ((items.size : Int) - 1)) (hl : s.heap.IsList l items) (hne : l ≠ it) (hn : items.size ≤ sizeLine)
    (hSi : S ≠ it) (hSl : S ≠ l) (hS : s.heap.get? S = some { cls := .type "list", data := .seq #[] c0 })
    (hR : ∀ h' tk acc' c', (∀ b o, b ≠ S → b ≠ it → s.heap.get? b = some o → h'.get? b = some o) → h'.get? S = some { cls := .type "list", dict := none, data := .seq acc' c', slots := #[] } →
      ItemsOf (fun i v => items[items.size - 1 - i]? = some v) acc' items.size → R (.ok (.ret res)) { s with heap := h', toks := tk }) :
    wpAny (model prog w) A.in1 (Builtin.List.listExtendWith (.ref S) (.ref it) res)
      (fun fin s' => match fin with | .done f => R (.ok f) s' | .again c' => c'.quiet = true ∧ codeAny (model prog w) A c' R s') (fun e s' => R (.error e) s') s := by
  have W := (Walks.listRev (prog := prog) (w := w) (A := A.in1) hh it l hne items).toS
  have hSf : S ∉ [it, l] := by simp [hSi, hSl]
  have hT : s.TypeIs (.ref it) "list_reverseiterator" := hit.typeIs
  have same : Builtin.List.listSameRef (.ref S) (.ref it) = false := by simp [Builtin.List.listSameRef, hSi]
  have n1 : (Value.type "list_reverseiterator" == Value.type "list") = false := by decide
  have n2 : (Value.type "list_reverseiterator" == Value.type "tuple") = false := by decide
  have e0 : ((items.size : Nat) : Int) - 1 - ((0 : Nat) : Int) = (items.size : Int) - 1 := by omega
  have key : ∀ (h : Heap) (c₁ tk : Nat), h.IsRevIter it l ((items.size : Int) - 1) → h.IsList l items → (∀ b o, b ≠ S → s.heap.get? b = some o → h.get? b = some o) →
      h.get? S = some { cls := .type "list", data := .seq #[] c₁ } → codeAny (model prog w) A (.builtin "list.extend.loop" ⟨[.ref S, .ref it, res], []⟩) R { s with heap := h, toks := tk } := by
    intro h c₁ tk h1 h2 hk hS₁
    refine codeAny_extend_loopS W hn S hSf res items.size 0 _ #[] c₁ rfl (Nat.zero_le _) ⟨Nat.zero_le _, by rw [e0]; exact h1, h2⟩ hS₁ (ItemsOf.nil _) fun s' acc' c' hm hS' hacc => ?_
    rw [Moved.eq_with hm]
    refine hR s'.heap s'.toks acc' c' (fun b o hb hbi e => hm.heap b o (fun hmem => ?_) (hk b o hb e)) hS' hacc
    rcases List.mem_cons.mp hmem with z | z
    · exact hb z
    · exact hbi (List.mem_singleton.mp z)
  unfold Builtin.List.listExtendWith
  refine wpAny_bind (wpAny_typeOf hT ?_)
  simp only [same, n1, n2, Bool.or_false, Bool.false_eq_true, if_false]
  refine wpAny_bind (wpAny_pyIter_revIter hit ?_)
  refine wpAny_bind (wpAny_holding ?_)
  unfold Builtin.List.listLengthHint
  refine wpAny_bind (wpAny_specialOf hT nolen_lri ?_)
  show wpAny _ A.in1 (specialOf (Value.ref it) (Str.ofString "__length_hint__") >>= _) _ _ _
  refine wpAny_bind (wpAny_specialOf hT hint_lri ?_)
  generalize hid : ("list_reverseiterator.__length_hint__" : String) = id0
  wp_delta
  rw [show splitId id0 = some ("list_reverseiterator", "__length_hint__") from by subst hid; decide +kernel]
  subst hid
  refine wpAny_bind (wpAny_isInstance (b := true) hT (by rw [isSubtype_type]; kernel_rfl) ?_)
  refine wpAny_pure ?_
  first
  | (rw [if_neg (by decide)]; exact wpAny_pure ⟨plainId_quiet F.plain_extend_loop _, key s.heap c0 s.toks hit hl (fun b o _ e => e) hS⟩)
  | (refine wpAny_ite_split (fun _ => ?_) (fun _ => wpAny_pure ⟨plainId_quiet F.plain_extend_loop _, key s.heap c0 s.toks hit hl (fun b o _ e => e) hS⟩)
     exact absurd ‹_› (by decide))
theorem list_init_rev {R : Result → Shared → Prop} {it l S : Addr} {items : Array Value} (hh : A.handled = none) (hit : s.heap.IsRevIter it l ((items.size : Int) - 1)) (hl : s.heap.IsList l items) (hne : l ≠ it) (hn : items.size ≤ sizeLine)
    (hSi : S ≠ it) (hSl : S ≠ l) (hS : s.heap.get? S = some { cls := .type "list", data := .seq #[] })
    (hR : ∀ h' tk acc' c', (∀ b o, b ≠ S → b ≠ it → s.heap.get? b = some o → h'.get? b = some o) → h'.get? S = some { cls := .type "list", dict := none, data := .seq acc' c', slots := #[] } →
      ItemsOf (fun i v => items[items.size - 1 - i]? = some v) acc' items.size → R (.ok (.ret .none)) { s with heap := h', toks := tk }) :
    wpAny (model prog w) A.in1 (Builtin.«list.__init__» ⟨[.ref S, .ref it], []⟩)
      (fun fin s' => match fin with | .done f => R (.ok f) s' | .again c' => c'.quiet = true ∧ codeAny (model prog w) A c' R s') (fun e s' => R (.error e) s') s := by
  have oth : ∀ b o, b ≠ S → s.heap.get? b = some o → (s.heap.update S (Obj.mapSeq (fun _ => (#[] : Array Value)))).get? b = some o :=
    fun b o hb e => (Heap.get?_update_other _ _ (Ne.symm hb)).trans e
  show wpAny _ A.in1 (do let old ← Builtin.List.listItems (.ref S); Builtin.List.listUpdate (.ref S) (fun _ => #[]); letGo old.toList.reverse; Builtin.List.listExtendWith (.ref S) (.ref it) .none) _ _ s
  refine wpAny_bind ?_
  unfold Builtin.List.listItems
  refine wpAny_bind (wpAny_seqItems hS rfl (wpAny_pure ?_))
  show wpAny _ _ (updateSeq S (fun _ => #[]) >>= fun _ => letGo (#[] : Array Value).toList.reverse >>= fun _ => Builtin.List.listExtendWith (.ref S) (.ref it) .none) _ _ s
  refine wpAny_bind (wpAny_updateSeq hS rfl ?_)
  have hS₂ := Heap.get?_update_self (Obj.mapSeq (fun _ => (#[] : Array Value))) hS rfl
  refine wpAny_bind (wpAny_letGo ?_)
  obtain ⟨ol, hol, hlr⟩ := id hl
  refine extend_rev hh (hit.at fun o e => oth it o hSi.symm e) ⟨ol, oth l ol hSl.symm hol, hlr⟩ hne hn hSi hSl hS₂ fun h' tk acc' c' hk hS' hacc => ?_
  exact hR h' tk acc' c' (fun b o hb hbi e => hk b o hb hbi (oth b o hb e)) hS' hacc
theorem call_list_rev {Q : Value → Shared → Prop} {it l : Addr} {items : Array Value} (hh : A.handled = none) (hit : s.heap.IsRevIter it l ((items.size : Int) - 1)) (hl : s.heap.IsList l items) (hne : l ≠ it) (hn : items.size ≤ sizeLine)
    (hQ : ∀ h' tk acc' c', (∀ b o, b ≠ it → s.heap.get? b = some o → h'.get? b = some o) →
      h'.get? s.heap.objs.size = some { cls := .type "list", dict := none, data := .seq acc' c', slots := #[] } → ItemsOf (fun i v => items[items.size - 1 - i]? = some v) acc' items.size → Q (.ref s.heap.objs.size) { s with heap := h', toks := tk }) :
    wpAny (model prog w) A (call (.type "list") [.ref it]) Q E s := by
  obtain ⟨oi, hoi, _⟩ := id hit
  obtain ⟨ol, hol, _⟩ := id hl
  refine callType_codes (Q₁ := fun obj s₁ => obj = .ref s.heap.objs.size ∧ s₁ = { s with heap := s.heap.push { cls := .type "list", data := .seq #[] } }) F.called_list (F.typeCall_list_1 _) F.entry_list_init
    (code_list_new _ ⟨rfl, rfl⟩) fun obj s₁ h₁ => ?_
  obtain ⟨rfl, rfl⟩ := h₁
  have hS : (s.heap.push { cls := .type "list", data := .seq #[] }).get? s.heap.objs.size = some { cls := .type "list", data := .seq #[] } := Heap.get?_push_size _ rfl
  refine ⟨⟨_, hS, rfl⟩, F.args_list_init_2 _ _, list_init_rev (A := A.in1) hh (hit.at fun o e => Heap.get?_push_of_some _ e) (hl.push _) hne hn (Nat.ne_of_gt (Heap.lt_size hoi)) (Nat.ne_of_gt (Heap.lt_size hol)) hS fun h' tk acc' c' hk hS' hacc => ?_⟩
  exact ⟨rfl, hQ h' tk acc' c' (fun b o hb e => hk b o (Nat.ne_of_lt (Heap.lt_size e)) hb (Heap.get?_push_of_some _ e)) hS' hacc⟩
end
end Fz

/-! ## FzM2 -/
set_option Elab.async false
set_option linter.all false
set_option maxRecDepth 100000
set_option maxHeartbeats 4000000
set_option autoImplicit false
/-! FzM2: the rule of list(reversed(x)). -/
namespace Fz
open PySem PySem.Spec PyProof.Rows L2 RT
def tListRev (K : PySem.W.Frag) (te : TE) : TE := fun σ H Q => te σ H fun v H1 => ∃ (a : Addr) (xs : List V), v = .ref a ∧ SqL K H1 a xs ∧ ∀ q, H1 q = none → Q (.ref q) (upd H1 q (.lst xs.reverse))
section
variable {X : Cx}
theorem pe_listRev {e : Expr} {te : TE} {p p2 pos pos2 : Pos} (hc : X.calm = true) (hg : Gl X "list") (hm : X.mg "list" = none) (hg2 : Gl X "reversed") (hm2 : X.mg "reversed" = none) (he : PE X e te)
    (hs : starEach [e] X.env = (false, eval e X.env) :: starEach [] X.env := by rfl)
    (hs2 : starEach [.Call (.Name "reversed" p2) [e] [] pos2] X.env = (false, eval (.Call (.Name "reversed" p2) [e] [] pos2) X.env) :: starEach [] X.env := by rfl) :
    PE X (.Call (.Name "list" p) [.Call (.Name "reversed" p2) [e] [] pos2] [] pos) (tListRev X.K te) := by
  refine ⟨fun pins s σ H Q I h => ?_⟩
  refine Call_ (ld_blt I hg hm boot_list (callWith_type1 (args_cons (Call_ (ld_blt I hg2 hm2 boot_reversed (callWith_type1 (args_cons (thn (he.run pins s σ H _ I h) fun u s1 ⟨v, H1, I1, r1, q1⟩ => args_nil ?_) hs) hs rfl))) hs2) hs2 rfl))
  obtain ⟨a, xs, ev, hq, q⟩ := q1
  subst ev
  obtain rfl : u = Value.ref a := r1
  obtain ⟨its, rv, pl, hz⟩ := I1.list hq
  refine call_reversed_list pl.isList (args_nil ?_)
  have k0 : ∀ b o, s1.heap.get? b = some o → (s1.heap.push (revObj a ((its.toArray.size : Int) - 1))).get? b = some o := fun b o z => Heap.get?_push_of_some _ z
  have I2 : Inv X pins σ H1 { s1 with heap := s1.heap.push (revObj a ((its.toArray.size : Int) - 1)) } := I1.kept (t' := s1.toks) k0
  have fp := I1.fpOk (H' := H1) (b := s1.heap.objs.size) (Nat.le_refl _) (I1.hok.fresh (Nat.le_refl _))
  have hl := pl.isList
  obtain ⟨ol, hol, _⟩ := id hl
  have hne : a ≠ s1.heap.objs.size := Nat.ne_of_lt (Heap.lt_size hol)
  refine call_list_rev (s := { s1 with heap := s1.heap.push (revObj a ((its.toArray.size : Int) - 1)) }) (I1.ok.hd hc) ⟨_, Heap.get?_push_size _ rfl, rfl, rfl⟩ (hl.push _) hne (by rw [List.size_toArray, ← rv.length]; exact hz) fun h' tk acc c' hk hS hi => ?_
  refine ⟨.ref (s1.heap.push (revObj a ((its.toArray.size : Int) - 1))).objs.size, upd H1 (s1.heap.push (revObj a ((its.toArray.size : Int) - 1))).objs.size (.lst xs.reverse), ?_, rfl, q _ (I2.hok.fresh (Nat.le_refl _))⟩
  refine I2.turnedNew (t' := tk) (ch := [s1.heap.objs.size]) (fun b o hb z => hk b o (fun y => hb (by rw [y]; exact List.mem_singleton_self _)) z) (fun b hb => by rw [List.mem_singleton.mp hb]; exact fp) (Nat.le_refl _) ?_
  refine (⟨by rw [List.length_reverse]; exact hz, acc.toList, c', vals_rev rv hi, ?_⟩ : ObjOk X.prog X.w _ _ _ (.lst xs.reverse))
  rw [Array.toArray_toList]
  exact hS
end
section
variable {B : Bg} {ε : Eps} {L La : Own} {te : TE} {x : AD}
theorem en_listRev {ds : List PyData} (h : EX B te ε L x La) (hx : IsL La x ds) : EN B (tListRev B.K te) ε L ds.reverse La := fun F σ H r Q q =>
  h F σ H r _ fun v F1 H1 s1 r1 o1 => by
    obtain ⟨p, vs, rfl, g1, g2⟩ := hx.get r1 o1
    exact ⟨p, vs, rfl, g1, fun l hl => q l F1 _ s1 (r1.newM hl) (r1.alloc hl rfl ⟨_, upd_same, dpa_rev g2⟩)⟩
/-- .. of a list just made -/
theorem en_listRevN {ds : List PyData} (h : EN B te ε L ds La) : EN B (tListRev B.K te) ε L ds.reverse La := en_listRev (ex_frz h) .d
end
end Fz

/-! ## FzB -/
set_option Elab.async false
set_option linter.all false
set_option maxRecDepth 100000
set_option maxHeartbeats 2000000
set_option autoImplicit false
/-! FzB: the bag of a law: what is drawn. -/
namespace Fz
open PySem L2
/-- the cells from the last on, the digits at hand -/
def fetchR : List Int → Int → List Int × Int
  | [], cur => ([], cur)
  | c :: r, cur => if cur = 0 then fetchR r (if 1000000000 < c then c else 0) else (c :: r, cur)
theorem fetchR_ok : ∀ (r : List Int) (cur : Int), 0 ≤ cur → (∀ c ∈ r, 0 ≤ c) → 0 ≤ (fetchR r cur).2 ∧ ∀ c ∈ (fetchR r cur).1, 0 ≤ c
  | [], cur, h, h2 => ⟨h, h2⟩
  | c :: r, cur, h, h2 => by
    unfold fetchR
    split
    · refine fetchR_ok r _ ?_ fun x hx => h2 x (List.mem_cons_of_mem _ hx)
      split
      · exact h2 c List.mem_cons_self
      · exact Int.le_refl 0
    · exact ⟨h, h2⟩
def fetchC (b : Bag) : List Int := (fetchR b.cells.reverse b.cur).1
def fetchU (b : Bag) : Int := (fetchR b.cells.reverse b.cur).2
def nextM (m : Int) : Int := (m * 48271 + 11) % 2147483647
theorem nextM_ok (m : Int) : 0 ≤ nextM m ∧ nextM m < 2147483647 := ⟨Int.emod_nonneg _ (by decide), Int.emod_lt_of_pos _ (by decide)⟩
def drawV (b : Bag) (n : Int) : Int := if 0 < fetchU b then fetchU b % n else nextM b.mix * nextM b.mix % 2147483629 / 7 % n
theorem drawV_ok (b : Bag) {n : Int} (h : 0 < n) : 0 ≤ drawV b n ∧ drawV b n < n := by
  unfold drawV
  split
  · exact ⟨Int.emod_nonneg _ (by omega), Int.emod_lt_of_pos _ h⟩
  · exact ⟨Int.emod_nonneg _ (by omega), Int.emod_lt_of_pos _ h⟩
theorem fetch_ok (b : Bag) : 0 ≤ fetchU b ∧ ∀ c ∈ (fetchC b).reverse, 0 ≤ c := by
  have h := fetchR_ok b.cells.reverse b.cur b.ok.2.2.1 fun c hc => b.ok.2.2.2 c (List.mem_reverse.mp hc)
  exact ⟨h.1, fun c hc => h.2 c (List.mem_reverse.mp hc)⟩
def drawB (b : Bag) (n : Int) : Bag :=
  if h : 0 < n then (if hu : 0 < fetchU b then ⟨(fetchC b).reverse, fetchU b / n, b.mix, b.ok.1, b.ok.2.1, Int.ediv_nonneg (fetch_ok b).1 (Int.le_of_lt h), (fetch_ok b).2⟩
    else ⟨(fetchC b).reverse, fetchU b, nextM b.mix, (nextM_ok b.mix).1, (nextM_ok b.mix).2, (fetch_ok b).1, (fetch_ok b).2⟩) else b
theorem drawB_pos {b : Bag} {n : Int} (h : 0 < n) (hu : 0 < fetchU b) : (drawB b n).cells = (fetchC b).reverse ∧ (drawB b n).cur = fetchU b / n ∧ (drawB b n).mix = b.mix := by
  unfold drawB; rw [dif_pos h, dif_pos hu]; exact ⟨rfl, rfl, rfl⟩
theorem drawB_zero {b : Bag} {n : Int} (h : 0 < n) (hu : ¬ 0 < fetchU b) : (drawB b n).cells = (fetchC b).reverse ∧ (drawB b n).cur = fetchU b ∧ (drawB b n).mix = nextM b.mix := by
  unfold drawB; rw [dif_pos h, dif_neg hu]; exact ⟨rfl, rfl, rfl⟩
def R_draw : Bag → List PyData → PyData → Bag → Prop := fun b ds d b' => ∃ n : Int, 0 < n ∧ n.natAbs < 2 ^ 8000 ∧ ds = [.int n] ∧ d = .int (drawV b n) ∧ b' = drawB b n
def R_pick : Bag → List PyData → PyData → Bag → Prop := fun b ds d b' => ∃ xs : List PyData, xs ≠ [] ∧ xs.length ≤ 100000 ∧ ds = [.list xs] ∧ d = xs.getD (drawV b xs.length).toNat .none ∧ b' = drawB b xs.length
end Fz

/-! ## FzR -/
set_option Elab.async false
set_option linter.all false
set_option maxRecDepth 100000
set_option maxHeartbeats 2000000
set_option autoImplicit false
/-! FzR: lists put together, more targets, the bag made. -/
namespace Fz
open PySem L2
section
variable {B : Bg} {ε ε' : Eps} {L La Lb Lc : Own} {te ta tb tn : TE} {x y : AD} {D : Ends} {tas : TA}
inductive IsM (L : Own) : AD → List PyData → Prop
  | d {ds : List PyData} : IsM L (.d (.list ds)) ds
  | o {p : Addr} {ds : List PyData} {k : Nat} (h : L[k]? = some (.lst p ds)) : IsM L (.v (.ref p)) ds
theorem IsM.get {F : Hp} {σ : St} {H : Hp} {v : V} {ds : List PyData} {a : AD} (h : IsM L a ds) (rp : Rep B ε L F σ H) (o : a.ok B.K F v) : ∃ p vs, v = .ref p ∧ H p = some (.lst vs) ∧ DqAll B.K F vs ds := by
  cases h with
  | d =>
    have o' : Dq B.K F v (.list ds) := o
    cases o' with
    | lst h1 h2 => exact ⟨_, _, rfl, rp.sub _ _ h1, h2⟩
  | o hk =>
    obtain ⟨vs, h1, h2⟩ := rp.own _ (List.mem_of_getElem? hk)
    exact ⟨_, vs, o, h1, h2⟩
theorem en_cat {ds es : List PyData} (ha : EX B ta ε L x La) (hb : EX B tb ε La y Lb) (hx : IsM Lb x ds) (hy : IsM Lb y es) (hl : ds.length + es.length ≤ 100000) : EN B (tOp rCat ta tb) ε L (ds ++ es) Lb := en_op ha hb fun F σ H v w rp hv hw Q q => by
  obtain ⟨p, vs, rfl, g1, g2⟩ := hx.get rp hv
  obtain ⟨p', ws, rfl, g3, g4⟩ := hy.get rp hw
  exact ⟨p, p', vs, ws, rfl, rfl, g1, g3, Evl.sz_of (by rw [dpa_len g2, dpa_len g4]; exact hl), fun n hn => q n F _ (Sub.rfl' F) (rp.newM hn) (rp.alloc hn rfl ⟨_, upd_same, dpa_app g2 g4⟩)⟩
theorem gt_tup4 {i j k l : Nat} {d e f h : PyData} : GT B (gTup B.K 4 (gCons (gName i) (gCons (gName j) (gCons (gName k) (gCons (gName l) gNil))))) (.d (.tuple [d, e, f, h])) ε ((((ε.set i (some (.d d))).set j (some (.d e))).set k (some (.d f))).set l (some (.d h))) := fun L F σ H v r o P p => by
  obtain ⟨q, vs, rfl, h1, h2⟩ := tup_inv o
  cases h2 with
  | cons a t =>
    cases t with
    | cons b t =>
      cases t with
      | cons c t =>
        cases t with
        | cons c' t =>
          cases t
          exact ⟨q, _, rfl, tq_sub r.sub h1, rfl, _, _, rfl, _, _, rfl, _, _, rfl, _, _, rfl, rfl, p _ ((((r.slot (a := .d d) a).slot (a := .d e) b).slot (a := .d f) c).slot (a := .d h) c')⟩
/-- [cells, cur, mix] -/
theorem x_retBag {c : List Int} {u mx : Int} (h : EN B tn ε L (c.map PyData.int) La) (ha : ∀ m, EX B ta ε (m :: La) (.d (.int u)) (m :: La)) (hb : ∀ m, EX B tb ε (m :: La) (.d (.int mx)) (m :: La))
    (k : ∀ pb pc F σ H, Rep B ε (.bag pb pc c u mx :: La) F σ H → B.H0 pb = none → B.H0 pc = none → pb ≠ pc → D.rt (.ref pb) H) : Ho B (tRet (tLst (tCons tn (tCons ta (tCons tb tNil)))) D) ε L := fun F σ H r =>
  h F σ H r _ fun pc F1 H1 s1 hpc r1 => ha _ F1 σ H1 r1 _ fun v F2 H2 s2 r2 o2 => hb _ F2 σ H2 r2 _ fun w F3 H3 s3 r3 o3 => by
    have ev : v = .int u := int_inv o2
    have ew : w = .int mx := int_inv o3
    subst ev ew
    refine ⟨by show 3 ≤ sizeLine; decide, fun pb hp => ?_⟩
    obtain ⟨vs, g1, g2⟩ := r3.own _ List.mem_cons_self
    have e2 := dpa_int_inv g2
    subst e2
    have ne : pc ≠ pb := fun e => by rw [e, hp] at g1; cases g1
    have off := r3.off pc List.mem_cons_self
    have h0pc : B.H0 pc = none := off.2.resolve_left hpc
    have ra := r3.alloc (m := .raw pb (.lst [.ref pc, .int u, .int mx])) hp rfl ⟨upd_same, fun _ z => nomatch z⟩
    refine k pb pc F3 σ _ ⟨ra.sub, fun m hm => ?_, fun p hp' => ra.off p hp', ra.nd, ra.sl, ra.len, ra.f0, ra.h0, ra.nc, ra.mm⟩ (r3.newH hp) h0pc ne.symm
    rcases List.mem_cons.mp hm with e | e
    · rw [e]; exact ⟨upd_same, by rw [upd_ne ne]; exact g1⟩
    · exact ra.own m (List.mem_cons_of_mem _ (List.mem_cons_of_mem _ e))
/-- a def that makes the bag of the script -/
def spOwn (K : PySem.W.Frag) : Sp := fun vs H Q _ => ∃ (a : Addr) (ns : List Int), vs = [.ref a] ∧ SqL K H a (ns.map V.int) ∧ ns.length ≤ 63 ∧ ∀ pb pc (b : Bag) H', (∀ a o, H a = some o → H' a = some o) → H pb = none → H pc = none → pb ≠ pc → BagAt H' pb pc b.cells b.cur b.mix → Q (.ref pb) H'
end
end Fz
namespace Fz
open PySem L2
section
variable {B : Bg} {ε ε' : Eps} {L La Lb Lc : Own} {te ta tb tn : TE} {x y : AD} {D : Ends} {tas : TA} {a : AD}
/-- a, b = x, [..] -/
theorem x_parN {i j : Nat} {ds : List PyData} (h : EX B ta ε L a La) (h2 : EN B tb ε La ds Lb) (k : ∀ p, p ∉ B.M → Ho B D.nx ((ε.set i (some a)).set j (some (.v (.ref p)))) (.lst p ds :: Lb)) : Ho B (tPar i j (tCons ta (tCons tb tNil)) D) ε L := fun F σ H r =>
  h F σ H r _ fun v F1 H1 s1 r1 o1 => h2 F1 σ H1 r1 _ fun p F2 H2 s2 hp r2 => ⟨v, .ref p, rfl, k p hp F2 _ H2 ((r2.slot (o1.sub s2)).slot (a := .v (.ref p)) rfl)⟩
theorem seq_nat {n k : Nat} (h : k < n) : seqIndex? (k : Int) n = some k := by
  unfold seqIndex?
  simp; omega
theorem eqv_nil (ds : List PyData) : PyData.eqv (.list ds) (.list []) = ds.isEmpty := by cases ds <;> rfl
/-- x != [] -/
theorem ex_neNil {ds : List PyData} (h : EX B ta ε L x La) (hx : IsL La x ds) (hs : SeqAt.shaped (.list ds) = true) : EX B (tOp (rNeD B.K) ta (tLst tNil)) ε L (.d (.bool (!ds.isEmpty))) La := fun F σ H r Q q =>
  h F σ H r _ fun v F1 H1 s1 r1 o1 => ⟨Nat.zero_le _, fun p hp => by
    obtain ⟨pl, vs, rfl, g1, g2⟩ := hx.get r1 o1
    have s2 : Sub H1 (upd H1 p (.lst [])) := sub_fresh hp
    refine ⟨.list ds, .list [], .lst (sql_sub s2 g1) (dqa_dpa (nodict_shaped hs) (dpa_sub (r1.sub.tr s2) g2)), dq_dp rfl (.lst upd_same .nil), hs, rfl, ?_⟩
    rw [eqv_nil]
    exact q _ F1 _ s1 (r1.heap s2) (.bl _)⟩
end
end Fz
namespace Fz
open PySem L2
theorem en_is {B : Bg} {ε : Eps} {L La : Own} {te : TE} {ds es : List PyData} (h : EN B te ε L ds La) (e : ds = es) : EN B te ε L es La := e ▸ h
theorem cut_map (f : Int → PyData) (ns : List Int) (lo hi : Option Int) : ∃ ms : List Int, cutD (ns.map f) lo hi = ms.map f ∧ ms.length ≤ ns.length := by
  unfold cutD
  refine ⟨(ns.drop (HT.sIx (ns.map f).length 0 lo)).take (HT.sIx (ns.map f).length (ns.map f).length hi - HT.sIx (ns.map f).length 0 lo), ?_, ?_⟩
  · rw [List.map_take, List.map_drop]
  · rw [List.length_take, List.length_drop]
    omega
theorem rep_startS {K : PySem.W.Frag} {N : List Str} {H : Hp} {a : Addr} {ns : List Int} (hS : SqL K H a (ns.map V.int)) (hn : 1 ≤ N.length) :
    Rep ⟨K, H, H, []⟩ (some (.v (.ref a)) :: List.replicate (N.length - 1) none) [.seq a (ns.map PyData.int)] H (_root_.L2.start N [.ref a]) H := by
  refine ⟨Sub.rfl' H, fun m hm => ?_, fun p hp => (nomatch hp), List.nodup_nil, fun i x e => ?_, ?_, Sub.rfl' H, fun _ _ _ e => e, fun _ e _ => .inl e, fun p hp => (nomatch hp)⟩
  · rw [List.mem_singleton.mp hm]
    exact ⟨_, hS, dpa_ints ns⟩
  · cases i with
    | zero => cases e; exact ⟨_, rfl, _, rfl, rfl⟩
    | succ i =>
      have e : (List.replicate (N.length - 1) (none : Option AD))[i]? = some x := e
      rw [List.getElem?_replicate] at e
      split at e
      · cases e
        rename_i hlt
        refine ⟨none, ?_, trivial⟩
        show (List.replicate (N.length - 1) (none : Option V))[i]? = some none
        rw [List.getElem?_replicate, if_pos hlt]
      · cases e
  · show (some (V.ref a) :: List.replicate (N.length - 1) none).length = _
    rw [List.length_cons, List.length_replicate, List.length_cons, List.length_replicate]
end Fz

/-! ## FzS -/
set_option Elab.async false
set_option linter.all false
set_option maxRecDepth 100000
set_option maxHeartbeats 2000000
set_option autoImplicit false
/-! FzS: sum(list of tuples, ()); tuple * 1. -/
namespace Fz
open PySem L2
open Sem (wp)
/-- one deeper, with another wish -/
abbrev cx1 (X : Cx) (E : Value → Shared → Prop) : Cx := { X with A := X.A.in1, xe := E }
section
variable {X : Cx} {pins : List (Addr × Obj)} {σ : St} {H : Hp} {s : Shared} {E : Value → Shared → Prop}
theorem ok_to1 (o : X.Ok) : (cx1 X E).Ok := ⟨o.mod, o.kind, o.glob, o.blt, o.above, o.inj, o.has, o.cab, o.hd, o.frames, o.stk, o.exf, o.bs, o.bsz, o.noex, o.exfs, o.funs, o.frf⟩
theorem inv_to1 (I : Inv X pins σ H s) : Inv (cx1 X E) pins σ H s := ⟨ok_to1 I.ok, I.os, I.bare, I.base, I.loc, I.cell, I.free, I.freeC, I.pin, I.hok, I.len⟩
theorem inv_of1 (o : X.Ok) (I : Inv (cx1 X E) pins σ H s) : Inv X pins σ H s := ⟨o, I.os, I.bare, I.base, I.loc, I.cell, I.free, I.freeC, I.pin, I.hok, I.len⟩
end
theorem args_sumT (a b : Value) : argsOk "sum" ⟨[a, b], []⟩ := by unfold argsOk; kernel_rfl
theorem sub_tuple_bytearray : isSubtype (.type "tuple") (.type "bytearray") = pure false := by rw [isSubtype_type]; kernel_rfl
theorem sub_tuple_str' : isSubtype (.type "tuple") (.type "str") = pure false := by rw [isSubtype_type]; kernel_rfl
theorem sub_tuple_bytes' : isSubtype (.type "tuple") (.type "bytes") = pure false := by rw [isSubtype_type]; kernel_rfl
def stO (pa : Addr) (c : Nat) : Obj := { cls := .type "list", dict := none, data := .seq #[.ref pa] c, slots := #[] }
section
variable {X : Cx} {pins : List (Addr × Obj)} {σ : St} {R : Result → Shared → Prop} {S It l : Addr}
theorem sumT_loop (hh : X.A.handled = none) (hSI : S ≠ It) : ∀ (ps : List Addr) (zs : List (List V)) (dn : List Addr) (acc : List V) (pa : Addr) (H : Hp) (s : Shared) (c : Nat),
    Paired (fun p z => H p = some (.tup z)) ps zs → SqL X.K H l ((dn ++ ps).map V.ref) → H pa = some (.tup acc) → acc.length + zs.flatten.length ≤ sizeLine →
    Inv X pins σ H s → FpOk X pins H S → FpOk X pins H It → s.heap.IsListIter It l dn.length → s.heap.get? S = some (stO pa c) →
    (∀ p H' s', Sub H H' → Inv X pins σ H' s' → H' p = some (.tup (acc ++ zs.flatten)) → R (.ok (.ret (.ref p))) s') →
    codeAny (model X.prog X.w) X.A (.builtin "sum.loop" ⟨[.ref It, .ref S, rawInt 2, rawInt 0], []⟩) R s
  | [], zs, dn, acc, pa, H, s, c, hp, hs, ha, hz, I, fS, fI, hit, hS, hR => by
    cases hp
    obtain ⟨its, rv, hl, _⟩ := I.list hs
    refine codeAny_builtin F.entry_sum_loop ?_
    rw [Around.under_plainId F.plain_sum_loop _]
    show wpAny _ X.A.in1 (seqItems? (.ref S) >>= _) _ _ s
    refine wpAny_bind (wpAny_seqItems hS rfl ?_)
    show wpAny _ X.A.in1 (tryCatch (pyNext (.ref It)) _ >>= _) _ _ s
    refine wpAny_bind (wpAny_tryCatch (wpAny_pyNext_list_end (A := X.A.in1) hh hit hl.isList (Array.getElem?_eq_none (by
      have := rv.length
      rw [List.length_map, List.append_nil] at this
      rw [List.size_toArray]; omega)) fun h' he => ?_))
    obtain ⟨f0, f1, f2, f3, f4, f5⟩ := fI
    exact wpAny_pure (hR pa H _ (Sub.rfl' H) (I.turned (t' := s.toks) (fun b ob hb e => he b ob hb e) f0 f1 f3 f4 f5) (by rw [List.flatten_nil, List.append_nil]; exact ha))
  | p :: ps, zs, dn, acc, pa, H, s, c, hp, hs, ha, hz, I, fS, fI, hit, hS, hR => by
    cases hp with
    | @cons _ z _ zs hpz hp =>
    obtain ⟨its, rv, hl, _⟩ := I.list hs
    have ei := refs_at rv
    subst ei
    have hx : ((dn ++ p :: ps).map Value.ref).toArray[dn.length]? = some (.ref p) := by simp
    have hlI : l ≠ It := fun e => by
      rcases hs with (h | ⟨o, h⟩) | ⟨o, its, n, h, _⟩
      · rw [e, fI.1] at h; cases h
      · rw [e, fI.1] at h; cases h
      · obtain ⟨ol, hol, hcl, _⟩ := hl.isList
        obtain ⟨oi, hoi, hci, _⟩ := hit
        rw [e, hoi] at hol
        cases hol
        rw [hci] at hcl
        exact absurd (Value.type.inj hcl) (by decide)
    refine codeAny_builtin F.entry_sum_loop ?_
    rw [Around.under_plainId F.plain_sum_loop _]
    show wpAny _ X.A.in1 (seqItems? (.ref S) >>= _) _ _ s
    refine wpAny_bind (wpAny_seqItems hS rfl ?_)
    show wpAny _ X.A.in1 (tryCatch (pyNext (.ref It)) _ >>= _) _ _ s
    refine wpAny_bind (wpAny_tryCatch (wpAny_pyNext_list_item hit hl.isList hx fun h1 hit1 hs1 => ?_))
    show wpAny _ X.A.in1 ((holding [Value.ref p] (binaryOp .Add (.ref pa) (.ref p))).attempt >>= _) _ _ _
    refine wpAny_bind (wpAny_attempt (wpAny_holding ?_))
    obtain ⟨f0, f1, f2, f3, f4, f5⟩ := id fI
    have I1 : Inv X pins σ H { s with heap := h1 } := I.turned (t' := s.toks) (fun b ob hb e => (hs1.2 b hb).trans e) f0 f1 f3 f4 f5
    obtain ⟨oi, hoi, hci, hdi⟩ := id hit1
    have hS1 : h1.get? S = some (stO pa c) := (hs1.2 S hSI).trans hS
    have I2 : Inv X ((S, stO pa c) :: (It, oi) :: pins) σ H { s with heap := h1 } := I1.pins_of fun q hq => by
      rcases List.mem_cons.mp hq with e | hq
      · subst e
        exact ⟨hS1, fS.1, fS.2.1, fS.2.2.1, fun v z => by cases z⟩
      · rcases List.mem_cons.mp hq with e | hq
        · subst e
          exact ⟨hoi, fI.1, fI.2.1, fI.2.2.1, fun v z => by rw [hdi] at z; cases z⟩
        · exact I1.pin q (List.mem_append_right _ hq)
    rw [List.flatten_cons, List.length_append] at hz
    refine wpAny_mono (op_catA (X := cx1 X _) _ _ σ H (.ref pa) (.ref p) _ _ (fun v H' => ∃ q, v = .ref q ∧ Sub H H' ∧ H' q = some (.tup (acc ++ z))) (inv_to1 I2) rfl rfl
      ⟨pa, p, acc, z, rfl, rfl, .inl (.inl ha), .inl (.inl hpz), by omega, fun e => ⟨p, rfl, Sub.rfl' H, by rw [e]; exact hpz⟩, fun _ e => ⟨pa, rfl, Sub.rfl' H, by rw [e, List.append_nil]; exact ha⟩, fun _ _ n hn => ⟨n, rfl, sub_fresh hn, upd_same⟩⟩)
      (fun r s2 h2 => ?_) (fun _ _ e => e)
    obtain ⟨v, H', I3, rv3, q, ev, hsub, hq⟩ := h2
    subst ev
    obtain rfl : r = Value.ref q := rv3
    have I4 := inv_of1 I.ok I3
    have pS := I4.pin (S, stO pa c) (List.mem_append_right _ List.mem_cons_self)
    have pI := I4.pin (It, oi) (List.mem_append_right _ (List.mem_cons_of_mem _ List.mem_cons_self))
    have I5 : Inv X pins σ H' s2 := I4.pins_of fun q hq => I4.pin q (List.mem_append_right _ (List.mem_cons_of_mem _ (List.mem_cons_of_mem _ hq)))
    have gS : FpOk X pins H' S := ⟨pS.2.1, fS.2.1, fS.2.2.1, fS.2.2.2.1, fS.2.2.2.2.1, fS.2.2.2.2.2⟩
    have gI : FpOk X pins H' It := ⟨pI.2.1, fI.2.1, fI.2.2.1, fI.2.2.2.1, fI.2.2.2.2.1, fI.2.2.2.2.2⟩
    show wpAny _ X.A.in1 (updateSeq S (fun _ => #[.ref q]) >>= _) _ _ _
    refine wpAny_bind (wpAny_updateSeq pS.1 rfl ?_)
    have hS₂ := Heap.get?_update_self (Obj.mapSeq fun _ => #[Value.ref q]) pS.1 rfl
    refine wpAny_bind (wpAny_letGo ?_)
    refine wpAny_bind (wpAny_updateSeq hS₂ rfl (wpAny_pure ⟨plainId_quiet F.plain_sum_loop _, ?_⟩))
    have hS₃ := Heap.get?_update_self (Obj.mapSeq fun _ => #[Value.ref q]) hS₂ rfl
    have I6 : Inv X pins σ H' { s2 with heap := (s2.heap.update S (Obj.mapSeq fun _ => #[Value.ref q])).update S (Obj.mapSeq fun _ => #[Value.ref q]) } :=
      I5.turned (s := s2) (it := S) (t' := s2.toks) (fun b ob hb e => (Heap.get?_update_other _ _ (fun z => hb z.symm)).trans ((Heap.get?_update_other _ _ (fun z => hb z.symm)).trans e)) gS.1 gS.2.1 gS.2.2.2.1 gS.2.2.2.2.1 gS.2.2.2.2.2
    refine sumT_loop hh hSI ps zs (dn ++ [p]) (acc ++ z) q H' _ c (Paired.mapP hp fun a b h => hsub _ _ h) (by rw [List.append_assoc]; exact sql_sub hsub hs) hq (by rw [List.length_append]; omega)
      I6 gS gI ?_ hS₃ fun p' H'' s' hs' I' h' => hR p' H'' s' (hsub.tr hs') I' (by rw [List.flatten_cons, ← List.append_assoc]; exact h')
    refine ⟨oi, (Heap.get?_update_other _ _ hSI).trans ((Heap.get?_update_other _ _ hSI).trans pI.1), hci, ?_⟩
    rw [List.length_append]; exact hdi
/-- sum(xs, ()) of a list of tuples -/
def rSumT (K : PySem.W.Frag) : List V → Hp → VK → Prop := fun xs H Q => ∃ (l s0 : Addr) (ps : List Addr) (zs : List (List V)), xs = [.ref l, .ref s0] ∧ SqL K H l (ps.map V.ref) ∧ H s0 = some (.tup []) ∧ Paired (fun p z => H p = some (.tup z)) ps zs ∧ zs.flatten.length ≤ sizeLine ∧
  ∀ p H', Sub H H' → H' p = some (.tup zs.flatten) → Q (.ref p) H'
theorem cr_sumT (hc : X.calm = true) : CallR X (.builtin "sum") (rSumT X.K) := by
  intro pins s σ H vs us Q I r h
  obtain ⟨l, s0, ps, zs, rfl, hs, h0, hp, hz, q⟩ := h
  obtain ⟨its, rv, hl, _⟩ := I.list hs
  have hT : ∀ h' : Heap, (∀ b o, s.heap.get? b = some o → h'.get? b = some o) → Shared.TypeIs { s with heap := h' } (.ref s0) "tuple" := fun h' k => by
    obtain ⟨its, _, ⟨o, ho, hc, _⟩, _⟩ := I.tuple (a := s0) (xs := []) (.inl (.inl h0))
    exact ⟨o, k _ _ ho, hc⟩
  cases r with
  | cons r1 r =>
  cases r with
  | cons r2 r =>
  cases r
  cases r1
  cases r2
  refine call_function_tree F.kind_sum F.plain_sum F.entry_sum (args_sumT _ _) ?_
  unfold Builtin.«sum»
  simp only [List.length_cons, List.length_nil]
  rw [if_neg (by decide)]
  refine wpAny_bind (wpAny_of_eq (show Builtin.Builtins.bindParams "sum" ["start"] 0 ⟨[.ref s0], []⟩ = pure [some (.ref s0)] from rfl) ?_)
  refine wpAny_bind (wpAny_pyIter_list hl.isList ?_)
  refine wpAny_bind (wpAny_pure ?_)
  have k1 : ∀ b o, s.heap.get? b = some o → (s.heap.push { cls := .type "list_iterator", data := .fields #[.ref l, .int 0 0] }).get? b = some o := fun b o e => Heap.get?_push_of_some _ e
  simp only [List.forIn_cons, List.forIn_nil]
  refine wpAny_bind (wpAny_bind (wpAny_bind (wpAny_isInstance (T := "tuple") (b := false) (hT _ k1) sub_tuple_str' ?_)))
  simp only [Bool.false_eq_true, if_false]
  refine wpAny_pure (wpAny_bind (wpAny_bind (wpAny_isInstance (T := "tuple") (b := false) (hT _ k1) sub_tuple_bytes' ?_)))
  simp only [Bool.false_eq_true, if_false]
  refine wpAny_pure (wpAny_bind (wpAny_bind (wpAny_isInstance (T := "tuple") (b := false) (hT _ k1) sub_tuple_bytearray ?_)))
  simp only [Bool.false_eq_true, if_false]
  refine wpAny_pure (wpAny_pure ?_)
  refine wpAny_bind (wpAny_newObj_type ?_)
  have I1 : Inv X pins σ H { s with heap := (s.heap.push { cls := .type "list_iterator", data := .fields #[.ref l, .int 0 0] }).push (stO s0 0) } := I.kept (t' := s.toks) fun b o e => Heap.get?_push_of_some _ (k1 b o e)
  have z0 : (s.heap.push { cls := .type "list_iterator", data := .fields #[.ref l, .int 0 0] }).objs.size = s.heap.objs.size + 1 := by simp [Heap.push]
  have hne : (s.heap.push { cls := .type "list_iterator", data := .fields #[.ref l, .int 0 0] }).objs.size ≠ s.heap.objs.size := by rw [z0]; omega
  have fI : FpOk X pins H s.heap.objs.size := I.fpOk (Nat.le_refl _) (I.hok.fresh (Nat.le_refl _))
  have fS : FpOk X pins H (s.heap.push { cls := .type "list_iterator", data := .fields #[.ref l, .int 0 0] }).objs.size := I.fpOk (by omega) (I.hok.fresh (by omega))
  refine wpAny_pure ⟨plainId_quiet F.plain_sum_loop _, sumT_loop (X := X) (pins := pins) (σ := σ) (I.ok.hd hc) hne ps zs [] [] s0 H _ 0 hp hs h0 (by simpa using hz) I1 fS fI ⟨_, Heap.get?_push_of_some _ (Heap.get?_push_size _ rfl), rfl, rfl⟩ (Heap.get?_push_size _ rfl) fun p H' s' hs' I' h' => ?_⟩
  exact ⟨.ref p, H', I', rfl, q p H' hs' h'⟩
end
end Fz

/-! ## FzT -/
set_option Elab.async false
set_option linter.all false
set_option maxRecDepth 100000
set_option maxHeartbeats 2000000
set_option autoImplicit false
/-! FzT: dicts with tuples of ints as keys; tuple * 1. -/
namespace Fz
open PySem L2
open Sem (wp)
theorem tuple_mulW1 (l : Addr) (items : Array Value) (n : Nat) (dd : Option Addr) (sl : Array (Option Value)) (u : Tok) :
    Meets (Builtin.«tuple.__mul__» ⟨[.ref l, .int 1 u], []⟩) (fun _ R s => s.heap.get? l = some { cls := .type "tuple", dict := dd, data := .seq items n, slots := sl } ∧ R (.ok (.ret (Value.ref l))) s) :=
  .of_wp fun prog w A R s h => by
    obtain ⟨hp, g, d, tk, os⟩ := s
    obtain ⟨hl, h⟩ := h
    have f1 := AutoSeq1.idx_int
    have c1 : (items.isEmpty || (1 : Int) == 1) = true := by simp
    wp_walk using wpAny_loadPart' hl
    repeat (first
      | (refine wpAny_ite_true (decide_eq_true c1) ?_; wp_walk using wpAny_loadPart' hl)
      | (refine wpAny_ite_false (by decide) ?_; wp_walk using wpAny_loadPart' hl)
      | (wp_step))
    all_goals first | exact ⟨_, rfl, h⟩ | skip

def rRepT1 (K : PySem.W.Frag) : R2 := fun x y H Q => ∃ l k xs, x = .ref l ∧ y = .int k ∧ SqT K H l xs ∧ xs ≠ [] ∧ ((k = 1 ∧ Q (.ref l) H) ∨ (2 ≤ k ∧ k ≤ 1000 ∧ xs.length ≤ 1000 ∧ ∀ p, H p = none → Q (.ref p) (upd H p (.tup (List.replicate k.toNat xs).flatten))))
theorem op_repT1 {X : Cx} : OpR X (binaryOp .Mult) (rRepT1 X.K) := by
  intro pins s σ H x y v u Q I rx ry h
  obtain ⟨l, k, xs, rfl, rfl, hT, hne, ⟨rfl, q⟩ | ⟨h1, h2, hz, q⟩⟩ := h
  · cases rx
    obtain ⟨t, rfl⟩ := ry
    obtain ⟨its, r, ⟨⟨cls, dd, data, sl⟩, ho, hc, n, hd⟩, hs⟩ := I.tuple hT
    simp only at hc hd
    subst hc hd
    refine wpAny_binaryOp_repeat_ref (T := "tuple") (U := "int") (by decide) ⟨_, ho, rfl⟩ (fun s' => typeIs_int s' 1 t) noFill_tuple_mul F.fills_int_mul F.slot_int_rmul repeat_tuple F.slot_int_index.lookup
      (call_meets F.slot_int_rmul (typeIs_int s 1 t) F.entry_int_rmul (F.args_int_rmul_2 _ _) (int_rmul_tuple 1 t l its.toArray n dd sl)
        ⟨ho, rfl, ⟨_, ho, rfl⟩, call_meets F.slot_tuple_mul ⟨_, ho, rfl⟩ F.entry_tuple_mul (F.args_tuple_mul_2 _ _) (tuple_mulW1 l its.toArray n dd sl t) ⟨ho, ?_⟩⟩)
    exact ⟨.ref l, H, I, rfl, q⟩
  · exact op_repT pins s σ H _ _ v u Q I rx ry ⟨l, k, xs, rfl, rfl, hT, hne, h1, h2, hz, q⟩

/-! ### a display of one pair -/
def tDispT (tk tv : TE) : TE := fun σ H Q => ∀ p, H p = none → tPairs [(tk, tv)] σ (upd H p (.dT [])) fun ps H2 => ∃ b k y, ps = [(V.ref b, y)] ∧ H2 b = some (.tup (k.map kV)) ∧ H2 p = some (.dT []) ∧ Q (.ref p) (upd H2 p (.dT [(k, y)]))
theorem pe_dispT {X : Cx} {pos : Pos} {k v : Expr} {tk tv : TE} (hu : X.A.units + 1 < cLine) (hk : PE X k tk) (hv : PE X v tv) : PE X (.Dict [some k] [v] pos) (tDispT tk tv) := by
  refine ⟨fun pins s σ H Q I q => ?_⟩
  have hn := I.hok.fresh (Nat.le_refl s.heap.objs.size)
  have I1 := I.laid (a := s.heap.objs.size) (o := .dT []) (h' := s.heap.push { cls := .type "dict", data := .dict #[] }) (t' := s.toks) (fun _ _ q => Heap.get?_push_of_some _ q) (Nat.le_refl _) (dt_empty s.heap I.big)
  rw [arm_eval_Dict, zip_pairTrees [some k] [v] X.env pos rfl rfl, dictDisplay_pairs (pairTrees [some k] [v] X.env pos) (fun z => nomatch z) (by show (1 : Nat) < 17; decide)]
  refine wpAny_bind (wpAny_standAt (wpAny_bind (wpAny_subDictH (knd := tupleKind (mixKind X.prog X.w)) (show X.A.units < cLine by omega) (by show (1 : Nat) ≤ 15; decide) ?_)))
  refine thn ((pps_cons hk hv (pps_nil (X := X) (pos := pos))).run pins { s with heap := s.heap.push { cls := .type "dict", data := .dict #[] } } σ _ (fun ps H2 => ∃ b k y, ps = [(.ref b, y)] ∧ H2 b = some (.tup (k.map kV)) ∧ H2 s.heap.objs.size = some (.dT []) ∧ Q (.ref s.heap.objs.size) (upd H2 s.heap.objs.size (.dT [(k, y)]))) I1
    (q _ hn)) fun ws s2 ⟨ps, H2, I2, rel, b, kk, y, ep, hb, hd, q2⟩ => ?_
  subst ep
  cases rel with
  | @cons _ w2 _ ws hw rel =>
  cases rel
  obtain ⟨w1, w2⟩ := w2
  obtain ⟨hw1, hw2⟩ := hw
  obtain rfl : w1 = Value.ref b := hw1
  obtain ⟨z, hds, xs, rel, dd⟩ := dt_of I2.hok hd
  cases rel
  refine ⟨[(kk, b, w2)], ⟨rfl, rfl, key_of I2.hok hb, True.intro⟩, dd, fun h' tk dd' hs => wpAny_pure ?_⟩
  obtain ⟨q, es, ep, hq, h2, h3, h4, _, h5⟩ := dd'
  refine ⟨.ref s.heap.objs.size, _, d_write (ob := .dT [(kk, y)]) I2 (by rw [hd]; exact True.intro) hs ⟨q, hq⟩ ⟨by show (1 : Nat) ≤ sizeLine; decide, hds, [(kk, b, w2)], .cons ⟨rfl, ?_, hw2⟩ .nil, q, es, ep, hq, h2, h3, h4, h5⟩, rfl, q2⟩
  show upd H2 _ _ b = _
  rw [upd_ne (ne_of hb hd (fun z => nomatch z))]
  exact hb
end Fz

/-! ## FzU -/
set_option Elab.async false
set_option linter.all false
set_option maxRecDepth 100000
set_option maxHeartbeats 2000000
set_option autoImplicit false
/-! FzU: owned dicts (keys tuples of ints, values ints). -/
namespace Fz
open PySem L2
abbrev Tab := List (List Int × Int)
def keyK (k : List Int) : List Key := k.map Sum.inl
def tabV (t : Tab) : List (List Key × V) := t.map fun x => (keyK x.1, V.int x.2)
def tupD (k : List Int) : PyData := .tuple (k.map PyData.int)
def getT (t : Tab) (k : List Int) : Option Int := (t.find? fun x => decide (x.1 = k)).map (·.2)
def putT (t : Tab) (k : List Int) (z : Int) : Tab := if (t.any fun x => decide (x.1 = k)) = true then t.map fun x => if x.1 = k then (x.1, z) else x else t ++ [(k, z)]
theorem keyK_inj : ∀ {a b : List Int}, keyK a = keyK b → a = b
  | [], [], _ => rfl
  | [], _ :: _, h => by cases h
  | _ :: _, [], h => by cases h
  | a :: as, b :: bs, h => by
    unfold keyK at h
    rw [List.map_cons, List.map_cons] at h
    injection h with h1 h2
    rw [Sum.inl.inj h1, keyK_inj h2]
theorem keyK_dec (a b : List Int) : decide (keyK a = keyK b) = decide (a = b) := by
  by_cases h : a = b
  · subst h; simp
  · rw [decide_eq_false h, decide_eq_false fun z => h (keyK_inj z)]
theorem val_tab (k : List Int) : ∀ t : Tab, valV (tabV t) (keyK k) = (getT t k).map V.int
  | [] => rfl
  | x :: t => by
    by_cases h : x.1 = k
    · have e1 : valV (tabV (x :: t)) (keyK k) = some (.int x.2) := valV_pos (by show keyK x.1 = keyK k; rw [h])
      have e2 : getT (x :: t) k = some x.2 := by unfold getT; rw [List.find?_cons, decide_eq_true h]; rfl
      rw [e1, e2]; rfl
    · have e1 : valV (tabV (x :: t)) (keyK k) = valV (tabV t) (keyK k) := valV_neg fun z => h (keyK_inj z)
      have e2 : getT (x :: t) k = getT t k := by unfold getT; rw [List.find?_cons, decide_eq_false h]
      rw [e1, e2]; exact val_tab k t
theorem any_tab (k : List Int) : ∀ t : Tab, ((tabV t).any fun kv => decide (kv.1 = keyK k)) = t.any fun x => decide (x.1 = k)
  | [] => rfl
  | x :: t => by
    show (decide (keyK x.1 = keyK k) || (tabV t).any fun kv => decide (kv.1 = keyK k)) = (decide (x.1 = k) || t.any fun x => decide (x.1 = k))
    rw [any_tab k t, keyK_dec]
theorem put_tab (t : Tab) (k : List Int) (z : Int) : putK (tabV t) (keyK k) (.int z) = tabV (putT t k z) := by
  unfold putK putT
  rw [any_tab]
  split
  · unfold tabV
    rw [List.map_map, List.map_map]
    refine List.map_congr_left fun x _ => ?_
    show (if keyK x.1 = keyK k then (keyK x.1, V.int z) else (keyK x.1, V.int x.2)) = (keyK (if x.1 = k then (x.1, z) else x).1, V.int (if x.1 = k then (x.1, z) else x).2)
    by_cases h : x.1 = k
    · rw [if_pos (by rw [h]), if_pos h]
    · rw [if_neg fun e => h (keyK_inj e), if_neg h]
  · unfold tabV
    rw [List.map_append]; rfl
theorem keyV_of {K : PySem.W.Frag} {F : Hp} {vs : List V} {k : List Int} (h : DqAll K F vs (k.map PyData.int)) : vs = (keyK k).map kV := by
  rw [dpa_int_inv h]
  unfold keyK
  rw [List.map_map]; rfl
theorem keyV_dp {K : PySem.W.Frag} {F : Hp} (k : List Int) : DqAll K F ((keyK k).map kV) (k.map PyData.int) := by
  have e : (keyK k).map kV = k.map V.int := by unfold keyK; rw [List.map_map]; rfl
  rw [e]; exact dpa_ints k
section
variable {B : Bg} {ε ε' : Eps} {L L' La Lb Lc : Own} {te ta tb td ty tx tv : TE} {a : AD} {D : Ends} {tas : TA} {ts tc : TS} {g : TG} {p : Addr} {t : Tab} {kk : Nat}
def dT (t : Tab) : HO := .dT (tabV t)
theorem tab_key {F : Hp} {v : V} {k : List Int} (h : (AD.d (tupD k)).ok B.K F v) : ∃ b, v = .ref b ∧ F b = some (.tup ((keyK k).map kV)) := by
  obtain ⟨b, vs, e, h1, h2⟩ := tup_inv h
  rw [keyV_of h2] at h1
  exact ⟨b, e, h1⟩
theorem Rep.tab {F : Hp} {σ : St} {H : Hp} {o : HO} (r : Rep B ε L F σ H) (hk : L[kk]? = some (.raw p o)) : H p = some o := (r.own _ (List.mem_of_getElem? hk)).1
/-- a tuple that stands in the heap is known -/
theorem Rep.adopt {F : Hp} {σ : St} {H : Hp} (r : Rep B ε L F σ H) {q : Addr} {xs : List V} (h : H q = some (.tup xs)) : ∃ F', Sub F F' ∧ F' q = some (.tup xs) ∧ Rep B ε L F' σ H := by
  cases e : F q with
  | some o =>
    have := r.sub q o e
    rw [h] at this; cases this
    exact ⟨F, Sub.rfl' F, e, r⟩
  | none =>
    have sF : Sub F (upd F q (.tup xs)) := sub_fresh e
    refine ⟨upd F q (.tup xs), sF, upd_same, fun a o z => ?_, fun m hm => (r.own m hm).subF sF, fun x hx => ?_, r.nd, fun k x z => ?_, r.len, r.f0.tr sF, r.h0, fun a g1 g2 => ?_, r.mm⟩
    · by_cases c : a = q
      · subst c; rw [upd_same] at z; cases z; exact h
      · rw [upd_ne c] at z; exact r.sub a o z
    · have ne : x ≠ q := fun c => r.noT hx (c ▸ h)
      exact ⟨by rw [upd_ne ne]; exact (r.off x hx).1, (r.off x hx).2⟩
    · obtain ⟨s, q1, q2⟩ := r.sl k x z
      exact ⟨s, q1, q2.sub sF⟩
    · by_cases c : a = q
      · subst c
        by_cases hm : a ∈ B.M
        · exact absurd h fun h => r.noT (r.mm a hm) h
        · cases e0 : B.H0 a with
          | none => exact absurd e0 g2
          | some o =>
            have := r.h0 a o hm e0
            rw [h] at this; cases this
            exact .inr ⟨xs, rfl⟩
      · rw [upd_ne c]; exact r.nc a g1 g2
/-- a new object, owned -/
def EXr (B : Bg) (te : TE) (ε : Eps) (L : Own) (o : HO) (L' : Own) : Prop := ∀ F σ H, Rep B ε L F σ H → ∀ Q : VK, (∀ p F' H', Sub F F' → p ∉ B.M → Rep B ε (.raw p o :: L') F' σ H' → Q (.ref p) H') → te σ H Q
theorem noT_dT {t : List (List Key × V)} : ∀ xs, HO.dT t ≠ .tup xs := fun _ z => nomatch z
theorem exr_newT : EXr B tDNewT ε L (.dT (tabV [])) L := fun F σ H r Q q => fun p hp => q p F _ (Sub.rfl' F) (r.newM hp) (r.alloc hp rfl ⟨upd_same, noT_dT⟩)
theorem x_setR {i : Nat} {o : HO} (h : EXr B te ε L o La) (k : ∀ p, p ∉ B.M → Ho B D.nx (ε.set i (some (.v (.ref p)))) (.raw p o :: La)) : Ho B (tAsg te (gName i) D) ε L := fun F σ H r =>
  h F σ H r _ fun p F1 H1 _ hp r1 => k p hp F1 _ H1 (r1.slot (a := .v (.ref p)) rfl)
theorem x_parR {i j : Nat} {o : HO} (h : EXr B ta ε L o La) (h2 : ∀ p, EX B tb ε (.raw p o :: La) a (.raw p o :: Lb)) (k : ∀ p, p ∉ B.M → Ho B D.nx ((ε.set i (some (.v (.ref p)))).set j (some a)) (.raw p o :: Lb)) : Ho B (tPar i j (tCons ta (tCons tb tNil)) D) ε L := fun F σ H r =>
  h F σ H r _ fun p F1 H1 s1 hp r1 => h2 p F1 σ H1 r1 _ fun v F2 H2 s2 r2 o2 => ⟨.ref p, v, rfl, k p hp F2 _ H2 ((r2.slot (a := .v (.ref p)) rfl).slot o2)⟩
theorem exr_disp {k : List Int} {z : Int} (hk : ∀ p, EX B ty ε (.raw p (.dT []) :: L) (.d (tupD k)) (.raw p (.dT []) :: La)) (hv : ∀ p, EX B tv ε (.raw p (.dT []) :: La) (.d (.int z)) (.raw p (.dT []) :: Lb)) : EXr B (tDispT ty tv) ε L (.dT (tabV [(k, z)])) Lb := fun F σ H r Q q => fun p hp =>
  hk p F σ _ (r.alloc hp rfl ⟨upd_same, noT_dT⟩) _ fun v F1 H1 s1 r1 o1 => hv p F1 σ H1 r1 _ fun w F2 H2 s2 r2 o2 => by
    obtain ⟨b, rfl, hb⟩ := tab_key o1
    have ew : w = .int z := int_inv o2
    subst ew
    have hp2 := r2.tab (kk := 0) rfl
    refine ⟨b, keyK k, .int z, rfl, r2.sub _ _ (s2 _ _ hb), hp2, q p F2 _ (s1.tr s2) (r.newM hp) ?_⟩
    exact r2.chg (k := 0) (m' := .raw p (.dT (tabV [(k, z)]))) rfl rfl ⟨upd_same, noT_dT⟩ fun a o hq e => lst_ne hq e
theorem ex_dget2 {k : List Int} {z : Int} (hd : EX B td ε L (.v (.ref p)) La) (hy : EX B ty ε La (.d (tupD k)) Lb) (hx : EX B tx ε Lb (.d (.int z)) Lc) (hka : ∃ (j : Nat) (kvs : _), La[j]? = some (.raw p (.dT kvs))) (hk : Lc[kk]? = some (.raw p (.dT (tabV t)))) : EX B (tDGet2 td ty tx) ε L (.d (.int ((getT t k).getD z))) Lc := fun F σ H r Q q =>
  hd F σ H r _ fun v F1 H1 s1 r1 o1 => by
    have ev : v = .ref p := o1
    subst ev
    obtain ⟨j, kvs, hj⟩ := hka
    refine ⟨p, rfl, .inr ⟨kvs, .inl (r1.tab hj)⟩, hy F1 σ H1 r1 _ fun w F2 H2 s2 r2 o2 => hx F2 σ H2 r2 _ fun u F3 H3 s3 r3 o3 => ?_⟩
    obtain ⟨b, rfl, hb⟩ := tab_key o2
    have eu : u = .int z := int_inv o3
    subst eu
    refine ⟨valV (tabV t) (keyK k), DGet.t (r3.tab hk) (r3.sub _ _ (s3 _ _ hb)), ?_⟩
    have e : (valV (tabV t) (keyK k)).getD (.int z) = .int ((getT t k).getD z) := by
      rw [val_tab]; cases getT t k <;> rfl
    rw [e]
    exact q _ F3 H3 ((s1.tr s2).tr s3) r3 (.int _)
/-- d[k], the dict at hand or locked -/
theorem ex_dget {k : List Int} {z : Int} (hd : EX B td ε L (.v (.ref p)) La) (hy : EX B ty ε La (.d (tupD k)) Lb) (hk : Lb[kk]? = some (.raw p (.dT (tabV t))) ∨ ∃ od, Lb[kk]? = some (.raw p (.frz od (.dT (tabV t))))) (hz : getT t k = some z) : EX B (tDGet td ty) ε L (.d (.int z)) Lb := fun F σ H r Q q =>
  hd F σ H r _ fun v F1 H1 s1 r1 o1 => hy F1 σ H1 r1 _ fun w F2 H2 s2 r2 o2 => by
    have ev : v = .ref p := o1
    subst ev
    obtain ⟨b, rfl, hb⟩ := tab_key o2
    have rd : Rd H2 p (.dT (tabV t)) := by
      rcases hk with h | ⟨od, h⟩
      · exact .inl (r2.tab h)
      · exact .inr ⟨od, r2.tab h⟩
    refine ⟨p, .int z, rfl, .inr ⟨tabV t, keyK k, b, rd, rfl, r2.sub _ _ hb, ?_⟩, q _ F2 H2 (s1.tr s2) r2 (.int _)⟩
    rw [val_tab, hz]; rfl
theorem x_dput {k : List Int} {z : Int} (hv : EX B tv ε L (.d (.int z)) La) (hd : EX B td ε La (.v (.ref p)) Lb) (hy : EX B ty ε Lb (.d (tupD k)) Lc) (hk : Lc[kk]? = some (.raw p (.dT (tabV t)))) (hl : t.length < 100000)
    (q : Ho B D.nx ε (Lc.set kk (.raw p (.dT (tabV (putT t k z)))))) : Ho B (sDPut td ty tv D) ε L := fun F σ H r =>
  hv F σ H r _ fun u F1 H1 s1 r1 o1 => hd F1 σ H1 r1 _ fun v F2 H2 s2 r2 o2 => hy F2 σ H2 r2 _ fun w F3 H3 s3 r3 o3 => by
    have eu : u = .int z := int_inv o1
    have ev : v = .ref p := o2
    subst eu ev
    obtain ⟨b, rfl, hb⟩ := tab_key o3
    have hl' : (tabV t).length < sizeLine := Evl.sz_lt (by unfold tabV; rw [List.length_map]; exact hl)
    refine ⟨p, _, rfl, DPut.t (r3.tab hk) (r3.sub _ _ hb) hl', ?_⟩
    rw [put_tab]
    exact q F3 σ _ (r3.chg (m' := .raw p (.dT (tabV (putT t k z)))) hk rfl ⟨upd_same, noT_dT⟩ fun a o hq e => lst_ne hq e)
/-- for k in d, the dict locked -/
theorem x_forD (hk : L[kk]? = some (.raw p (.dT (tabV t)))) (h : ∀ od, EX B te ε (L.set kk (.raw p (.frz od (.dT (tabV t))))) (.v (.ref p)) (L.set kk (.raw p (.frz od (.dT (tabV t))))))
    (I : Obj → Nat → Eps → Own → Prop) (h0 : ∀ od, I od 0 ε (L.set kk (.raw p (.frz od (.dT (tabV t)))))) (hl : ∀ od i ε' L', I od i ε' L' → L'[kk]? = some (.raw p (.frz od (.dT (tabV t)))))
    (hs : ∀ od i k z ε' L', t[i]? = some (k, z) → I od i ε' L' → ∃ ε'', GT B g (.d (tupD k)) ε' ε'' ∧ ∀ D' : Ends, D'.nx = AbsP B (I od (i + 1)) → Ho B (tc D') ε'' L')
    (hd : ∀ od ε' L', I od t.length ε' L' → Ho B D.nx ε' (L'.set kk (.raw p (.dT (tabV t))))) : Ho B (tLock (tFor (iKeys te) g tc) D) ε L := fun F σ H r => by
  refine ⟨p, .dT (tabV t), r.tab hk, True.intro, fun od => ?_⟩
  have r0 : Rep B ε (L.set kk (.raw p (.frz od (.dT (tabV t))))) F σ (upd H p (.frz od (.dT (tabV t)))) := r.chg (m' := .raw p (.frz od (.dT (tabV t)))) hk rfl ⟨upd_same, fun _ z => nomatch z⟩ fun a o hq e => lst_ne hq e
  refine h od F σ _ r0 _ fun v F1 H1 s1 r1 o1 => ?_
  have ev : v = .ref p := o1
  subst ev
  refine ⟨p, od, rfl, .inr ⟨tabV t, r1.tab (hl _ _ _ _ (h0 od)), ?_⟩⟩
  refine ⟨fun i m σ' H' => m = t.length - i ∧ i ≤ t.length ∧ AbsP B (I od i) σ' H', ⟨_, rfl, Nat.zero_le _, ε, _, F1, h0 od, r1⟩, ?_⟩
  rintro i m σ' H' ⟨rfl, hi, ε', L', F', hI, r'⟩
  have hp' := r'.tab (hl _ _ _ _ hI)
  have tl : (tabV t).length = t.length := by unfold tabV; rw [List.length_map]
  by_cases hlt : i < t.length
  · obtain ⟨x, hx⟩ : ∃ x, t[i]? = some x := ⟨_, List.getElem?_eq_getElem hlt⟩
    obtain ⟨k, z⟩ := x
    obtain ⟨ε'', hg, hb⟩ := hs od i k z ε' L' hx hI
    refine .inr ⟨⟨hp', by rw [tl]; exact hlt⟩, AbsP B (I od (i + 1)), fun σ2 H2 hN => ⟨t.length - (i + 1), by omega, rfl, hlt, hN⟩, fun x H2 hy => ?_⟩
    obtain ⟨rfl, k', v', b, e1, rfl, hb'⟩ := hy
    have e2 : (tabV t)[i]? = some (keyK k, .int z) := by unfold tabV; rw [List.getElem?_map, hx]; rfl
    rw [e2] at e1
    cases e1
    obtain ⟨F2, s2, f2, r2⟩ := r'.adopt hb'
    exact hg L' F2 σ' _ _ r2 (.tup f2 (keyV_dp k)) _ fun σ3 r3 => hb _ rfl F2 σ3 _ r3
  · have ei : i = t.length := by omega
    subst ei
    refine .inl ⟨⟨hp', by rw [tl]; exact Nat.le_refl _⟩, hp', ?_⟩
    exact hd od _ _ hI F' σ' _ (r'.chg (m' := .raw p (.dT (tabV t))) (hl _ _ _ _ hI) rfl ⟨upd_same, noT_dT⟩ fun a o hq e => lst_ne hq e)
/-- sum(xs, ()) -/
theorem tups_of {K : PySem.W.Frag} {F : Hp} : ∀ {zs : List (List Int)} {vs : List V}, DqAll K F vs (zs.map tupD) → ∃ ps : List Addr, vs = ps.map V.ref ∧ Paired (fun p z => F p = some (.tup z)) ps (zs.map fun z => (keyK z).map kV)
  | [], _, h => by cases h; exact ⟨[], rfl, .nil⟩
  | z :: zs, _, h => by
    cases h with
    | cons a b =>
      cases a with
      | tup a1 a2 =>
        obtain ⟨ps, rfl, h2⟩ := tups_of b
        rw [keyV_of a2] at a1
        exact ⟨_ :: ps, rfl, .cons a1 h2⟩
theorem flat_keys : ∀ zs : List (List Int), (zs.map fun z => (keyK z).map kV).flatten = (keyK zs.flatten).map kV
  | [] => rfl
  | z :: zs => by
    rw [List.map_cons, List.flatten_cons, flat_keys zs, List.flatten_cons]
    unfold keyK
    rw [List.map_append, List.map_append]
theorem ex_sumT {zs : List (List Int)} {x : AD} (h : EX B te ε L x La) (h2 : EX B ta ε La (.d (.tuple [])) Lb) (hx : IsL Lb x (zs.map tupD)) (hz : zs.flatten.length ≤ 100000) : EX B (tCB (rSumT B.K) (tCons te (tCons ta tNil))) ε L (.d (tupD zs.flatten)) Lb := fun F σ H r Q q =>
  h F σ H r _ fun v F1 H1 s1 r1 o1 => h2 F1 σ H1 r1 _ fun w F2 H2 s2 r2 o2 => by
    obtain ⟨pl, vs, rfl, g1, g2⟩ := hx.get r2 (o1.sub s2)
    obtain ⟨s0, ws, rfl, g3, g4⟩ := tup_inv o2
    cases g4
    obtain ⟨ps, rfl, g5⟩ := tups_of g2
    refine ⟨pl, s0, ps, _, rfl, g1, r2.sub _ _ g3, Paired.mapP g5 fun a b e => r2.sub _ _ e, ?_, fun p H' sH hp => ?_⟩
    · rw [flat_keys]; unfold keyK; rw [List.length_map, List.length_map]; exact Evl.sz_of hz
    · rw [flat_keys] at hp
      obtain ⟨F3, s3, f3, r3⟩ := (r2.heap sH).adopt hp
      exact q _ F3 H' ((s1.tr s2).tr s3) r3 (.tup f3 (keyV_dp _))
/-- t * n of a tuple of one -/
theorem ex_rep1 {ds : List PyData} {n : Int} (ha : EX B ta ε L (.d (.tuple ds)) La) (hb : EX B tb ε La (.d (.int n)) Lb) (hne : ds ≠ []) (hl : ds.length ≤ 1000) (hn : 1 ≤ n ∧ n ≤ 1000) : EX B (tOp (rRepT1 B.K) ta tb) ε L (.d (.tuple (List.replicate n.toNat ds).flatten)) Lb := ex_op ha hb fun F σ H v w rp hv hw Q q => by
  obtain ⟨p, vs, rfl, h1, h2⟩ := tup_inv hv
  have hne' : vs ≠ [] := fun e => by
    have := dpa_len h2
    rw [e] at this
    exact hne (List.eq_nil_of_length_eq_zero this.symm)
  refine ⟨p, n, vs, rfl, int_inv hw, tq_sub rp.sub h1, hne', ?_⟩
  by_cases c : n = 1
  · subst c
    refine .inl ⟨rfl, q _ F H (Sub.rfl' F) rp (.tup h1 ?_)⟩
    have e : (List.replicate (1 : Int).toNat ds).flatten = ds := by simp
    rw [e]; exact h2
  · refine .inr ⟨by omega, hn.2, by rw [dpa_len h2]; exact hl, fun n' hn' => ?_⟩
    have hF := sub_none rp.sub hn'
    refine q _ _ _ (sub_fresh hF) (rp.grow hn') (.tup upd_same (dpa_sub (sub_fresh hF) ?_))
    have : ∀ m : Nat, DqAll B.K F (List.replicate m vs).flatten (List.replicate m ds).flatten := fun m => by
      induction m with
      | zero => exact .nil
      | succ m ih => rw [List.replicate_succ, List.replicate_succ, List.flatten_cons, List.flatten_cons]; exact dpa_app h2 ih
    exact this _
/-! #### a def that makes a dict of a dict -/
def spTab (K : PySem.W.Frag) (R : Tab → Int → Int → Tab → Prop) : Sp := fun vs H Q _ => ∃ (p : Addr) (t : Tab) (n m : Int) (u : Tab), vs = [.ref p, .int n, .int m] ∧ H p = some (.dT (tabV t)) ∧ R t n m u ∧
  ∀ pf H', Sub H H' → H pf = none → H' pf = some (.dT (tabV u)) → Q (.ref pf) H'
theorem Rep.madeR {F : Hp} {σ : St} {H H' : Hp} {pf : Addr} {o : HO} (r : Rep B ε L F σ H) (s : Sub H H') (h1 : H pf = none) (h2 : H' pf = some o) (h3 : ∀ xs, o ≠ .tup xs) : Rep B ε (.raw pf o :: L) F σ H' := by
  have ra := r.alloc (m := .raw pf o) h1 rfl ⟨upd_same, h3⟩
  refine ra.heap fun a u e => ?_
  by_cases c : a = pf
  · subst c; rw [upd_same] at e; cases e; exact h2
  · rw [upd_ne c] at e; exact s a u e
theorem exr_call {R : Tab → Int → Int → Tab → Prop} {E : XK} {n m : Int} {u : Tab} (h : EA B tas ε L [.v (.ref p), .d (.int n), .d (.int m)] La) (hk : La[kk]? = some (.raw p (.dT (tabV t)))) (hR : R t n m u) : EXr B (tCall (spTab B.K R) [] E tas) ε L (.dT (tabV u)) La := fun F σ H r Q q =>
  h F σ H r _ fun vs F1 H1 s1 r1 o1 => by
    match vs, o1 with
    | [v, w, x], o =>
      have e1 : v = .ref p := o.1
      have e2 : w = .int n := int_inv o.2.1
      have e3 : x = .int m := int_inv o.2.2.1
      subst e1 e2 e3
      exact ⟨p, t, n, m, u, rfl, r1.tab hk, hR, fun pf H' s h1 h2 => q pf F1 H' s1 (r1.newM h1) (r1.madeR s h1 h2 noT_dT)⟩
/-- the dict made for the call is forgotten -/
theorem exr_callD {R : Tab → Int → Int → Tab → Prop} {E : XK} {n m : Int} {u : Tab} {tr : TA} (hd : EXr B td ε L (.dT (tabV t)) La) (h : ∀ p, EA B tr ε (.raw p (.dT (tabV t)) :: La) [.d (.int n), .d (.int m)] (.raw p (.dT (tabV t)) :: Lb)) (hR : R t n m u) :
    EXr B (tCall (spTab B.K R) [] E (tCons td tr)) ε L (.dT (tabV u)) Lb := fun F σ H r Q q =>
  hd F σ H r _ fun p F1 H1 s1 hp r1 => h p F1 σ H1 r1 _ fun vs F2 H2 s2 r2 o2 => by
    match vs, o2 with
    | [w, x], o =>
      have e2 : w = .int n := int_inv o.1
      have e3 : x = .int m := int_inv o.2.1
      subst e2 e3
      refine ⟨p, t, n, m, u, rfl, r2.tab (kk := 0) rfl, hR, fun pf H' s h1 h2 => q pf F2 H' (s1.tr s2) (r2.newM h1) ?_⟩
      have r3 := r2.madeR s h1 h2 noT_dT
      exact r3.drop (k := 1) rfl fun x hx => by rw [List.mem_singleton.mp hx]; exact hp
theorem Rep.freeze {F : Hp} {σ : St} {H : Hp} (r : Rep B ε L F σ H) {k : Nat} {q : Addr} {ds : List PyData} (hk : L[k]? = some (.lst q ds)) (hq : q ∉ B.M) : ∃ F', Sub F F' ∧ Dq B.K F' (.ref q) (.list ds) ∧ Rep B ε (L.eraseIdx k) F' σ H := by
  obtain ⟨vs, h1, h2⟩ := r.own _ (List.mem_of_getElem? hk)
  have of := r.off q (mem_fps (List.mem_of_getElem? hk) List.mem_cons_self)
  have h0 : B.H0 q = none := of.2.resolve_left hq
  have sF : Sub F (upd F q (.lst vs)) := sub_fresh of.1
  have r2 := r.drop hk fun x hx => by rw [List.mem_singleton.mp hx]; exact hq
  have nin : ∀ x ∈ fps (L.eraseIdx k), x ≠ q := fun x hx c => by
    obtain ⟨m, hm, hx⟩ := List.mem_flatMap.mp hx
    rw [List.mem_eraseIdx_iff_getElem?] at hm
    obtain ⟨j, hj, hm⟩ := hm
    subst c
    exact fps_apart r.nd hk hm (Ne.symm hj) x List.mem_cons_self hx
  refine ⟨upd F q (.lst vs), sF, .lst upd_same (dpa_sub sF h2), fun a o z => ?_, fun m hm => (r2.own m hm).subF sF, fun x hx => ?_, r2.nd, fun j x z => ?_, r2.len, r2.f0.tr sF, r2.h0, fun a g1 g2 => ?_, r2.mm⟩
  · by_cases c : a = q
    · subst c; rw [upd_same] at z; cases z; exact h1
    · rw [upd_ne c] at z; exact r.sub a o z
  · exact ⟨by rw [upd_ne (nin x hx)]; exact (r2.off x hx).1, (r2.off x hx).2⟩
  · obtain ⟨s, q1, q2⟩ := r2.sl j x z
    exact ⟨s, q1, q2.sub sF⟩
  · have ne : a ≠ q := fun c => g2 (c ▸ h0)
    rw [upd_ne ne]; exact r2.nc a g1 g2
/-- an owned list will not change any more -/
theorem ex_frzV {i k : Nat} {q : Addr} {ds : List PyData} (h : ε[i]? = some (some (.v (.ref q)))) (hk : L[k]? = some (.lst q ds)) (hq : q ∉ B.M) : EX B (tVar i) ε L (.d (.list ds)) (L.eraseIdx k) := fun F σ H r Q p => by
  obtain ⟨s, h1, y, rfl, h2⟩ := r.sl i _ h
  obtain ⟨F', s', d', r'⟩ := r.freeze hk hq
  have ey : y = .ref q := h2
  subst ey
  exact ⟨_, h1, p _ F' H s' r' d'⟩
end
theorem hu_in {A : Around} {k : Nat} (hr : Room k A) : A.units + 1 < cLine := by have := hr.units; omega
end Fz

/-! ## FzV -/
set_option Elab.async false
set_option linter.all false
set_option maxRecDepth 100000
set_option maxHeartbeats 2000000
set_option autoImplicit false
namespace Fz
open PySem L2
theorem x_par3 {B : Bg} {ε : Eps} {L L1 : Own} {tas : TA} {D : Ends} {i j l : Nat} {a b c : AD} (h : EA B tas ε L [a, b, c] L1) (k : Ho B D.nx (((ε.set i (some a)).set j (some b)).set l (some c)) L1) : Ho B (tPar3 i j l tas D) ε L := fun F σ H r =>
  h F σ H r _ fun vs F1 H1 _ r1 o1 => by
    match vs, o1 with
    | [u, v, w], o => exact ⟨u, v, w, rfl, k F1 _ H1 (((r1.slot o.1).slot o.2.1).slot o.2.2.1)⟩
end Fz

/-! ## FzW -/
set_option Elab.async false
set_option linter.all false
set_option maxRecDepth 100000
set_option maxHeartbeats 2000000
set_option autoImplicit false
/-! FzW: the head, where nothing is under way and nobody sees the audit. -/
namespace Fz
open PySem L2 PySem.Spec PyProof.Rows
/-- what is tracked is a list -/
def AllLists (h : Heap) (H : Hp) : Prop := ∀ b u, H b = some u → ∃ its, h.get? b = some { cls := .type "list", data := .seq its }
section
variable {h : Heap} {H : Hp}
theorem AllLists.off (t : AllLists h H) {b : Addr} {o : Obj} (e : h.get? b = some o) (no : o.cls = .type "list" → ∀ its n, o.data = .seq its n → False) : (hidT h H).get? b = some o := by
  refine hidT_get e ?_
  match hb : H b with
  | none => rfl
  | some u =>
    obtain ⟨its, e2⟩ := t b u hb
    cases e.symm.trans e2
    exact (no rfl _ _ rfl).elim
theorem AllLists.ns (t : AllLists h H) {b : Addr} {m : Str → Option Value} (x : h.Ns b m) : (hidT h H).Ns b m := by
  obtain ⟨o, es, ep, e, d, rest⟩ := x
  exact ⟨o, es, ep, t.off e (fun _ its n z => by rw [d] at z; cases z), d, rest⟩
theorem AllLists.seer (t : AllLists h H) (x : h.NoSeer) : (hidT h H).NoSeer := by
  obtain ⟨⟨m1, p1, q1⟩, ⟨m2, p2, q2⟩, ⟨m3, p3, q3⟩, ⟨m4, bm, ob, p4, q4, g, c, dd⟩⟩ := x
  exact ⟨⟨m1, t.ns p1, q1⟩, ⟨m2, t.ns p2, q2⟩, ⟨m3, t.ns p3, q3⟩, ⟨m4, bm, ob, t.ns p4, q4, t.off g fun z => absurd (Value.type.inj (c.symm.trans z)) (by decide), c, dd⟩⟩
end
/-- the caller's end: what a run of the law's def leaves -/
def Done (s₁ : Shared) (r : Result) (s' : Shared) : Prop := r = .ok (.ret (.bool true)) ∧ OldK s₁.heap s'.heap ∧ s'.os = s₁.os ∧ AllBare s'.gens
section
variable {P : Program} {w : World} {K : PySem.W.Frag} {mg mb : Str → Option Value} {k : Nat} {fa a : Addr} {fd : FuncData} {x : Str} {sp : Sp} {s₁ : Shared}
/-- from a heap in which lists alone are tracked, each known to its object -/
theorem run_G {H : Hp} (inK : K.In s₁.heap) (top : s₁.heap.Ns mainGlobals mg) (blt : s₁.heap.Ns builtinsNs mb) (bltB : ∀ y : Str, y ≠ "__name__" → mb y = bootBuiltins y) (lim : s₁.heap.NoLimit) (seer : s₁.heap.NoSeer) (bare : s₁.gens = #[]) (room : Room k callerA)
    (tl : AllLists s₁.heap H) (out : ∀ b, H b ≠ none → K.lookup b = none) (known : Only H) (good : HOk P w H s₁.heap)
    (F : ∀ base : Heap, K.In base → base.Ns mainGlobals mg → base.NoSeer → GOk P w K mg base k fa fd [x] sp) (bind : BindsTo s₁ fd ⟨[.ref a], []⟩ [(x, .ref a)]) (say : sp [.ref a] H (fun v _ => v = .bl true) E0) :
    codeAny (model P w) callerA (.call (.ref fa) ⟨[.ref a], []⟩) (Done s₁) s₁ := by
  have inH : K.In (hidT s₁.heap H) := fun b o e => hidT_get (inK b o e) (by
    match hb : H b with
    | none => rfl
    | some u => rw [out b (by rw [hb]; exact Option.some_ne_none u)] at e; cases e)
  have limH : (hidT s₁.heap H).NoLimit := by
    obtain ⟨m, p, q⟩ := lim
    exact ⟨m, tl.ns p, q⟩
  have env : Env0 P w K mg (hidT s₁.heap H) callerA [] s₁ H :=
    { frames := rfl, mod := ⟨inH, tl.ns top, ⟨mb, tl.ns blt, bltB⟩, limH⟩, bs := fun b o e => of_hidT e, bsz := by rw [hidT_size]; exact Nat.le_refl _, funs := trivial, frf := (fun b hb => nomatch hb), hok := good, bare := .of_eq bare }
  refine codeAny_mono ((F _ inH (tl.ns top) (tl.seer seer)).run callerA [] s₁ H ⟨[.ref a], []⟩ [.ref a] [.ref a] _ room rfl env bind (.cons rfl .nil) say) fun r s' h => ?_
  match r, h with
  | .ok (.ret u), ⟨v, H', h1, h2, h3, h4, h5, h6⟩ =>
    cases (show v = .bl true from h6)
    cases (show u = Value.bool true from h5)
    refine ⟨rfl, .of_keep fun b o e => ?_, h1, h2⟩
    match hb : H b, known b with
    | none, _ => exact h3.keep b o e hb (fun z => nomatch z) (fun z => nomatch z)
    | some u, .inl z => cases z
    | some u, .inr ⟨ob, xs, z⟩ =>
      have z2 : H b = some (.frz ob (.lst xs)) := hb.trans z
      have now := (h4 b _ (h3.frzs b ob _ z2)).1
      have old := (good b _ z2).1
      rw [e] at old; cases old
      exact now
  | .error _, h => exact False.elim h
  | .ok .next, h => exact False.elim h
  | .ok .brk, h => exact False.elim h
  | .ok .cont, h => exact False.elim h
/-- the script at a: one of the module's own lists, or known to its object -/
theorem call_G {vs : List Value} {ns : List Int} (inK : K.In s₁.heap) (top : s₁.heap.Ns mainGlobals mg) (blt : s₁.heap.Ns builtinsNs mb) (bltB : ∀ y : Str, y ≠ "__name__" → mb y = bootBuiltins y) (lim : s₁.heap.NoLimit) (seer : s₁.heap.NoSeer) (bare : s₁.gens = #[]) (room : Room k callerA)
    (at' : s₁.heap.get? a = some { cls := .type "list", data := .seq vs.toArray }) (areI : IntsAre vs ns) (few : ns.length ≤ sizeLine)
    (F : ∀ base : Heap, K.In base → base.Ns mainGlobals mg → base.NoSeer → GOk P w K mg base k fa fd [x] sp) (bind : ∀ (s : Shared) (u : Value), BindsTo s fd ⟨[u], []⟩ [(x, u)])
    (say : ∀ H : Hp, Only H → SqL K H a (ns.map V.int) → sp [.ref a] H (fun v _ => v = .bl true) E0) : codeAny (model P w) callerA (.call (.ref fa) ⟨[.ref a], []⟩) (Done s₁) s₁ := by
  have rel := L2.vals_ints areI
  have len := areI.length
  match hk : K.lookup a with
  | some o =>
    cases at'.symm.trans (inK a o hk)
    have none0 : ∀ b u, (fun _ => none : Hp) b = some u → False := fun b u z => by cases z
    exact run_G inK top blt bltB lim seer bare room (H := fun _ => none) (fun b u z => (none0 b u z).elim) (fun b z => absurd rfl z) (fun b => .inl rfl) (fun b u z => (none0 b u z).elim) F (bind _ _)
      (say _ (fun b => .inl rfl) (.inr ⟨_, vs.toArray, _, hk, rfl, rfl, rfl, by rw [List.size_toArray, len]; exact few, by simpa using rel⟩))
  | none =>
    let Ha : Hp := upd (fun _ => none) a (.frz { cls := .type "list", data := .seq vs.toArray } (.lst (ns.map V.int)))
    have cas : ∀ b u, Ha b = some u → b = a ∧ u = .frz { cls := .type "list", data := .seq vs.toArray } (.lst (ns.map V.int)) := fun b u z => by
      by_cases c : b = a
      · subst c
        rw [show Ha b = _ from upd_same] at z
        exact ⟨rfl, (Option.some.inj z).symm⟩
      · rw [show Ha b = none from upd_ne c] at z; cases z
    have onl : Only Ha := fun b => by
      match hb : Ha b with
      | none => exact .inl rfl
      | some u => exact .inr ⟨_, _, by rw [(cas b u hb).2]⟩
    refine run_G inK top blt bltB lim seer bare room (H := Ha) (fun b u z => ?_) (fun b z => ?_) onl (fun b u z => ?_) F (bind _ _) (say _ onl (.inl (.inr ⟨_, upd_same⟩)))
    · rw [(cas b u z).1]; exact ⟨_, at'⟩
    · match hb : Ha b with
      | none => exact absurd hb z
      | some u => rw [(cas b u hb).1]; exact hk
    · obtain ⟨rfl, rfl⟩ := cas b u z
      exact ⟨at', by rw [List.length_map]; exact few, vs, _, rel, at'⟩
end
/-- the walk's head for a def that may show what it has -/
theorem walk_ofG {l : PySem.W.OpenLaw} {n k : Nat} {p : Program} {free : List Str} {XP : (Str → Option Value) → Heap → Prop} {YP : World → Heap → Prop} {d : DefRec} {K : Params → PySem.W.Frag} {sp : World → Sp} {x : Str}
    (most : l.most = some n) (few : n ≤ sizeLine) (plain : d.params.defaults = []) (room : Room k callerA) (him : importsNone p = true) (inK : ∀ (w : World) (h : Heap), YP w h → (K w.params).In h)
    (F : ∀ (w : World) (mg : Str → Option Value) (fa : Addr) (h : Heap), (K w.params).In h → h.Ns mainGlobals mg → mg d.name = some (.ref fa) → ∃ fd : FuncData, (∀ (s : Shared) (u : Value), BindsTo s fd ⟨[u], []⟩ [(x, u)]) ∧
      ∀ base : Heap, (K w.params).In base → base.Ns mainGlobals mg → base.NoSeer → GOk l.prog w (K w.params) mg base k fa fd [x] (sp w))
    (say : ∀ (w : World) (H : Hp) (a : Addr) (ns : List Int), ns.length ≤ n → Only H → SqL (K w.params) H a (ns.map V.int) → sp w [.ref a] H (fun v _ => v = .bl true) E0) : PySem.W.WalkO p free XP YP l.row.toRowW d [] (fun f us => PySem.call f us) :=
  Att.attach_call most plain fun w _ s₁ mg mb fa o pm cd doc a vs ns G Y ho hd hcd hmg hobj hints hlen hg => by
    obtain ⟨fd, bind, made⟩ := F w mg fa _ (inK w _ Y) G.T.g hmg
    exact call_G (inK w _ Y) G.T.g G.T.b G.T.builtins G.T.nolimit (G.T.seer him) hg room hobj hints (Nat.le_trans hlen few) made bind fun H o1 o2 => say w H a ns hlen o1 o2
/-! ### the bag, made -/
section
variable {B : Bg} {ε : Eps} {L La : Own} {te : TE} {D : Ends}
theorem Rep.allocB {F : Hp} {σ : L2.St} {H H' : Hp} {pb pc : Addr} {b : Bag} (r : Rep B ε L F σ H) (s : Sub H H') (h1 : H pb = none) (h2 : H pc = none) (ne : pb ≠ pc) (hb : BagAt H' pb pc b.cells b.cur b.mix) : Rep B ε (b.at pb pc :: L) F σ H' := by
  have r1 := r.heap s
  have e1 : fps (b.at pb pc :: L) = pb :: pc :: fps L := rfl
  refine ⟨r1.sub, fun m hm => ?_, fun p hp => ?_, ?_, r1.sl, r1.len, r1.f0, r1.h0, r1.nc, fun p hp => ?_⟩
  · rcases List.mem_cons.mp hm with e | e
    · rw [e]; exact hb
    · exact r1.own m e
  · rw [e1] at hp
    rcases List.mem_cons.mp hp with e | hp
    · rw [e]; exact ⟨sub_none r.sub h1, .inr (r.newH h1)⟩
    · rcases List.mem_cons.mp hp with e | hp
      · rw [e]; exact ⟨sub_none r.sub h2, .inr (r.newH h2)⟩
      · exact r1.off p hp
  · rw [e1]
    refine List.nodup_cons.mpr ⟨fun hm => ?_, List.nodup_cons.mpr ⟨r.new h2, r.nd⟩⟩
    rcases List.mem_cons.mp hm with e | hm
    · exact ne e
    · exact r.new h1 hm
  · rw [e1]; exact List.mem_cons_of_mem _ (List.mem_cons_of_mem _ (r1.mm p hp))
theorem x_setOwn {i k : Nat} {E : XK} {a : Addr} {ns : List Int} (h : EX B te ε L (.v (.ref a)) La) (hk : La[k]? = some (.seq a (ns.map PyData.int))) (hl : ns.length ≤ 63)
    (q : ∀ (pb pc : Addr) (b : Bag), pb ∉ B.M → pc ∉ B.M → Ho B D.nx (ε.set i (some (.v (.ref pb)))) (b.at pb pc :: La)) : Ho B (tAsg (tCall (spOwn B.K) [] E (tCons te tNil)) (gName i) D) ε L := fun F σ H r =>
  h F σ H r _ fun v F1 H1 s1 r1 o1 => by
    have ev : v = .ref a := o1
    subst ev
    obtain ⟨vs, g1, g2⟩ := r1.own _ (List.mem_of_getElem? hk)
    have e2 := dpa_int_inv g2
    subst e2
    refine ⟨a, ns, rfl, sql_sub r1.sub g1, hl, fun pb pc b H' s hb1 hb2 ne hb => ?_⟩
    exact q pb pc b (r1.newM hb1) (r1.newM hb2) F1 _ H' ((r1.allocB s hb1 hb2 ne hb).slot (a := .v (.ref pb)) rfl)
end
end Fz

/-! ## Fw -/
set_option Elab.async false
set_option linter.all false
set_option maxRecDepth 100000
set_option maxHeartbeats 2000000
set_option autoImplicit false
/-! Fw: what is drawn is known by its bounds alone: expressions with many outcomes, defs by what they promise. -/
namespace Fz
open PySem L2
/-! ### encoders -/
def eT {α : Type} (e : α → PyData) (xs : List α) : PyData := .tuple (xs.map e)
def eL {α : Type} (e : α → PyData) (xs : List α) : PyData := .list (xs.map e)
def eP {α β : Type} (e : α → PyData) (f : β → PyData) (x : α × β) : PyData := .tuple [e x.1, f x.2]
def eO {α : Type} (e : α → PyData) : Option α → PyData
  | none => .none
  | some x => e x
def eU (_ : Unit) : PyData := .none
/-! ### judgements with many outcomes -/
section
variable (B : Bg)
def WX (te : TE) (ε : Eps) (L : Own) (κ : AD → Own → Prop) : Prop := ∀ F σ H, Rep B ε L F σ H → ∀ Q : VK, (∀ a L' v F' H', κ a L' → Sub F F' → Rep B ε L' F' σ H' → a.ok B.K F' v → Q v H') → te σ H Q
def WV {α : Type} (e : α → PyData) (te : TE) (ε : Eps) (L : Own) (κ : α → Own → Prop) : Prop := ∀ F σ H, Rep B ε L F σ H → ∀ Q : VK, (∀ x L' v F' H', κ x L' → Sub F F' → Rep B ε L' F' σ H' → Dq B.K F' v (e x) → Q v H') → te σ H Q
def WR (te : TE) (ε : Eps) (L : Own) (κ : Addr → Own → Prop) : Prop := ∀ F σ H, Rep B ε L F σ H → ∀ Q : VK, (∀ p L' F' H', κ p L' → Sub F F' → Rep B ε L' F' σ H' → Q (.ref p) H') → te σ H Q
def WA (ta : TA) (ε : Eps) (L : Own) (κ : List AD → Own → Prop) : Prop := ∀ F σ H, Rep B ε L F σ H → ∀ Q : List V → Hp → Prop, (∀ as L' vs F' H', κ as L' → Sub F F' → Rep B ε L' F' σ H' → AdAll B.K F' as vs → Q vs H') → ta σ H Q
def WT (tt : TT) (ε : Eps) (L : Own) (κ : Bool → Own → Prop) : Prop := ∀ F σ H, Rep B ε L F σ H → ∀ Q : Bool → Hp → Prop, (∀ b L' F' H', κ b L' → Sub F F' → Rep B ε L' F' σ H' → Q b H') → tt σ H Q
end
/-- a thing in its place -/
inductive At : Own → Nat → MO → Prop
  | z {m : MO} {L : Own} : At (m :: L) 0 m
  | s {m x : MO} {L : Own} {k : Nat} : At L k m → At (x :: L) (k + 1) m
theorem At.get {L : Own} {k : Nat} {m : MO} (h : At L k m) : L[k]? = some m := by
  induction h with
  | z => rfl
  | s _ ih => exact ih
/-- a thing changed in its place -/
inductive Up : Own → MO → MO → Own → Prop
  | z {m m' : MO} {L : Own} : Up (m :: L) m m' (m' :: L)
  | s {m m' x : MO} {L L' : Own} : Up L m m' L' → Up (x :: L) m m' (x :: L')
theorem Up.get {L L' : Own} {m m' : MO} (h : Up L m m' L') : ∃ k, L[k]? = some m ∧ L' = L.set k m' := by
  induction h with
  | z => exact ⟨0, rfl, rfl⟩
  | s _ ih =>
    obtain ⟨k, h1, h2⟩ := ih
    exact ⟨k + 1, h1, by rw [h2]; rfl⟩
theorem Up.mem {L L' : Own} {m m' : MO} (h : Up L m m' L') : m' ∈ L' := by
  induction h with
  | z => exact List.mem_cons_self
  | s _ ih => exact List.mem_cons_of_mem _ ih
/-- a slot stored -/
inductive Sl : Eps → Nat → Option AD → Eps → Prop
  | z {a : Option AD} {x : Option AD} {ε : Eps} : Sl (x :: ε) 0 a (a :: ε)
  | s {a x : Option AD} {ε ε' : Eps} {i : Nat} : Sl ε i a ε' → Sl (x :: ε) (i + 1) a (x :: ε')
theorem Sl.eq {ε ε' : Eps} {i : Nat} {a : Option AD} (h : Sl ε i a ε') : ε' = ε.set i a := by
  induction h with
  | z => rfl
  | s _ ih => rw [ih]; rfl
section
variable {B : Bg} {ε ε' : Eps} {L L' La Lb : Own} {te ta tb : TE} {tt tu : TT} {tas tr : TA} {D : Ends} {ts tc tw : TS} {α β : Type} {e : α → PyData} {f : β → PyData}
/-! ### from what is exact -/
theorem wx_of {a : AD} {κ : AD → Own → Prop} (h : EX B te ε L a L') (k : κ a L') : WX B te ε L κ := fun F σ H r Q q => h F σ H r Q fun v F' H' s r' o => q a L' v F' H' k s r' o
theorem wv_of {x : α} {κ : α → Own → Prop} (h : EX B te ε L (.d (e x)) L') (k : κ x L') : WV B e te ε L κ := fun F σ H r Q q => h F σ H r Q fun v F' H' s r' o => q x L' v F' H' k s r' o
theorem wr_of {ds : List PyData} {κ : Addr → Own → Prop} (h : EN B te ε L ds L') (k : ∀ p, p ∉ B.M → κ p (.lst p ds :: L')) : WR B te ε L κ := fun F σ H r Q q => h F σ H r Q fun p F' H' s hp r' => q p _ F' H' (k p hp) s r'
theorem wa_of {as : List AD} {κ : List AD → Own → Prop} (h : EA B tas ε L as L') (k : κ as L') : WA B tas ε L κ := fun F σ H r Q q => h F σ H r Q fun vs F' H' s r' o => q as L' vs F' H' k s r' o
theorem wt_of {b : Bool} {κ : Bool → Own → Prop} (h : ETt B tt ε L b L') (k : κ b L') : WT B tt ε L κ := fun F σ H r Q q => h F σ H r Q fun F' H' s r' => q b L' F' H' k s r'
theorem wx_v {κ : AD → Own → Prop} (h : WV B e te ε L fun x L' => κ (.d (e x)) L') : WX B te ε L κ := fun F σ H r Q q => h F σ H r Q fun x L' v F' H' k s r' o => q (.d (e x)) L' v F' H' k s r' o
theorem wx_r {κ : AD → Own → Prop} (h : WR B te ε L fun p L' => κ (.v (.ref p)) L') : WX B te ε L κ := fun F σ H r Q q => h F σ H r Q fun p L' F' H' k s r' => q (.v (.ref p)) L' _ F' H' k s r' rfl
theorem wv_mono {κ κ' : α → Own → Prop} (h : WV B e te ε L κ) (k : ∀ x L', κ x L' → κ' x L') : WV B e te ε L κ' := fun F σ H r Q q => h F σ H r Q fun x L' v F' H' c => q x L' v F' H' (k x L' c)
/-- the outcome said by another encoder -/
theorem wv_as {κ : β → Own → Prop} (h : WV B e te ε L fun x L' => ∃ y, e x = f y ∧ κ y L') : WV B f te ε L κ := fun F σ H r Q q => h F σ H r Q fun x L' v F' H' ⟨y, hy, k⟩ s r' o => q y L' v F' H' k s r' (hy ▸ o)
/-! ### two places -/
theorem w_op {γ : Type} {g : γ → PyData} {r : R2} {κ : γ → Own → Prop} (h : WV B e ta ε L fun x L1 => WV B f tb ε L1 fun y L2 => ∃ z, RX B r ε L2 (.d (e x)) (.d (f y)) (.d (g z)) L2 ∧ κ z L2) : WV B g (tOp r ta tb) ε L κ := fun F σ H rp Q q =>
  h F σ H rp _ fun x L1 v F1 H1 k1 s1 r1 o1 => k1 F1 σ H1 r1 _ fun y L2 w F2 H2 ⟨z, hr, k2⟩ s2 r2 o2 => hr F2 σ H2 v w r2 (dp_sub s2 o1) o2 Q fun u F3 H3 s3 r3 o3 => q z L2 u F3 H3 k2 ((s1.tr s2).tr s3) r3 o3
variable {κ : Int → Own → Prop} {κb : Bool → Own → Prop}
theorem w_add (h : WV B PyData.int ta ε L fun i L1 => WV B PyData.int tb ε L1 fun j L2 => κ (i + j) L2) : WV B PyData.int (tOp (rI0 fun i j => .int (i + j)) ta tb) ε L κ := w_op (e := PyData.int) (f := PyData.int) (wv_mono h fun i L1 k => wv_mono k fun j L2 k => ⟨_, rx_I0 fun _ _ => .int _, k⟩)
theorem w_sub (h : WV B PyData.int ta ε L fun i L1 => WV B PyData.int tb ε L1 fun j L2 => κ (i - j) L2) : WV B PyData.int (tOp (rI0 fun i j => .int (i - j)) ta tb) ε L κ := w_op (e := PyData.int) (f := PyData.int) (wv_mono h fun i L1 k => wv_mono k fun j L2 k => ⟨_, rx_I0 fun _ _ => .int _, k⟩)
theorem w_mul (h : WV B PyData.int ta ε L fun i L1 => WV B PyData.int tb ε L1 fun j L2 => CMulW i j ∧ κ (i * j) L2) : WV B PyData.int (tOp (rI CMulW fun i j => .int (i * j)) ta tb) ε L κ := w_op (e := PyData.int) (f := PyData.int) (wv_mono h fun i L1 k => wv_mono k fun j L2 k => ⟨_, rx_I k.1 fun _ _ => .int _, k.2⟩)
theorem w_mod (h : WV B PyData.int ta ε L fun i L1 => WV B PyData.int tb ε L1 fun j L2 => 0 < j ∧ κ (i % j) L2) : WV B PyData.int (tOp (rI (fun _ j => 0 < j) fun i j => .int (i % j)) ta tb) ε L κ := w_op (e := PyData.int) (f := PyData.int) (wv_mono h fun i L1 k => wv_mono k fun j L2 k => ⟨_, rx_I k.1 fun _ _ => .int _, k.2⟩)
theorem w_fdiv (h : WV B PyData.int ta ε L fun i L1 => WV B PyData.int tb ε L1 fun j L2 => CDivW i j ∧ κ (i / j) L2) : WV B PyData.int (tOp (rI CDivW fun i j => .int (i / j)) ta tb) ε L κ := w_op (e := PyData.int) (f := PyData.int) (wv_mono h fun i L1 k => wv_mono k fun j L2 k => ⟨_, rx_I k.1 fun _ _ => .int _, k.2⟩)
theorem w_lt (h : WV B PyData.int ta ε L fun i L1 => WV B PyData.int tb ε L1 fun j L2 => κb (decide (i < j)) L2) : WV B PyData.bool (tOp (rI0 fun i j => .bl (decide (i < j))) ta tb) ε L κb := w_op (e := PyData.int) (f := PyData.int) (wv_mono h fun i L1 k => wv_mono k fun j L2 k => ⟨_, rx_I0 fun _ _ => .bl _, k⟩)
theorem w_le (h : WV B PyData.int ta ε L fun i L1 => WV B PyData.int tb ε L1 fun j L2 => κb (decide (i ≤ j)) L2) : WV B PyData.bool (tOp (rI0 fun i j => .bl (decide (i ≤ j))) ta tb) ε L κb := w_op (e := PyData.int) (f := PyData.int) (wv_mono h fun i L1 k => wv_mono k fun j L2 k => ⟨_, rx_I0 fun _ _ => .bl _, k⟩)
theorem w_gt (h : WV B PyData.int ta ε L fun i L1 => WV B PyData.int tb ε L1 fun j L2 => κb (decide (j < i)) L2) : WV B PyData.bool (tOp (rI0 fun i j => .bl (decide (j < i))) ta tb) ε L κb := w_op (e := PyData.int) (f := PyData.int) (wv_mono h fun i L1 k => wv_mono k fun j L2 k => ⟨_, rx_I0 fun _ _ => .bl _, k⟩)
theorem w_ge (h : WV B PyData.int ta ε L fun i L1 => WV B PyData.int tb ε L1 fun j L2 => κb (decide (j ≤ i)) L2) : WV B PyData.bool (tOp (rI0 fun i j => .bl (decide (j ≤ i))) ta tb) ε L κb := w_op (e := PyData.int) (f := PyData.int) (wv_mono h fun i L1 k => wv_mono k fun j L2 k => ⟨_, rx_I0 fun _ _ => .bl _, k⟩)
theorem rx_eqI {i j : Int} : RX B rEq ε L (.d (.int i)) (.d (.int j)) (.d (.bool (decide (i = j)))) L := fun F σ H v w rp hv hw Q q => by
  rw [int_inv hv, int_inv hw]
  refine ⟨rfl, ?_⟩
  have e : decide ((V.int i) = V.int j) = decide (i = j) := by
    by_cases h : i = j
    · subst h; simp
    · rw [decide_eq_false h, decide_eq_false fun z => h (V.int.inj z)]
  rw [e]
  exact q _ F H (Sub.rfl' F) rp (.bl _)
theorem rx_neI {i j : Int} : RX B rNe ε L (.d (.int i)) (.d (.int j)) (.d (.bool (!decide (i = j)))) L := fun F σ H v w rp hv hw Q q => by
  rw [int_inv hv, int_inv hw]
  refine ⟨rfl, ?_⟩
  have e : decide ((V.int i) = V.int j) = decide (i = j) := by
    by_cases h : i = j
    · subst h; simp
    · rw [decide_eq_false h, decide_eq_false fun z => h (V.int.inj z)]
  rw [e]
  exact q _ F H (Sub.rfl' F) rp (.bl _)
theorem w_eq (h : WV B PyData.int ta ε L fun i L1 => WV B PyData.int tb ε L1 fun j L2 => κb (decide (i = j)) L2) : WV B PyData.bool (tOp rEq ta tb) ε L κb := w_op (e := PyData.int) (f := PyData.int) (wv_mono h fun i L1 k => wv_mono k fun j L2 k => ⟨_, rx_eqI, k⟩)
theorem w_ne (h : WV B PyData.int ta ε L fun i L1 => WV B PyData.int tb ε L1 fun j L2 => κb (!decide (i = j)) L2) : WV B PyData.bool (tOp rNe ta tb) ε L κb := w_op (e := PyData.int) (f := PyData.int) (wv_mono h fun i L1 k => wv_mono k fun j L2 k => ⟨_, rx_neI, k⟩)
theorem w_neg (h : WV B PyData.int ta ε L fun i L1 => κ (-i) L1) : WV B PyData.int (tUn (rU fun i => .int (-i)) ta) ε L κ := fun F σ H rp Q q =>
  h F σ H rp _ fun i L1 v F1 H1 k s1 r1 o1 => ⟨i, int_inv o1, q _ L1 _ F1 H1 k s1 r1 (.int _)⟩
theorem w_eqD {x : α} {y : β} (ha : EX B ta ε L (.d (e x)) La) (hb : EX B tb ε La (.d (f y)) Lb) (h1 : SeqAt.shaped (e x) = true) (h2 : SeqAt.shaped (f y) = true) (k : κb (PyData.eqv (e x) (f y)) Lb) : WV B PyData.bool (tOp (rEqD B.K) ta tb) ε L κb := wv_of (ex_eqD ha hb h1 h2) k
/-! ### tests -/
variable {κt : Bool → Own → Prop}
theorem wt_test (h : WV B PyData.bool te ε L κt) : WT B (tTest te) ε L κt := fun F σ H r Q q => h F σ H r _ fun b L1 v F1 H1 k s1 r1 o1 => ⟨b, bool_inv o1, q b L1 F1 H1 k s1 r1⟩
theorem wt_B (h : WV B PyData.bool te ε L κt) : WT B (tB te) ε L κt := fun F σ H r Q q => h F σ H r _ fun b L1 v F1 H1 k s1 r1 o1 => ⟨b, bool_inv o1, q b L1 F1 H1 k s1 r1⟩
theorem wt_not (h : WT B tt ε L fun b L1 => κt (!b) L1) : WT B (tNot tt) ε L κt := fun F σ H r Q q => h F σ H r _ fun b L1 F1 H1 k s1 r1 => q _ L1 F1 H1 k s1 r1
theorem wt_and (h : WT B tt ε L fun b L1 => (b = true → WT B tu ε L1 κt) ∧ (b = false → κt false L1)) : WT B (tAnd tt tu) ε L κt := fun F σ H r Q q => h F σ H r _ fun b L1 F1 H1 k s1 r1 => by
  cases b with
  | true => exact k.1 rfl F1 σ H1 r1 Q fun c L2 F2 H2 k2 s2 r2 => q c L2 F2 H2 k2 (s1.tr s2) r2
  | false => exact q false L1 F1 H1 (k.2 rfl) s1 r1
theorem wt_or (h : WT B tt ε L fun b L1 => (b = false → WT B tu ε L1 κt) ∧ (b = true → κt true L1)) : WT B (tOr tt tu) ε L κt := fun F σ H r Q q => h F σ H r _ fun b L1 F1 H1 k s1 r1 => by
  cases b with
  | false => exact k.1 rfl F1 σ H1 r1 Q fun c L2 F2 H2 k2 s2 r2 => q c L2 F2 H2 k2 (s1.tr s2) r2
  | true => exact q true L1 F1 H1 (k.2 rfl) s1 r1
theorem wt_mono {κ' : Bool → Own → Prop} (h : WT B tt ε L κt) (k : ∀ x L', κt x L' → κ' x L') : WT B tt ε L κ' := fun F σ H r Q q => h F σ H r Q fun x L' F' H' c => q x L' F' H' (k x L' c)
theorem w_andV (h : WV B PyData.bool ta ε L fun b L1 => (b = true → WV B PyData.bool tb ε L1 κb) ∧ (b = false → κb false L1)) : WV B PyData.bool (tAndV ta tb) ε L κb := fun F σ H r Q q => h F σ H r _ fun b L1 v F1 H1 k s1 r1 o1 => ⟨b, bool_inv o1, by
  cases b with
  | true => exact k.1 rfl F1 σ H1 r1 Q fun c L2 v F2 H2 k2 s2 r2 o2 => q c L2 v F2 H2 k2 (s1.tr s2) r2 o2
  | false => exact q false L1 _ F1 H1 (k.2 rfl) s1 r1 (.bl _)⟩
theorem w_orV (h : WV B PyData.bool ta ε L fun b L1 => (b = false → WV B PyData.bool tb ε L1 κb) ∧ (b = true → κb true L1)) : WV B PyData.bool (tOrV ta tb) ε L κb := fun F σ H r Q q => h F σ H r _ fun b L1 v F1 H1 k s1 r1 o1 => ⟨b, bool_inv o1, by
  cases b with
  | false => exact k.1 rfl F1 σ H1 r1 Q fun c L2 v F2 H2 k2 s2 r2 o2 => q c L2 v F2 H2 k2 (s1.tr s2) r2 o2
  | true => exact q true L1 _ F1 H1 (k.2 rfl) s1 r1 (.bl _)⟩
theorem w_notV (h : WV B PyData.bool te ε L fun b L1 => κb (!b) L1) : WV B PyData.bool (tNotV te) ε L κb := fun F σ H r Q q => h F σ H r _ fun b L1 v F1 H1 k s1 r1 o1 => ⟨b, bool_inv o1, q _ L1 _ F1 H1 k s1 r1 (.bl _)⟩
theorem w_if {κ' : α → Own → Prop} (h : WT B tt ε L fun b L1 => (b = true → WV B e ta ε L1 κ') ∧ (b = false → WV B e tb ε L1 κ')) : WV B e (tIf tt ta tb) ε L κ' := fun F σ H r Q q => h F σ H r _ fun b L1 F1 H1 k s1 r1 => by
  cases b with
  | true => exact k.1 rfl F1 σ H1 r1 Q fun c L2 v F2 H2 k2 s2 r2 o2 => q c L2 v F2 H2 k2 (s1.tr s2) r2 o2
  | false => exact k.2 rfl F1 σ H1 r1 Q fun c L2 v F2 H2 k2 s2 r2 o2 => q c L2 v F2 H2 k2 (s1.tr s2) r2 o2
/-! ### arguments, displays -/
theorem wa_nil {κ : List AD → Own → Prop} (k : κ [] L) : WA B tNil ε L κ := fun F σ H r Q q => q [] L [] F H k (Sub.rfl' F) r trivial
theorem wa_cons {κ : List AD → Own → Prop} (h : WX B te ε L fun a L1 => WA B tr ε L1 fun as L2 => κ (a :: as) L2) : WA B (tCons te tr) ε L κ := fun F σ H r Q q =>
  h F σ H r _ fun a L1 v F1 H1 k s1 r1 o1 => k F1 σ H1 r1 _ fun as L2 vs F2 H2 k2 s2 r2 o2 => q _ L2 _ F2 H2 k2 (s1.tr s2) r2 ⟨o1.sub s2, o2⟩
theorem wa_v {κ : List AD → Own → Prop} (h : WV B e te ε L fun x L1 => WA B tr ε L1 fun as L2 => κ (.d (e x) :: as) L2) : WA B (tCons te tr) ε L κ := wa_cons (wx_v h)
theorem wa_x {a : AD} {κ : List AD → Own → Prop} (h : EX B te ε L a La) (k : WA B tr ε La fun as L2 => κ (a :: as) L2) : WA B (tCons te tr) ε L κ := wa_cons (wx_of h k)
theorem w_tup {ty : List AD → PyData} {κ : α → Own → Prop} (h : WA B tas ε L fun as L1 => ∃ (ds : List PyData) (x : α), as = ds.map AD.d ∧ ds.length ≤ 100000 ∧ e x = .tuple ds ∧ κ x L1) : WV B e (tTup tas) ε L κ := fun F σ H r Q q =>
  h F σ H r _ fun as L1 vs F1 H1 ⟨ds, x, ea, hl, ex, k⟩ s1 r1 o1 => by
    subst ea
    have oa := ad_data o1
    refine ⟨Evl.sz_of (by rw [dpa_len oa]; exact hl), fun p hp => ?_⟩
    have hF := sub_none r1.sub hp
    exact q x L1 _ _ _ k (s1.tr (sub_fresh hF)) (r1.grow hp) (by rw [ex]; exact .tup upd_same (dpa_sub (sub_fresh hF) oa))
theorem w_lst {κ : Addr → Own → Prop} (h : WA B tas ε L fun as L1 => ∃ ds : List PyData, as = ds.map AD.d ∧ ds.length ≤ 100000 ∧ ∀ p, p ∉ B.M → κ p (.lst p ds :: L1)) : WR B (tLst tas) ε L κ := fun F σ H r Q q =>
  h F σ H r _ fun as L1 vs F1 H1 ⟨ds, ea, hl, k⟩ s1 r1 o1 => by
    subst ea
    have oa := ad_data o1
    exact ⟨Evl.sz_of (by rw [dpa_len oa]; exact hl), fun p hp => q p _ F1 _ (k p (r1.newM hp)) s1 (r1.alloc hp rfl ⟨vs, upd_same, oa⟩)⟩
/-- a new list that will not change -/
theorem w_frz {κ : α → Own → Prop} (h : WR B te ε L fun p L1 => ∃ (ds : List PyData) (L2 : Own) (x : α), p ∉ B.M ∧ L1 = .lst p ds :: L2 ∧ e x = .list ds ∧ κ x L2) : WV B e te ε L κ := fun F σ H r Q q =>
  h F σ H r _ fun p L1 F1 H1 ⟨ds, L2, x, hp, e1, e2, k⟩ s1 r1 => by
    subst e1
    have en : EN B (fun σ H Q => Q (.ref p) H) ε (.lst p ds :: L2) ds L2 := fun F σ H r Q q => q p F H (Sub.rfl' F) hp r
    exact ex_frz en F1 σ H1 r1 Q fun v F2 H2 s2 r2 o2 => q x L2 v F2 H2 k (s1.tr s2) r2 (e2 ▸ o2)
/-! ### statements -/
theorem x_setV {i : Nat} {ε' : α → Eps} (h : WV B e te ε L fun x L1 => Ho B D.nx (ε' x) L1) (hs : ∀ x, Sl ε i (some (.d (e x))) (ε' x)) : Ho B (tAsg te (gName i) D) ε L := fun F σ H r =>
  h F σ H r _ fun x L1 v F1 H1 k _ r1 o1 => k F1 _ H1 ((hs x).eq ▸ r1.slot (a := .d (e x)) o1)
theorem x_setO {i : Nat} {ε' : Addr → Eps} (h : WR B te ε L fun p L1 => Ho B D.nx (ε' p) L1) (hs : ∀ p, Sl ε i (some (.v (.ref p))) (ε' p)) : Ho B (tAsg te (gName i) D) ε L := fun F σ H r =>
  h F σ H r _ fun p L1 F1 H1 k _ r1 => k F1 _ H1 ((hs p).eq ▸ r1.slot (a := .v (.ref p)) rfl)
theorem x_parW {i j : Nat} (h : WA B tas ε L fun as L1 => ∃ a b, as = [a, b] ∧ Ho B D.nx ((ε.set i (some a)).set j (some b)) L1) : Ho B (tPar i j tas D) ε L := fun F σ H r =>
  h F σ H r _ fun as L1 vs F1 H1 ⟨a, b, ea, k⟩ _ r1 o1 => by
    subst ea
    match vs, o1 with
    | [v, w], o => exact ⟨v, w, rfl, k F1 _ H1 ((r1.slot o.1).slot o.2.1)⟩
theorem x_par3W {i j l : Nat} (h : WA B tas ε L fun as L1 => ∃ a b c, as = [a, b, c] ∧ Ho B D.nx (((ε.set i (some a)).set j (some b)).set l (some c)) L1) : Ho B (tPar3 i j l tas D) ε L := fun F σ H r =>
  h F σ H r _ fun as L1 vs F1 H1 ⟨a, b, c, ea, k⟩ _ r1 o1 => by
    subst ea
    match vs, o1 with
    | [u, v, w], o => exact ⟨u, v, w, rfl, k F1 _ H1 (((r1.slot o.1).slot o.2.1).slot o.2.2.1)⟩
theorem x_asgW {g : TG} (h : WX B te ε L fun a L1 => ∃ ε', GT B g a ε ε' ∧ Ho B D.nx ε' L1) : Ho B (tAsg te g D) ε L := fun F σ H r =>
  h F σ H r _ fun a L1 v F1 H1 ⟨ε', hg, k⟩ _ r1 o1 => hg L1 F1 σ H1 v r1 o1 _ fun σ' r2 => k F1 σ' H1 r2
theorem x_ifW (h : WT B tt ε L fun b L1 => (b = true → Ho B (ts D) ε L1) ∧ (b = false → Ho B (tw D) ε L1)) : Ho B (tIfS tt ts tw D) ε L := fun F σ H r =>
  h F σ H r _ fun b L1 F1 H1 k _ r1 => by
    cases b with
    | true => exact k.1 rfl F1 σ H1 r1
    | false => exact k.2 rfl F1 σ H1 r1
theorem x_dropW (h : WX B te ε L fun _ L1 => Ho B D.nx ε L1) : Ho B (tDrop te D) ε L := fun F σ H r => h F σ H r _ fun a L1 v F1 H1 k _ r1 o1 => k F1 σ H1 r1
/-- xs.append(e) -/
theorem x_appW {to : TE} {p : Addr} (ho : EX B to ε L (.v (.ref p)) L) (hj : ∃ (j : Nat) (ds' : List PyData), At L j (.lst p ds')) (h : WV B e te ε L fun x L1 => ∃ ds L2, Up L1 (.lst p ds) (.lst p (ds ++ [e x])) L2 ∧ ds.length < 100000 ∧ Ho B D.nx ε L2) : Ho B (tDrop (tBM B.K "list" rAppend to (tCons te tNil)) D) ε L := fun F σ H r =>
  ho F σ H r _ fun v F1 H1 s1 r1 o1 => by
    have ev : v = .ref p := o1
    subst ev
    obtain ⟨j, ds', hj⟩ := hj
    obtain ⟨us, u1, _⟩ := r1.own _ (List.mem_of_getElem? hj.get)
    refine ⟨tyv u1, h F1 σ H1 r1 _ fun x L1 w F2 H2 ⟨ds, L2, hup, hz, k⟩ s2 r2 o2 => ?_⟩
    obtain ⟨n, hk, rfl⟩ := hup.get
    obtain ⟨vs, g1, g2⟩ := r2.own _ (List.mem_of_getElem? hk)
    exact ⟨p, vs, w, rfl, rfl, g1, by rw [dpa_len g2]; exact Evl.sz_lt hz, k F2 σ _ (r2.setL hk (dpa_app g2 (.cons o2 .nil)))⟩
theorem x_while' (I : Nat → Eps → Own → Prop) {m0 : Nat} (h0 : I m0 ε L)
    (hs : ∀ m ε' L', I m ε' L' → WT B tt ε' L' fun b L'' => (b = true → Ho B (tc { D with nx := AbsP B (fun ε L => ∃ m', m' < m ∧ I m' ε L), ct := AbsP B (fun ε L => ∃ m', m' < m ∧ I m' ε L), bk := D.nx }) ε' L'') ∧ (b = false → Ho B D.nx ε' L'')) :
    Ho B (tWhile tt tc D) ε L := fun F σ H r => by
  refine ⟨fun m => AbsP B (I m), ⟨m0, ε, L, F, h0, r⟩, ?_⟩
  rintro m σ' H' ⟨ε', L', F', hI, r'⟩
  refine hs m ε' L' hI F' σ' H' r' _ fun b L2 F2 H2 k _ r2 => ?_
  cases b with
  | true =>
    refine ⟨AbsP B (fun ε L => ∃ m', m' < m ∧ I m' ε L), fun σ3 H3 ⟨ε3, L3, F3, ⟨m', hm, hI'⟩, r3⟩ => ⟨m', hm, ε3, L3, F3, hI', r3⟩, ?_⟩
    exact k.1 rfl F2 σ' H2 r2
  | false => exact k.2 rfl F2 σ' H2 r2
/-! ### typed walks -/
theorem x_forLe {g : TG} {xs : List α} (h : EX B te ε L (.d (eL e xs)) La) (I : V → Nat → Eps → Own → Prop) (h0 : ∀ v, I v 0 ε (La ++ [.know v (eL e xs)])) (hl : ∀ v i ε' L', I v i ε' L' → MO.know v (eL e xs) ∈ L')
    (hs : ∀ v i x ε' L', xs[i]? = some x → I v i ε' L' → ∃ ε'', GT B g (.d (e x)) ε' ε'' ∧ Ho B (tc { D with nx := AbsP B (I v (i + 1)), ct := AbsP B (I v (i + 1)), bk := D.nx }) ε'' L')
    (hd : ∀ v ε' L', I v xs.length ε' L' → Ho B D.nx ε' L') : Ho B (tFor (iList B.K te) g tc D) ε L :=
  x_forL (ds := xs.map e) h I h0 hl (fun v i d ε' L' hd hI => by
    rw [List.getElem?_map] at hd
    cases hx : xs[i]? with
    | none => rw [hx] at hd; cases hd
    | some x => rw [hx] at hd; cases hd; exact hs v i x ε' L' hx hI) (fun v ε' L' hI => hd v ε' L' (by rw [List.length_map] at hI; exact hI))
theorem x_forTe {g : TG} {xs : List α} (h : EX B te ε L (.d (eT e xs)) La) (I : V → Nat → Eps → Own → Prop) (h0 : ∀ v, I v 0 ε (La ++ [.know v (eT e xs)])) (hl : ∀ v i ε' L', I v i ε' L' → MO.know v (eT e xs) ∈ L')
    (hs : ∀ v i x ε' L', xs[i]? = some x → I v i ε' L' → ∃ ε'', GT B g (.d (e x)) ε' ε'' ∧ Ho B (tc { D with nx := AbsP B (I v (i + 1)), ct := AbsP B (I v (i + 1)), bk := D.nx }) ε'' L')
    (hd : ∀ v ε' L', I v xs.length ε' L' → Ho B D.nx ε' L') : Ho B (tFor (iTup B.K te) g tc D) ε L :=
  x_forT (ds := xs.map e) h I h0 hl (fun v i d ε' L' hd hI => by
    rw [List.getElem?_map] at hd
    cases hx : xs[i]? with
    | none => rw [hx] at hd; cases hd
    | some x => rw [hx] at hd; cases hd; exact hs v i x ε' L' hx hI) (fun v ε' L' hI => hd v ε' L' (by rw [List.length_map] at hI; exact hI))
/-- the end of a turn -/
theorem x_end {I : Eps → Own → Prop} (h : I ε' L) (w : Wk ε ε' := by repeat (first | exact trivial | refine ⟨Or.inr rfl, ?_⟩ | refine ⟨Or.inl rfl, ?_⟩)) : Ho B (AbsP B I) ε L := x_abs h w
/-- what is owned is given up -/
theorem ho_off {P : St → Hp → Prop} {p : Addr} {ds : List PyData} (hp : p ∉ B.M) (h : Ho B P ε L) : Ho B P ε (.lst p ds :: L) := ho_drop (k := 0) h rfl fun x hx => by rw [List.mem_singleton.mp hx]; exact hp
end

/-! ### what defs promise -/
section
variable {α β : Type}
/-- a def of data: of y that is let, some x that is promised -/
def spD (K : PySem.W.Frag) (a : β → List PyData) (Pre : β → Prop) (e : α → PyData) (Post : β → α → Prop) : Sp := fun vs H Q _ => ∃ F y, Sub F H ∧ DqAll K F vs (a y) ∧ Pre y ∧ ∀ x v F' H', Post y x → NxM [] F H F' H' → Dq K F' v (e x) → Q v H'
/-- the same with the bag ahead -/
def spG (K : PySem.W.Frag) (a : β → List PyData) (Pre : β → Prop) (e : α → PyData) (Post : β → α → Prop) : Sp := fun vs H Q _ => ∃ F pb pc b vs' y, vs = .ref pb :: vs' ∧ Sub F H ∧ F pb = none ∧ F pc = none ∧ pb ≠ pc ∧ BagAt H pb pc (Bag.cells b) b.cur b.mix ∧ DqAll K F vs' (a y) ∧ Pre y ∧
  ∀ x (b' : Bag) v F' H', Post y x → NxM [pb, pc] F H F' H' → BagAt H' pb pc b'.cells b'.cur b'.mix → Dq K F' v (e x) → Q v H'
variable {P : Program} {w : World} {K : PySem.W.Frag} {mg : Str → Option Value} {base : Heap} {f : Addr} {fd : FuncData} {ps : List Str} {k : Nat}
theorem fn_wk {sp sp' : Sp} (F : FnOk P w K mg base CX0 k f fd ps sp) (h : ∀ vs H Q E, sp' vs H Q E → sp vs H Q E) : FnOk P w K mg base CX0 k f fd ps sp' :=
  ⟨fun vs H Q E x => F.len vs H Q E (h vs H Q E x), fun A outer s H args us vs Q E r e0 b v x => F.run A outer s H args us vs Q E r e0 b v (h vs H Q E x)⟩
theorem spG_of {R : Bag → List PyData → PyData → Bag → Prop} {a : β → List PyData} {Pre : β → Prop} {e : α → PyData} {Post : β → α → Prop} (h : ∀ y b, Pre y → ∃ x b', R b (a y) (e x) b' ∧ Post y x) : ∀ vs H Q E, spG K a Pre e Post vs H Q E → spB K R vs H Q E := fun vs H Q E ⟨F, pb, pc, b, vs', y, h1, h2, h3, h4, h5, h6, h7, h8, q⟩ =>
  let ⟨x, b', hR, hP⟩ := h y b h8
  ⟨F, pb, pc, b, vs', a y, e x, b', h1, h2, h3, h4, h5, h6, h7, hR, fun v F' H' n hb o => q x b' v F' H' hP n hb o⟩
theorem spD_of {R : List PyData → PyData → Prop} {a : β → List PyData} {Pre : β → Prop} {e : α → PyData} {Post : β → α → Prop} (h : ∀ y, Pre y → ∃ x, R (a y) (e x) ∧ Post y x) : ∀ vs H Q E, spD K a Pre e Post vs H Q E → spR K R vs H Q E := fun vs H Q E ⟨F, y, h2, h7, h8, q⟩ =>
  let ⟨x, hR, hP⟩ := h y h8
  ⟨F, a y, e x, h2, h7, hR, fun v F' H' n o => q x v F' H' hP n o⟩
/-- what a return has to show -/
def RetD (B : Bg) (Q : VK) (e : α → PyData) (Post : α → Prop) : Prop := ∀ x v F σ H ε L, Post x → Rep B ε L F σ H → Dq B.K F v (e x) → Q v H
def RetG (B : Bg) (pb pc : Addr) (Q : VK) (e : α → PyData) (Post : α → Prop) : Prop := ∀ x (b : Bag) v F σ H ε L, Post x → Rep B ε L F σ H → b.at pb pc ∈ L → Dq B.K F v (e x) → Q v H
section
variable {B : Bg} {ε : Eps} {L La : Own} {te : TE} {D : Ends} {tas tk : TA} {e : α → PyData} {Post : α → Prop} {Q : VK}
theorem x_retD (q : RetD B Q e Post) (h : WV B e te ε L fun x _ => Post x) (hD : D.rt = Q := by rfl) : Ho B (tRet te D) ε L := fun F σ H r => h F σ H r _ fun x L1 v F1 H1 k _ r1 o1 => by
  rw [hD]; exact q x v F1 σ H1 ε L1 k r1 o1
theorem x_retG {pb pc : Addr} (q : RetG B pb pc Q e Post) (h : WV B e te ε L fun x L1 => Post x ∧ ∃ b : Bag, b.at pb pc ∈ L1) (hD : D.rt = Q := by rfl) : Ho B (tRet te D) ε L := fun F σ H r => h F σ H r _ fun x L1 v F1 H1 ⟨k, b, hb⟩ _ r1 o1 => by
  rw [hD]; exact q x b v F1 σ H1 ε L1 k r1 hb o1
theorem x_retG' {pb pc : Addr} (q : RetG B pb pc Q e Post) (h : WR B te ε L fun p L1 => ∃ (ds : List PyData) (L2 : Own) (x : α), p ∉ B.M ∧ L1 = .lst p ds :: L2 ∧ e x = .list ds ∧ Post x ∧ ∃ b : Bag, b.at pb pc ∈ L2) (hD : D.rt = Q := by rfl) : Ho B (tRet te D) ε L := x_retG q (w_frz (κ := fun x L1 => Post x ∧ ∃ b : Bag, b.at pb pc ∈ L1) h) hD
variable {γ : Type} {a : β → List PyData} {Pre : β → Prop} {E : XK} {P2 : β → α → Prop} {κ : α → Own → Prop} {gV : List V → List V → List V}
theorem w_callD (h : WA B tas ε L fun as L1 => ∃ y, as = (a y).map AD.d ∧ Pre y ∧ ∀ x, P2 y x → κ x L1) : WV B e (tCall (spD B.K a Pre e P2) [] E tas) ε L κ := fun F σ H r Q q =>
  h F σ H r _ fun as L1 vs F1 H1 ⟨y, ea, hy, k⟩ s1 r1 o1 => by
    subst ea
    rw [List.append_nil]
    exact ⟨F1, y, r1.sub, ad_data o1, hy, fun x v F' H' hx n o => q x L1 v F' H' (k x hx) (s1.tr n.1) (r1.call n) o⟩
theorem Rep.bagNd {F : Hp} {σ : St} {H : Hp} {pb pc : Addr} {c : List Int} {u m : Int} (r : Rep B ε L F σ H) (hm : MO.bag pb pc c u m ∈ L) : pb ≠ pc := fun ee => by
  have x : ([pb, pc] : List Addr).Nodup := by
    have sl : ([pb, pc] : List Addr).Sublist (fps L) := by
      obtain ⟨l1, l2, e2⟩ := List.append_of_mem hm
      rw [e2]
      unfold fps
      rw [List.flatMap_append, List.flatMap_cons]
      exact (List.sublist_append_left _ _).trans (List.sublist_append_right _ _)
    exact r.nd.sublist sl
  subst ee
  simp at x
/-- a call that draws from the bag -/
theorem w_callG {pb pc : Addr} {κ : α → Own → Prop} (h : WA B tas ε L fun as L1 => ∃ (y : β) (b : Bag) (L2 : Bag → Own), as = .v (.ref pb) :: (a y).map AD.d ∧ (∀ b', Up L1 (b.at pb pc) (b'.at pb pc) (L2 b')) ∧ Pre y ∧ ∀ x b', P2 y x → κ x (L2 b')) : WV B e (tCall (spG B.K a Pre e P2) [] E tas) ε L κ := fun F σ H r Q q =>
  h F σ H r _ fun as L1 vs F1 H1 ⟨y, b, L2, ea, hup, hy, k⟩ s1 r1 o1 => by
    subst ea
    match vs, o1 with
    | v :: vs', o =>
      have ev : v = .ref pb := o.1
      subst ev
      rw [List.append_nil]
      obtain ⟨n0, hk, _⟩ := (hup b).get
      have hm := List.mem_of_getElem? hk
      refine ⟨F1, pb, pc, b, vs', y, rfl, r1.sub, (r1.off pb (mem_fps hm List.mem_cons_self)).1, (r1.off pc (mem_fps hm (List.mem_cons_of_mem _ List.mem_cons_self))).1, r1.bagNd hm, r1.own _ hm, ad_data o.2, hy,
        fun x b' v F' H' hx n hb o => ?_⟩
      obtain ⟨n1, hk1, e1⟩ := (hup b').get
      exact q x (L2 b') v F' H' (k x b' hx) (s1.tr n.1) (e1 ▸ r1.callB hk1 n hb) o
/-- with keywords alone -/
theorem w_callKD (h : WA B tk ε L fun as L1 => ∃ y, (∀ K F zs, AdAll K F as zs → DqAll K F (gV [] zs) (a y)) ∧ Pre y ∧ ∀ x, P2 y x → κ x L1) : WV B e (tCallK (spD B.K a Pre e P2) gV E tNil tk) ε L κ := fun F σ H r Q q =>
  h F σ H r _ fun as L1 vs F1 H1 ⟨y, ea, hy, k⟩ s1 r1 o1 => ⟨F1, y, r1.sub, ea _ _ _ o1, hy, fun x v F' H' hx n o => q x L1 v F' H' (k x hx) (s1.tr n.1) (r1.call n) o⟩
end
/-! ### the rules for defs -/
theorem fn_D {x qual : Str} {st : Stmt} {N : List Str} {a : β → List PyData} {Pre : β → Prop} {e : α → PyData} {Post : β → α → Prop} (Fn : Fun K x qual st f fd) (S : FnScope N ps (defScope st)) (hps : ps.length ≤ N.length) (len : ∀ y, (a y).length = ps.length)
    (hbody : ∀ (cdv : Value) (A : Around) (outer : List Env) (s : Shared) (H : Hp) (E : XK), Room k (A.deeper (PyProof.Rows.envOfC qual (defScope st) s.heap.objs.size f cdv)) →
      ∃ t, PSs (cxOf CX0 P w K mg base N qual (defScope st) f cdv A outer s H E).nox (defBody st) t ∧
        ∀ (B : Bg) (Q : VK) y, B.K = K → Pre y → RetD B Q e (Post y) → Ho B (t { nx := fun _ H' => Q .non H', rt := Q }) (argE (a y) N.length) []) :
    FnOk P w K mg base CX0 (k + 1) f fd ps (spD K a Pre e Post) := by
  refine Fn.ok S (fun vs H Q E h => ?_) fun cdv A outer s H vs Q E hr h => ?_
  · obtain ⟨F, y, _, hd, _⟩ := h
    rw [dpa_len hd]; exact len y
  · obtain ⟨t, ht, hb⟩ := hbody cdv A outer s H E hr
    obtain ⟨F, y, hs, hd, hy, q⟩ := h
    refine ⟨t, ht, hb ⟨K, F, H, []⟩ Q y rfl hy (fun x v F' σ' H' ε L hx r o => q x v F' H' hx r.nx o) F _ H (rep_start hs hd ?_)⟩
    rw [len y]; exact hps
theorem fn_G {x qual : Str} {st : Stmt} {N : List Str} {a : β → List PyData} {Pre : β → Prop} {e : α → PyData} {Post : β → α → Prop} (Fn : Fun K x qual st f fd) (S : FnScope N ps (defScope st)) (hps : ps.length ≤ N.length) (len : ∀ y, (a y).length + 1 = ps.length)
    (hbody : ∀ (cdv : Value) (A : Around) (outer : List Env) (s : Shared) (H : Hp) (E : XK), Room k (A.deeper (PyProof.Rows.envOfC qual (defScope st) s.heap.objs.size f cdv)) →
      ∃ t, PSs (cxOf CX0 P w K mg base N qual (defScope st) f cdv A outer s H E).nox (defBody st) t ∧
        ∀ (B : Bg) (Q : VK) pb pc b y, B.K = K → Pre y → RetG B pb pc Q e (Post y) → Ho B (t { nx := fun _ H' => Q .non H', rt := Q }) (some (.v (.ref pb)) :: argE (a y) (N.length - 1)) [Bag.at b pb pc]) :
    FnOk P w K mg base CX0 (k + 1) f fd ps (spG K a Pre e Post) := by
  refine Fn.ok S (fun vs H Q E h => ?_) fun cdv A outer s H vs Q E hr h => ?_
  · obtain ⟨F, pb, pc, b, vs', y, rfl, _, _, _, _, _, hd, _⟩ := h
    rw [List.length_cons, dpa_len hd]; exact len y
  · obtain ⟨t, ht, hb⟩ := hbody cdv A outer s H E hr
    obtain ⟨F, pb, pc, b, vs', y, rfl, hs, f1, f2, ne, bg, hd, hy, q⟩ := h
    refine ⟨t, ht, hb ⟨K, F, H, [pb, pc]⟩ Q pb pc b y rfl hy (fun x b' v F' σ' H' ε L hx r hm o => q x b' v F' H' hx r.nx (r.bag hm) o) F _ H (rep_startB hs f1 f2 ne bg hd ?_)⟩
    rw [len y]; exact hps
theorem g_D {x qual : Str} {st : Stmt} {N : List Str} {a : β → List PyData} {Pre : β → Prop} {e : α → PyData} {Post : β → α → Prop} (Fn : Fun K x qual st f fd) (S : FnScope N ps (defScope st)) (hps : ps.length ≤ N.length) (len : ∀ y, (a y).length = ps.length)
    (hbody : ∀ (cdv : Value) (A : Around) (outer : List Env) (s : Shared) (H : Hp), Room k (A.deeper (PyProof.Rows.envOfC qual (defScope st) s.heap.objs.size f cdv)) → (A.deeper (PyProof.Rows.envOfC qual (defScope st) s.heap.objs.size f cdv)).guards = some [] →
      ∃ t, PSs (cxOf CX0 P w K mg base N qual (defScope st) f cdv A outer s H E0).nox (defBody st) t ∧
        ∀ (B : Bg) (Q : VK) y, B.K = K → Pre y → RetD B Q e (Post y) → Ho B (t { nx := fun _ H' => Q .non H', rt := Q }) (argE (a y) N.length) []) :
    GOk P w K mg base (k + 1) f fd ps (spD K a Pre e Post) := by
  refine g_ok Fn S (fun vs H Q E h => ?_) fun cdv A outer s H vs Q hr hG h => ?_
  · obtain ⟨F, y, _, hd, _⟩ := h
    rw [dpa_len hd]; exact len y
  · obtain ⟨t, ht, hb⟩ := hbody cdv A outer s H hr hG
    obtain ⟨F, y, hs, hd, hy, q⟩ := h
    refine ⟨t, ht, hb ⟨K, F, H, []⟩ Q y rfl hy (fun x v F' σ' H' ε L hx r o => q x v F' H' hx r.nx o) F _ H (rep_start hs hd ?_)⟩
    rw [len y]; exact hps
theorem g_G {x qual : Str} {st : Stmt} {N : List Str} {a : β → List PyData} {Pre : β → Prop} {e : α → PyData} {Post : β → α → Prop} (Fn : Fun K x qual st f fd) (S : FnScope N ps (defScope st)) (hps : ps.length ≤ N.length) (len : ∀ y, (a y).length + 1 = ps.length)
    (hbody : ∀ (cdv : Value) (A : Around) (outer : List Env) (s : Shared) (H : Hp), Room k (A.deeper (PyProof.Rows.envOfC qual (defScope st) s.heap.objs.size f cdv)) → (A.deeper (PyProof.Rows.envOfC qual (defScope st) s.heap.objs.size f cdv)).guards = some [] →
      ∃ t, PSs (cxOf CX0 P w K mg base N qual (defScope st) f cdv A outer s H E0).nox (defBody st) t ∧
        ∀ (B : Bg) (Q : VK) pb pc b y, B.K = K → Pre y → RetG B pb pc Q e (Post y) → Ho B (t { nx := fun _ H' => Q .non H', rt := Q }) (some (.v (.ref pb)) :: argE (a y) (N.length - 1)) [Bag.at b pb pc]) :
    GOk P w K mg base (k + 1) f fd ps (spG K a Pre e Post) := by
  refine g_ok Fn S (fun vs H Q E h => ?_) fun cdv A outer s H vs Q hr hG h => ?_
  · obtain ⟨F, pb, pc, b, vs', y, rfl, _, _, _, _, _, hd, _⟩ := h
    rw [List.length_cons, dpa_len hd]; exact len y
  · obtain ⟨t, ht, hb⟩ := hbody cdv A outer s H hr hG
    obtain ⟨F, pb, pc, b, vs', y, rfl, hs, f1, f2, ne, bg, hd, hy, q⟩ := h
    refine ⟨t, ht, hb ⟨K, F, H, [pb, pc]⟩ Q pb pc b y rfl hy (fun x b' v F' σ' H' ε L hx r hm o => q x b' v F' H' hx r.nx (r.bag hm) o) F _ H (rep_startB hs f1 f2 ne bg hd ?_)⟩
    rw [len y]; exact hps
end
end Fz

/-! ## FzX -/
set_option Elab.async false
set_option linter.all false
set_option maxRecDepth 100000
set_option maxHeartbeats 2000000
set_option autoImplicit false
/-! FzX: t[::-1] and t[i::-1] of a tuple; a raise that is never reached. -/
namespace Fz
open PySem PySem.Spec PyProof.Rows HT L2
/-- how many items t[lo::-1] has -/
def revN (n : Nat) : Option Int → Nat
  | none => n
  | some v => if v < 0 then (v + (n : Int) + 1).toNat else min (v + 1).toNat n
theorem revN_le (n : Nat) (lo : Option Int) : revN n lo ≤ n := by
  cases lo with
  | none => exact Nat.le_refl _
  | some v =>
    unfold revN
    dsimp only
    split
    · omega
    · exact Nat.min_le_right _ _
theorem adjust_rev (n : Nat) (lo : Option Int) : Builtin.Slice.sliceAdjust lo none (-1) (n : Int) = ((revN n lo : Int) - 1, -1) := by
  have h1 : ((-1 : Int) < 0) := by decide
  unfold Builtin.Slice.sliceAdjust
  simp only [h1, if_true]
  refine Prod.ext ?_ rfl
  cases lo with
  | none => rfl
  | some v =>
    show (if v < 0 then max (v + (n : Int)) (-1) else min v ((n : Int) - 1)) = ((if v < 0 then (v + (n : Int) + 1).toNat else min (v + 1).toNat n : Nat) : Int) - 1
    by_cases hv : v < 0
    · rw [if_pos hv, if_pos hv]; omega
    · rw [if_neg hv, if_neg hv]; omega
theorem places_rev (m : Nat) : Builtin.Slice.slicePlaces ((m : Int) - 1) (-1) (-1) = m := by
  unfold Builtin.Slice.slicePlaces
  have h1 : ¬ ((-1 : Int) > 0) := by decide
  rw [if_neg h1]
  have e : (- -1 : Int) = 1 := by decide
  rw [e, Int.ediv_one]
  split <;> omega
theorem pick_rev (xs : Array Value) (m : Nat) (h : m ≤ xs.size) : ((List.range m).filterMap fun (k : Nat) => xs[((m : Int) - 1 + (k : Int) * -1).toNat]?).toArray = ((xs.toList.take m).reverse).toArray := by
  congr 1
  have e : ((List.range m).filterMap fun (k : Nat) => xs[((m : Int) - 1 + (k : Int) * -1).toNat]?) = (List.range m).map fun k => xs.toList.getD (m - 1 - k) default := by
    have : ∀ l : List Nat, (∀ k ∈ l, k < m) → (l.filterMap fun (k : Nat) => xs[((m : Int) - 1 + (k : Int) * -1).toNat]?) = l.map fun k => xs.toList.getD (m - 1 - k) default := fun l => by
      induction l with
      | nil => exact fun _ => rfl
      | cons a l ih =>
        intro hl
        have ha := hl a List.mem_cons_self
        have e2 : ((m : Int) - 1 + (a : Int) * -1).toNat = m - 1 - a := by omega
        have hlt : m - 1 - a < xs.size := by omega
        rw [List.filterMap_cons, List.map_cons, e2, Array.getElem?_eq_getElem hlt, ih fun k hk => hl k (List.mem_cons_of_mem _ hk)]
        show xs[m - 1 - a] :: _ = _
        congr 1
        rw [List.getD_eq_getElem?_getD, List.getElem?_eq_getElem (by rw [Array.length_toList]; exact hlt)]
        rfl
    exact this _ fun k hk => List.mem_range.mp hk
  rw [e]
  refine List.ext_getElem ?_ fun i h1 h2 => ?_
  · rw [List.length_map, List.length_range, List.length_reverse, List.length_take, Array.length_toList]; omega
  · rw [List.length_map, List.length_range] at h1
    rw [List.getElem_map, List.getElem_range, List.getElem_reverse, List.getElem_take, List.getD_eq_getElem?_getD, List.getElem?_eq_getElem (by rw [Array.length_toList]; omega)]
    simp only [List.length_take, Array.length_toList]
    have : min m xs.size = m := by omega
    simp only [this]
    rfl
section
variable {prog : Program} {w : World} {A : Around} {E : Value → Shared → Prop} {s : Shared}
theorem getItem_tuple_rev {t sl : Addr} {items : Array Value} {vl vs : Value} {lo : Option Int} {Q : Value → Shared → Prop} (ht : IsTup s.heap t items) (hs : s.heap.IsSliceOf sl vl .none vs) (pl : IsPart vl lo) (ps : IsPart vs (some (-1)))
    (h : Q (.ref s.heap.objs.size) { s with heap := s.heap.push { cls := .type "tuple", data := .seq ((items.toList.take (revN items.size lo)).reverse).toArray } })
    (hsz : items.size ≤ sizeLine) : wpAny (model prog w) A (getItem (.ref t) (.ref sl)) Q E s := by
  have htake : sizeOk (.seq ((items.toList.take (revN items.size lo)).reverse).toArray) := by
    show ((items.toList.take (revN items.size lo)).reverse).toArray.size ≤ sizeLine
    rw [List.size_toArray, List.length_reverse, List.length_take, Array.length_toList]
    omega
  obtain ⟨os, hos, hcs, hds⟩ := id hs
  have hTs : s.TypeIs (.ref sl) "slice" := ⟨os, hos, hcs⟩
  unfold getItem
  try with_reducible refine wpAny_holding ?_
  first | refine wpAny_bind (wpAny_pure ?_) | skip
  refine wpAny_bind (wpAny_sequenceKey ht.typeIs (by decide) ?_)
  refine wpAny_bind (wpAny_callSpecial?_slot (name := Str.ofString "__getitem__") ht.typeIs PyProof.Rows.slot_tuple_getitem
    (wpAny_call_entry PyProof.Rows.slot_tuple_getitem ht.typeIs entry_tuple_getitem ?_ (args_tuple_getitem _ _)))
  show wpAny _ _ (Builtin.Tuple.tupleItemsOf (.ref t) >>= _) _ _ s
  refine wpAny_bind (tupleItemsOf_ ht ?_)
  refine wpAny_bind (wpAny_typeOf hTs ?_)
  rw [if_pos (by decide)]
  have happ : ∀ {Q : Int × Int × Nat → Shared → Prop}, Q (((revN items.size lo : Nat) : Int) - 1, -1, revN items.size lo) s → wpAny (model prog w) A.in1 (Builtin.Slice.sliceApplied (.ref sl) (pure (items.size : Int))) Q E s := fun {Q} h => by
    unfold Builtin.Slice.sliceApplied Builtin.Slice.sliceFields
    refine wpAny_bind (wpAny_bind (wpAny_field hos hds (x := vl) rfl (wpAny_bind (wpAny_field hos hds (x := .none) rfl (wpAny_bind (wpAny_field hos hds (x := vs) rfl (wpAny_pure ?_)))))))
    refine wpAny_bind (slicePart_ ps ?_)
    show wpAny _ _ (if ((-1 : Int) == 0) = true then _ else _) _ _ s
    rw [if_neg (by decide)]
    refine wpAny_bind (slicePart_ pl (wpAny_bind (slicePart_none (wpAny_bind (wpAny_pure ?_)))))
    show wpAny _ _ (match Builtin.Slice.sliceAdjust lo none (-1) (items.size : Int) with | (lo, hi) => pure (lo, (-1 : Int), Builtin.Slice.slicePlaces lo hi (-1))) _ _ s
    rw [adjust_rev]
    show wpAny _ _ (pure (((revN items.size lo : Nat) : Int) - 1, (-1 : Int), Builtin.Slice.slicePlaces (((revN items.size lo : Nat) : Int) - 1) (-1) (-1))) _ _ s
    rw [places_rev]
    exact wpAny_pure h
  refine wpAny_bind (wpAny_mono (happ (Q := fun r s' => r = (((revN items.size lo : Nat) : Int) - 1, -1, revN items.size lo) ∧ s' = s) ⟨rfl, rfl⟩) ?_ (fun _ _ e => e))
  rintro r s' ⟨rfl, rfl⟩
  show wpAny _ _ (if ((((revN items.size lo : Nat) : Int) - 1 == 0) && ((-1 : Int) == 1) && (revN items.size lo == items.size)) = true then _ else _) _ _ s'
  have hno : ¬ (((((revN items.size lo : Nat) : Int) - 1 == 0) && ((-1 : Int) == 1) && (revN items.size lo == items.size)) = true) := by
    rw [show ((-1 : Int) == 1) = false from by decide]
    simp
  rw [if_neg hno, pick_rev _ _ (revN_le _ _)]
  first
    | exact wpAny_bind (m := Builtin.Tuple.tupleExact _) (wpAny_newObj_type (wpAny_pure ⟨_, rfl, wpAny_pure h⟩) htake)
    | exact wpAny_bind (m := Builtin.Tuple.tupleExact _) (wpAny_newObj_type (wpAny_bind (wpAny_pure (wpAny_pure ⟨_, rfl, wpAny_pure h⟩))) htake)
    | exact wpAny_bind (wpAny_bind (m := Builtin.Tuple.tupleExact _) (wpAny_newObj_type (wpAny_pure (wpAny_pure ⟨_, rfl, wpAny_pure h⟩)) htake))
    | exact wpAny_bind (wpAny_bind (m := Builtin.Tuple.tupleExact _) (wpAny_newObj_type (wpAny_pure ⟨_, rfl, wpAny_pure h⟩) htake))
end
def tRevT (K : PySem.W.Frag) (te : TE) (to : TO) : TE := fun σ H Q => te σ H fun x H1 => to σ H1 fun lo H2 => ∃ a xs, x = .ref a ∧ SqT K H2 a xs ∧ ∀ p, H2 p = none → Q (.ref p) (upd H2 p (.tup (xs.take (revN xs.length lo)).reverse))
theorem pe_revT {X : Cx} {e : Expr} {lo : Option Expr} {te : TE} {to : TO} {k : Nat} {p1 p2 p3 pos : Pos} (he : PE X e te) (hlo : PO X lo to) {ops : Value → Value → List Value} (hsub : ∀ v w, subscripted (.Slice lo none (some (.UnaryOp .USub (.Constant (.int 1) k p1) p2)) p3) false v w = operate (ops v w) (getItem v w)) : PE X (.Subscript e (.Slice lo none (some (.UnaryOp .USub (.Constant (.int 1) k p1) p2)) p3) pos) (tRevT X.K te to) := by
  refine ⟨fun pins s σ H Q I h => ?_⟩
  refine Subscript_ (thn (he.run pins s σ H _ I h) fun v s1 ⟨x, H1, I1, r1, q1⟩ => ?_)
  have hst : PO X (some (.UnaryOp .USub (.Constant (.int 1) k p1) p2)) (tPart (tUn (rU fun i => .int (-i)) (tC (.int 1)))) := po_some (pe_un un_neg pe_int)
  refine wpAny_Slice (thn (hlo.run pins s1 σ H1 _ I1 q1) fun vl s2 ⟨l, H2, I2, pl, q2⟩ => ?_)
  refine thn (po_none.run pins s2 σ H2 (fun o H3 => o = none ∧ H3 = H2) I2 ⟨rfl, rfl⟩) fun vu s3 ⟨u, H3, I3, pu, eu, e3⟩ => ?_
  subst eu e3
  cases pu
  refine thn (hst.run pins s3 σ H3 (fun o H4 => o = some (-1) ∧ H4 = H3) I3 ⟨1, rfl, -1, rfl, rfl, rfl⟩) fun vs s4 ⟨o, H4, I4, ps, eo, e4⟩ => ?_
  subst eo e4
  obtain ⟨a, xs, ex, hx, q⟩ := q2
  subst ex
  cases r1
  have I5 : Inv X pins σ H4 { s4 with heap := s4.heap.push { cls := .type "slice", data := .fields #[vl, .none, vs] } } := I4.kept (t' := s4.toks) fun b ob q => Heap.get?_push_of_some _ q
  obtain ⟨its, r, ht, hz⟩ := I5.tuple hx
  have hlen : its.toArray.size = xs.length := by rw [List.size_toArray]; exact r.length.symm
  show wpAny (model X.prog X.w) X.A (subscriptTail e (.Slice lo none (some (.UnaryOp .USub (.Constant (.int 1) k p1) p2)) p3) (.ref a) (.ref s4.heap.objs.size)) (EP X pins σ Q) X.xe { s4 with heap := s4.heap.push { cls := .type "slice", data := .fields #[vl, .none, vs] } }
  refine tail_any (ops := ops (.ref a) (.ref s4.heap.objs.size)) ht.typeIs PyProof.Rows.slot_tuple_getitem.lookup ?_ (hsub _ _)
  refine getItem_tuple_rev ht (Heap.IsSliceOf.new _ vl .none vs) pl ps ?_ (by rw [hlen]; exact hz)
  rw [hlen]
  refine ⟨.ref _, _, I5.laid (t' := s4.toks) (o := .tup (xs.take (revN xs.length l)).reverse) (fun b ob q => Heap.get?_push_of_some _ q) (Nat.le_refl _) ?_, rfl, q _ (I5.hok.fresh (Nat.le_refl _))⟩
  exact ⟨by rw [List.length_reverse, List.length_take]; omega, _, (r.take (revN xs.length l)).reverse, IsTup.new _ _⟩
theorem pe_revT0 {X : Cx} {e : Expr} {te : TE} {k : Nat} {p1 p2 p3 pos : Pos} (he : PE X e te) : PE X (.Subscript e (.Slice none none (some (.UnaryOp .USub (.Constant (.int 1) k p1) p2)) p3) pos) (tRevT X.K te tNoPart) := pe_revT he po_none (ops := fun v w => [v, w]) (fun v w => by with_unfolding_all rfl)
theorem ps_dead {X : Cx} {st : Stmt} : PS X st (fun _ _ _ => False) := ⟨fun _ _ _ _ _ _ h => h.elim⟩
section
variable {B : Bg} {ε : Eps} {L La Lb : Own} {te : TE} {to : TO} {lo : Option Int}
theorem ex_revT {ds : List PyData} (h : EX B te ε L (.d (.tuple ds)) La) (h2 : EO B to ε La lo Lb) : EX B (tRevT B.K te to) ε L (.d (.tuple (ds.take (revN ds.length lo)).reverse)) Lb := fun F σ H r Q q =>
  h F σ H r _ fun v F1 H1 s1 r1 o1 => h2 F1 σ H1 r1 _ fun F2 H2 s2 r2 => by
    obtain ⟨p, vs, rfl, g1, g2⟩ := tup_inv (o1.sub s2)
    refine ⟨p, vs, rfl, tq_sub r2.sub g1, fun p' hp => ?_⟩
    have hF := sub_none r2.sub hp
    rw [dpa_len g2]
    exact q _ _ _ ((s1.tr s2).tr (sub_fresh hF)) (r2.grow hp) (.tup upd_same (dpa_sub (sub_fresh hF) (dpa_rev (dpa_take _ g2))))
theorem ex_revT0 {ds : List PyData} (h : EX B te ε L (.d (.tuple ds)) La) : EX B (tRevT B.K te tNoPart) ε L (.d (.tuple ds.reverse)) La := by
  have := ex_revT h (eo_n (ε := ε) (B := B))
  have e : ds.take (revN ds.length none) = ds := List.take_length
  rw [e] at this
  exact this
end
end Fz

/-! ## FzY -/
set_option Elab.async false
set_option linter.all false
set_option maxRecDepth 100000
set_option maxHeartbeats 2000000
set_option autoImplicit false
/-! FzY: comprehensions that draw; chains; extend; lists unpacked. -/
namespace Fz
open PySem L2
section
variable {B : Bg} {ε ε' : Eps} {L L' La Lb Lc : Own} {te ta tb tc tl : TE} {tt tu : TT} {tas tr : TA} {a b x : AD} {D : Ends} {ts tw : TS} {g : TG} {vs : List Nat} {i j : Int}
def eD (d : PyData) : PyData := d
/-- one turn of a comprehension that may draw -/
def CTurnW (B : Bg) (g : TG) (tt : TT) (te : TE) (ε : Eps) (vs : List Nat) (I : Nat → List PyData → Own → Prop) (i : Nat) (d : PyData) : Prop :=
  ∀ acc L', I i acc L' → acc.length < 100000 ∧ ∃ ε2, GT B g (.d d) (wipeE ε vs) ε2 ∧ ∀ m, WT B tt ε2 (L' ++ [m]) fun b L1 => (b = true → WV B eD te ε2 L1 fun e L2 => ∃ L3, L2 = L3 ++ [m] ∧ I (i + 1) (acc ++ [e]) L3) ∧ (b = false → ∃ L3, L1 = L3 ++ [m] ∧ I (i + 1) acc L3)
theorem cturn_goW {F1 : Hp} {σ : St} {I : Nat → List PyData → Own → Prop} {Dl : Addr} {i : Nat} {H : Hp} {d : PyData} {w : V} (hw : ∀ v σ H P, (g v (wipe σ vs) H P ↔ g v (wipe σ vs) H fun σ2 H2 => wipe σ2 vs = wipe σ vs ∧ P σ2 H2))
    (ct : CTurnW B g tt te ε vs I i d) (c : CW B ε vs F1 σ I Dl i H) (hd : ∀ F acc L, Sub F1 F → Rep B (wipeE ε vs) (L ++ [.lst Dl acc]) F (wipe σ vs) H → Dq B.K F w d) :
    g w (wipe σ vs) H fun σ2 H2 => wipe σ2 vs = wipe σ vs ∧ tt σ2 H2 fun b H3 =>
      if b = true then te σ2 H3 fun y H4 => ∃ acc, H4 Dl = some (.lst acc) ∧ acc.length < sizeLine ∧ CW B ε vs F1 σ I Dl (i + 1) (upd H4 Dl (.lst (acc ++ [y]))) else CW B ε vs F1 σ I Dl (i + 1) H3 := by
  obtain ⟨acc, L', F, s, hI, r⟩ := c
  obtain ⟨hz, ε2, hg, h1⟩ := ct acc L' hI
  refine (hw w σ H _).mp (hg _ F _ H w r (hd F acc L' s r) _ fun σ2 r2 => ?_)
  refine h1 _ F σ2 H r2 _ fun b L1 F3 H3 k s3 r3 => ?_
  cases b with
  | true =>
    show te σ2 H3 _
    refine k.1 rfl F3 σ2 H3 r3 _ fun e L2 y F4 H4 k4 s4 r4 o4 => ?_
    obtain ⟨L3, rfl, h5⟩ := k4
    obtain ⟨ws, k1, k2⟩ := r4.own _ (List.mem_append_right _ List.mem_cons_self)
    have hz2 : ws.length < sizeLine := by rw [dpa_len k2]; exact Evl.sz_lt hz
    refine ⟨ws, k1, hz2, acc ++ [e], L3, F4, (s.tr s3).tr s4, h5, ?_⟩
    have r5 : Rep B (wipeE ε vs) (L3 ++ [.lst Dl acc]) F4 (wipe σ vs) H4 := r4.reslot r ((s3).tr s4)
    have r6 := r5.chg (m' := .lst Dl (acc ++ [e])) (H' := upd H4 Dl (.lst (ws ++ [y]))) get_last rfl ⟨_, upd_same, dpa_app k2 (.cons o4 .nil)⟩ fun q o hq e => by
      rw [upd_ne (fun z => hq (by rw [z]; exact List.mem_cons_self))]; exact e
    rw [set_last] at r6
    exact r6
  | false =>
    obtain ⟨L3, rfl, h3⟩ := k.2 rfl
    exact ⟨acc, L3, F3, s.tr s3, h3, r3.reslot r s3⟩
theorem cw_endW {F F1 : Hp} {σ : St} {H1 : Hp} {I : Nat → List PyData → Own → Prop} {Dl : Addr} {n : Nat} {H' : Hp} {Q : VK} {κ : Addr → Own → Prop} (s1 : Sub F F1) (r1 : Rep B ε La F1 σ H1) (hD : H1 Dl = none) (c : CW B ε vs F1 σ I Dl n H')
    (hd : ∀ p acc L', p ∉ B.M → I n acc L' → κ p (.lst p acc :: L')) (q : ∀ p L' F' H', κ p L' → Sub F F' → Rep B ε L' F' σ H' → Q (.ref p) H') : Q (.ref Dl) H' := by
  obtain ⟨acc, L', F', s, hI, r⟩ := c
  exact q Dl _ F' H' (hd Dl acc L' (r1.newM hD) hI) (s1.tr s) (r.reslot r1 s).toHead
theorem wr_lcR1 {j : Nat} {n : Int} {κ : Addr → Own → Prop} (h : EA B tas ε L [.d (.int n)] La) (hn : -(2 ^ 62) ≤ n ∧ n < 2 ^ 62) (I : Nat → List PyData → Own → Prop) (h0 : I 0 [] La) (hj : j ∈ vs)
    (hs : ∀ i : Nat, (i : Int) < n → CTurnW B (gName j) tt te ε vs I i (.int (i : Int))) (hd : ∀ p acc L', p ∉ B.M → I n.toNat acc L' → κ p (.lst p acc :: L')) : WR B (tLc (iRng1 tas) (gName j) tt te vs) ε L κ := fun F σ H r Q q =>
  h F σ H r _ fun ws F1 H1 s1 r1 o1 => by
    match ws, o1 with
    | [v], o =>
      have ev : v = .int n := int_inv o.1
      subst ev
      refine ⟨n, rfl, hn.1, hn.2, fun Dl hD => lc_range (lo := 0) (n := n.toNat) (CW B ε vs F1 σ I Dl) (cw_start r1 hD h0) (fun i H' hi c => ?_) fun H' c => cw_endW s1 r1 hD c hd q⟩
      have e0 : (0 : Int) + (i : Int) = (i : Int) := Int.zero_add _
      rw [e0]
      exact cturn_goW (gw_name hj) (hs i (by omega)) c fun _ _ _ _ _ => .int _
theorem wr_lcR2 {j : Nat} {lo n : Int} {κ : Addr → Own → Prop} (h : EA B tas ε L [.d (.int lo), .d (.int n)] La) (hn : (-(2 ^ 62) ≤ lo ∧ lo < 2 ^ 62) ∧ -(2 ^ 62) ≤ n ∧ n < 2 ^ 62) (I : Nat → List PyData → Own → Prop) (h0 : I 0 [] La) (hj : j ∈ vs)
    (hs : ∀ i : Nat, lo + (i : Int) < n → CTurnW B (gName j) tt te ε vs I i (.int (lo + (i : Int)))) (hd : ∀ p acc L', p ∉ B.M → I (n - lo).toNat acc L' → κ p (.lst p acc :: L')) : WR B (tLc (iRng2 tas) (gName j) tt te vs) ε L κ := fun F σ H r Q q =>
  h F σ H r _ fun ws F1 H1 s1 r1 o1 => by
    match ws, o1 with
    | [v, w], o =>
      have ev : v = .int lo := int_inv o.1
      have ew : w = .int n := int_inv o.2.1
      subst ev ew
      refine ⟨lo, n, rfl, ⟨hn.1.1, hn.1.2, hn.2.1, hn.2.2⟩, fun Dl hD => lc_range (lo := lo) (n := (n - lo).toNat) (CW B ε vs F1 σ I Dl) (cw_start r1 hD h0) (fun i H' hi c => ?_) fun H' c => cw_endW s1 r1 hD c hd q⟩
      exact cturn_goW (gw_name hj) (hs i (by omega)) c fun _ _ _ _ _ => .int _
theorem wr_lcL {xs : List PyData} {κ : Addr → Own → Prop} (h : WV B eD tl ε L fun d L1 => d = .list xs ∧ L1 = La) (I : Nat → List PyData → Own → Prop) (h0 : I 0 [] La)
    (hw : ∀ (v : V) (σ : St) (H : Hp) (P : St → Hp → Prop), (g v (wipe σ vs) H P ↔ g v (wipe σ vs) H fun σ2 H2 => wipe σ2 vs = wipe σ vs ∧ P σ2 H2))
    (hs : ∀ (i : Nat) d, xs[i]? = some d → CTurnW B g tt te ε vs I i d) (hd : ∀ p acc L', p ∉ B.M → I xs.length acc L' → κ p (.lst p acc :: L')) : WR B (tLc (iList B.K tl) g tt te vs) ε L κ := fun F σ H r Q q =>
  h F σ H r _ fun d L1 v F1 H1 k s1 r1 o1 => by
    obtain ⟨rfl, rfl⟩ := k
    have o' : Dq B.K F1 v (.list xs) := o1
    cases o' with
    | @lst p us _ q1 q2 =>
      refine ⟨p, rfl, ⟨us, .inl (.inl (r1.sub _ _ q1))⟩, fun Dl hD => lc_list (xs := us) (CW B ε vs F1 σ I Dl) (cw_start r1 hD h0) (fun i H' _ c => ?_) (fun i x H' hi c => ?_) fun H' c => cw_endW s1 r1 hD (by rw [dpa_len q2] at c; exact c) hd q⟩
      · obtain ⟨acc, L', F', s, hI, r'⟩ := c
        exact .inl (.inl (r'.sub _ _ (s _ _ q1)))
      · have hlt : i < xs.length := by rw [← dpa_len q2]; exact (List.getElem?_eq_some_iff.mp hi).1
        obtain ⟨w, e1, e2⟩ := dpa_get q2 (List.getElem?_eq_getElem hlt)
        have ex : x = w := Option.some.inj (hi.symm.trans e1)
        subst ex
        exact cturn_goW hw (hs i _ (List.getElem?_eq_getElem hlt)) c fun F' _ _ s _ => dp_sub s e2
theorem wr_lcT {xs : List PyData} {κ : Addr → Own → Prop} (h : WV B eD tl ε L fun d L1 => d = .tuple xs ∧ L1 = La) (I : Nat → List PyData → Own → Prop) (h0 : I 0 [] La)
    (hw : ∀ (v : V) (σ : St) (H : Hp) (P : St → Hp → Prop), (g v (wipe σ vs) H P ↔ g v (wipe σ vs) H fun σ2 H2 => wipe σ2 vs = wipe σ vs ∧ P σ2 H2))
    (hs : ∀ (i : Nat) d, xs[i]? = some d → CTurnW B g tt te ε vs I i d) (hd : ∀ p acc L', p ∉ B.M → I xs.length acc L' → κ p (.lst p acc :: L')) : WR B (tLc (iTup B.K tl) g tt te vs) ε L κ := fun F σ H r Q q =>
  h F σ H r _ fun d L1 v F1 H1 k s1 r1 o1 => by
    obtain ⟨rfl, rfl⟩ := k
    have o' : Dq B.K F1 v (.tuple xs) := o1
    cases o' with
    | @tup p us _ q1 q2 =>
      refine ⟨p, rfl, ⟨us, tq_sub r1.sub q1⟩, fun Dl hD => lc_tup (xs := us) (CW B ε vs F1 σ I Dl) (cw_start r1 hD h0) (fun i H' _ c => ?_) (fun i x H' hi c => ?_) fun H' c => cw_endW s1 r1 hD (by rw [dpa_len q2] at c; exact c) hd q⟩
      · obtain ⟨acc, L', F', s, hI, r'⟩ := c
        exact tq_sub r'.sub (s _ _ q1)
      · have hlt : i < xs.length := by rw [← dpa_len q2]; exact (List.getElem?_eq_some_iff.mp hi).1
        obtain ⟨w, e1, e2⟩ := dpa_get q2 (List.getElem?_eq_getElem hlt)
        have ex : x = w := Option.some.inj (hi.symm.trans e1)
        subst ex
        exact cturn_goW hw (hs i _ (List.getElem?_eq_getElem hlt)) c fun F' _ _ s _ => dp_sub s e2
/-! ### chains -/
theorem ex_chain {p q : Int → Int → Bool} {k : Int} (ha : EX B ta ε L (.d (.int i)) La) (hb : EX B tb ε La (.d (.int j)) Lb) (hc : EX B tc ε Lb (.d (.int k)) Lb) : EX B (tChain (rI0 fun i j => .bl (p i j)) (rI0 fun i j => .bl (q i j)) ta tb tc) ε L (.d (.bool (p i j && q j k))) Lb := fun F σ H r Q f =>
  ha F σ H r _ fun v F1 H1 s1 r1 o1 => hb F1 σ H1 r1 _ fun w F2 H2 s2 r2 o2 => ⟨i, j, int_inv o1, int_inv o2, p i j, rfl, by
    have e1 : v = .int i := int_inv o1
    cases c : p i j with
    | true =>
      rw [c] at f
      exact hc F2 σ H2 r2 _ fun u F3 H3 s3 r3 o3 => ⟨j, k, int_inv o2, int_inv o3, f _ F3 H3 ((s1.tr s2).tr s3) r3 (.bl _)⟩
    | false =>
      rw [c] at f
      exact f _ F2 H2 (s1.tr s2) r2 (.bl _)⟩
/-! ### more -/
theorem gt_lst2 {i j : Nat} {d e : PyData} : GT B (gLst B.K 2 (gCons (gName i) (gCons (gName j) gNil))) (.d (.list [d, e])) ε ((ε.set i (some (.d d))).set j (some (.d e))) := fun L F σ H v r o P p => by
  have o' : Dq B.K F v (.list [d, e]) := o
  cases o' with
  | lst h1 h2 =>
  cases h2 with
  | cons a t =>
    cases t with
    | cons b t =>
      cases t
      exact ⟨_, _, rfl, .inl (.inl (r.sub _ _ h1)), rfl, _, _, rfl, _, _, rfl, rfl, p _ ((r.slot (a := .d d) a).slot (a := .d e) b)⟩
theorem gt_lst3 {i j k : Nat} {d e f : PyData} : GT B (gLst B.K 3 (gCons (gName i) (gCons (gName j) (gCons (gName k) gNil)))) (.d (.list [d, e, f])) ε (((ε.set i (some (.d d))).set j (some (.d e))).set k (some (.d f))) := fun L F σ H v r o P p => by
  have o' : Dq B.K F v (.list [d, e, f]) := o
  cases o' with
  | lst h1 h2 =>
  cases h2 with
  | cons a t =>
    cases t with
    | cons b t =>
      cases t with
      | cons c t =>
        cases t
        exact ⟨_, _, rfl, .inl (.inl (r.sub _ _ h1)), rfl, _, _, rfl, _, _, rfl, _, _, rfl, rfl, p _ (((r.slot (a := .d d) a).slot (a := .d e) b).slot (a := .d f) c)⟩
/-- tuple(reversed(xs)) -/
theorem ex_tupRev {ds : List PyData} (h : EX B te ε L x La) (hx : IsL La x ds) : EX B (RT.tTupRev B.K te) ε L (.d (.tuple ds.reverse)) La := fun F σ H r Q q =>
  h F σ H r _ fun v F1 H1 s1 r1 o1 => by
    obtain ⟨p, vs, rfl, g1, g2⟩ := hx.get r1 o1
    refine ⟨p, vs, rfl, g1, fun l hl => ?_⟩
    have hF := sub_none r1.sub hl
    exact q _ _ _ (s1.tr (sub_fresh hF)) (r1.grow hl) (.tup upd_same (dpa_sub (sub_fresh hF) (dpa_rev g2)))
/-- [..] * n -/
theorem en_repL {ds : List PyData} {n : Nat} (ha : EX B ta ε L x La) (hb : EX B tb ε La (.d (.int n)) Lb) (hx : IsM Lb x ds) (hl : ds.length * n ≤ 100000) (hn : n ≤ 100000) : EN B (tOp rRep ta tb) ε L (List.replicate n ds).flatten Lb := en_op ha hb fun F σ H v w rp hv hw Q q => by
  obtain ⟨p, vs, rfl, g1, g2⟩ := hx.get rp hv
  refine ⟨p, n, vs, rfl, int_inv hw, g1, by omega, by omega, Evl.sz_of (by rw [dpa_len g2, Int.toNat_natCast]; exact hl), fun p' hp' => q p' F _ (Sub.rfl' F) (rp.newM hp') (rp.alloc hp' rfl ⟨_, upd_same, ?_⟩)⟩
  rw [Int.toNat_natCast]
  have : ∀ m : Nat, DqAll B.K F (List.replicate m vs).flatten (List.replicate m ds).flatten := fun m => by
    induction m with
    | zero => exact .nil
    | succ m ih => rw [List.replicate_succ, List.replicate_succ, List.flatten_cons, List.flatten_cons]; exact dpa_app g2 ih
  exact this n
/-- xs.extend(ys), ys a list that does not change -/
theorem x_extW {to : TE} {p : Addr} (ho : EX B to ε L (.v (.ref p)) L) (hj : ∃ (j : Nat) (ds' : List PyData), At L j (.lst p ds')) (h : WV B eD te ε L fun d L1 => ∃ es ds L2, d = .list es ∧ Up L1 (.lst p ds) (.lst p (ds ++ es)) L2 ∧ ds.length + es.length ≤ 100000 ∧ Ho B D.nx ε L2) : Ho B (tDrop (tBM B.K "list" rExtend to (tCons te tNil)) D) ε L := fun F σ H r =>
  ho F σ H r _ fun v F1 H1 s1 r1 o1 => by
    have ev : v = .ref p := o1
    subst ev
    obtain ⟨j, ds', hj⟩ := hj
    obtain ⟨us, u1, _⟩ := r1.own _ (List.mem_of_getElem? hj.get)
    refine ⟨tyv u1, h F1 σ H1 r1 _ fun d L1 w F2 H2 ⟨es, ds, L2, ed, hup, hz, k⟩ s2 r2 o2 => ?_⟩
    subst ed
    obtain ⟨n, hk, rfl⟩ := hup.get
    obtain ⟨vs, g1, g2⟩ := r2.own _ (List.mem_of_getElem? hk)
    have o' : Dq B.K F2 w (.list es) := o2
    cases o' with
    | @lst b us' _ q1 q2 =>
      exact ⟨p, b, vs, us', rfl, rfl, g1, r2.sub _ _ q1, Evl.sz_of (by rw [dpa_len g2, dpa_len q2]; exact hz), k F2 σ _ (r2.setL hk (dpa_app g2 q2))⟩
end
end Fz

/-! ## K80M -/
/-! K80M: the plain mathematics of the cards: products, binomials, counts of falls, bounds. -/
set_option autoImplicit false
set_option linter.all false
namespace K80

/-! ### sizes -/
def Bd (k : Nat) (x : Int) : Prop := x.natAbs < 2 ^ k
theorem Bd.mono {k l : Nat} {x : Int} (h : Bd k x) (e : k ≤ l) : Bd l x := Nat.lt_of_lt_of_le h (Nat.pow_le_pow_right (by decide) e)
theorem Bd.mul {k l : Nat} {x y : Int} (h : Bd k x) (h2 : Bd l y) : Bd (k + l) (x * y) := by
  unfold Bd at *
  rw [Int.natAbs_mul, Nat.pow_add]
  exact Nat.mul_lt_mul'' h h2
theorem Bd.add {k : Nat} {x y : Int} (h : Bd k x) (h2 : Bd k y) : Bd (k + 1) (x + y) := by
  unfold Bd at *
  have := Int.natAbs_add_le x y
  rw [Nat.pow_succ]
  omega
theorem Bd.sub {k : Nat} {x y : Int} (h : Bd k x) (h2 : Bd k y) : Bd (k + 1) (x - y) := by
  unfold Bd at *
  rw [Nat.pow_succ]
  omega
theorem Bd.neg {k : Nat} {x : Int} (h : Bd k x) : Bd k (-x) := by unfold Bd at *; rw [Int.natAbs_neg]; exact h
theorem Bd.abs {k : Nat} {x : Int} (h : Bd k x) : Bd k (x.natAbs : Int) := by unfold Bd at *; rw [Int.natAbs_natCast]; exact h
theorem Bd.div {k : Nat} {x y : Int} (h : Bd k x) : Bd k (x / y) := by
  unfold Bd at *
  exact Nat.lt_of_le_of_lt (Int.natAbs_ediv_le_natAbs x y) h
theorem Bd.of {k : Nat} {x : Int} {n : Nat} (h0 : -(n : Int) < x) (h : x < n) (hn : n ≤ 2 ^ k) : Bd k x := by unfold Bd; omega
theorem Bd.le {k : Nat} {x y : Int} (h : Bd k y) (h0 : 0 ≤ x) (hx : x ≤ y) : Bd k x := by unfold Bd at *; omega
theorem Bd.pow {k : Nat} {x : Int} (h : Bd k x) : ∀ n : Nat, Bd (k * n + 1) (x ^ n)
  | 0 => by unfold Bd; simp
  | n + 1 => by
    rw [Int.pow_succ]
    have := (Bd.pow h n).mul h
    exact this.mono (by rw [Nat.mul_succ]; omega)
theorem bd_zero (k : Nat) : Bd k 0 := by unfold Bd; exact Nat.two_pow_pos k
theorem bd_one (k : Nat) : Bd (k + 1) 1 := by unfold Bd; have := Nat.pow_le_pow_right (show 0 < 2 by decide) (show 1 ≤ k + 1 by omega); have e : (1 : Int).natAbs = 1 := rfl; rw [e]; omega

/-! ### factorials, rising products -/
def fac : Nat → Nat
  | 0 => 1
  | n + 1 => fac n * (n + 1)
theorem fac_succ (n : Nat) : fac (n + 1) = fac n * (n + 1) := rfl
theorem fac_pos : ∀ n, 0 < fac n
  | 0 => Nat.one_pos
  | n + 1 => Nat.mul_pos (fac_pos n) (Nat.succ_pos n)
theorem fac_bd : ∀ n : Nat, n ≤ 63 → Bd (6 * n + 1) (fac n : Int)
  | 0, _ => by unfold Bd fac; decide
  | n + 1, h => by
    have e : (fac (n + 1) : Int) = (fac n : Int) * ((n + 1 : Nat) : Int) := by rw [fac_succ, Int.natCast_mul]
    rw [e]
    have := (fac_bd n (by omega)).mul (show Bd 6 ((n + 1 : Nat) : Int) by unfold Bd; rw [Int.natAbs_natCast]; omega)
    exact this.mono (by omega)
def prodF (a : Int) : Nat → Int
  | 0 => 1
  | n + 1 => prodF a n * (a + n)
theorem prodF_bd {k : Nat} {a : Int} (h : ∀ i : Nat, i < 64 → Bd k (a + i)) : ∀ n : Nat, n ≤ 64 → Bd (k * n + 1) (prodF a n)
  | 0, _ => by unfold Bd prodF; simp
  | n + 1, hn => by
    unfold prodF
    exact ((prodF_bd h n (by omega)).mul (h n (by omega))).mono (by rw [Nat.mul_succ]; omega)
/-- how often an order comes: n cards, d falls, t piles -/
def dealtBy (t : Int) (n : Nat) (d : Int) : Int := prodF (t - d) n / (fac n : Int)
/-- binomials -/
def ch : Nat → Nat → Nat
  | _, 0 => 1
  | 0, _ + 1 => 0
  | n + 1, k + 1 => ch n k + ch n (k + 1)
theorem ch_zero : ∀ {n k : Nat}, n < k → ch n k = 0
  | _, 0, h => absurd h (Nat.not_lt_zero _)
  | 0, _ + 1, _ => rfl
  | n + 1, k + 1, h => by unfold ch; rw [ch_zero (by omega), ch_zero (by omega)]
theorem ch_n0 (n : Nat) : ch n 0 = 1 := by cases n <;> rfl
theorem ch_succ (n k : Nat) : ch (n + 1) (k + 1) = ch n k + ch n (k + 1) := by rw [ch]
/-- (k + 1) * C(n + 1, k + 1) = (n + 1) * C(n, k) -/
theorem ch_absorb : ∀ n k : Nat, ch (n + 1) (k + 1) * (k + 1) = ch n k * (n + 1)
  | 0, 0 => rfl
  | 0, k + 1 => by rw [ch_zero (show 0 + 1 < k + 1 + 1 by omega), ch_zero (show 0 < k + 1 by omega), Nat.zero_mul, Nat.zero_mul]
  | n + 1, 0 => by
    have := ch_absorb n 0
    rw [ch_n0] at this ⊢
    rw [ch_succ, ch_n0]
    have e : ch (n + 1) (0 + 1) * (0 + 1) = ch (n + 1) (0 + 1) := Nat.mul_one _
    rw [e] at this
    have e2 : (1 + ch (n + 1) (0 + 1)) * (0 + 1) = 1 + ch (n + 1) (0 + 1) := Nat.mul_one _
    omega
  | n + 1, k + 1 => by
    have h1 := ch_absorb n k
    have h2 := ch_absorb n (k + 1)
    rw [ch_succ (n + 1) (k + 1), Nat.add_mul]
    have e1 : ch (n + 1) (k + 1) * (k + 1 + 1) = ch (n + 1) (k + 1) * (k + 1) + ch (n + 1) (k + 1) := Nat.mul_succ _ _
    rw [e1, h1, h2]
    have e2 : ch (n + 1) (k + 1) = ch n k + ch n (k + 1) := ch_succ n k
    rw [e2]
    have e3 : (ch n k + ch n (k + 1)) * (n + 1 + 1) = (ch n k + ch n (k + 1)) * (n + 1) + (ch n k + ch n (k + 1)) := Nat.mul_succ _ _
    rw [e3, Nat.add_mul]
    omega
/-- (n + 1 - k) * C(n + 1, k) = (n + 1) * C(n, k) -/
theorem ch_left : ∀ n k : Nat, k ≤ n + 1 → ch (n + 1) k * (n + 1 - k) = ch n k * (n + 1)
  | n, 0, _ => by rw [ch_n0, ch_n0]; rfl
  | n, k + 1, h => by
    have h1 := ch_absorb n k
    have h3 : ch (n + 1) (k + 1) * (n + 1 - (k + 1)) + ch (n + 1) (k + 1) * (k + 1) = ch (n + 1) (k + 1) * (n + 1) := by
      rw [← Nat.mul_add]
      congr 1
      omega
    have h4 : ch (n + 1) (k + 1) * (n + 1) = ch n k * (n + 1) + ch n (k + 1) * (n + 1) := by rw [ch_succ, Nat.add_mul]
    omega
/-- for a from 1 on the rising product is fac times a binomial -/
theorem prodF_ch (a : Nat) : ∀ n : Nat, prodF ((a : Int) + 1) n = ((ch (a + n) n * fac n : Nat) : Int)
  | 0 => by unfold prodF; rw [ch_n0]; rfl
  | n + 1 => by
    unfold prodF
    rw [prodF_ch a n]
    have h := ch_absorb (a + n) n
    have e : (a : Int) + 1 + (n : Int) = ((a + n + 1 : Nat) : Int) := by omega
    rw [e, ← Int.natCast_mul]
    congr 1
    rw [fac_succ]
    have e2 : a + (n + 1) = a + n + 1 := rfl
    rw [e2]
    calc ch (a + n) n * fac n * (a + n + 1) = fac n * (ch (a + n) n * (a + n + 1)) := by rw [Nat.mul_comm (ch _ _) (fac n), Nat.mul_assoc]
      _ = fac n * (ch (a + n + 1) (n + 1) * (n + 1)) := by rw [h]
      _ = ch (a + n + 1) (n + 1) * (fac n * (n + 1)) := by rw [← Nat.mul_assoc, Nat.mul_comm (fac n), Nat.mul_assoc]
theorem prodF_zero {a : Int} : ∀ {n : Nat}, -(n : Int) < a → a ≤ 0 → prodF a n = 0
  | 0, h, h2 => by omega
  | n + 1, h, h2 => by
    unfold prodF
    by_cases e : a + n = 0
    · rw [e, Int.mul_zero]
    · rw [prodF_zero (n := n) (by omega) h2, Int.zero_mul]
theorem dealtBy_ch {t : Int} {n : Nat} {d : Int} {a : Nat} (h : t - d = (a : Int) + 1) : dealtBy t n d = (ch (a + n) n : Int) := by
  unfold dealtBy
  rw [h, prodF_ch, Int.natCast_mul]
  exact Int.mul_ediv_cancel _ (by have := fac_pos n; omega)
theorem dealtBy_zero {t : Int} {n : Nat} {d : Int} (h : -(n : Int) < t - d) (h2 : t - d ≤ 0) : dealtBy t n d = 0 := by
  unfold dealtBy
  rw [prodF_zero h h2, Int.zero_ediv]
/-- the law's own way to reckon it -/
def topF (a : Int) : Nat → Int
  | 0 => 1
  | i + 1 => topF a i * (if 0 > a + i then 0 else a + i) / ((i : Int) + 1)
theorem topF_ch (a : Nat) : ∀ n : Nat, topF ((a : Int) + 1) n = (ch (a + n) n : Int)
  | 0 => by unfold topF; rw [ch_n0]; rfl
  | n + 1 => by
    unfold topF
    rw [topF_ch a n, if_neg (by omega)]
    have h := ch_absorb (a + n) n
    have e : (ch (a + n) n : Int) * ((a : Int) + 1 + (n : Int)) = (ch (a + (n + 1)) (n + 1) : Int) * ((n : Int) + 1) := by
      have e1 : (a : Int) + 1 + (n : Int) = ((a + n + 1 : Nat) : Int) := by omega
      have e2 : (n : Int) + 1 = ((n + 1 : Nat) : Int) := by omega
      rw [e1, e2, ← Int.natCast_mul, ← Int.natCast_mul]
      congr 1
      exact h.symm
    rw [e]
    exact Int.mul_ediv_cancel _ (by omega)
theorem topF_zero {a : Int} (h : a ≤ 0) : ∀ n : Nat, topF a (n + 1) = 0
  | 0 => by
    unfold topF topF
    have e : (if (0 : Int) > a + ((0 : Nat) : Int) then (0 : Int) else a + ((0 : Nat) : Int)) = 0 := by split <;> omega
    rw [e]; rfl
  | n + 1 => by unfold topF; rw [topF_zero h n, Int.zero_mul, Int.zero_ediv]
theorem topF_dealt {t d : Int} {n : Nat} (h : n = 0 ∨ -(n : Int) < t - d) : topF (t - d) n = dealtBy t n d := by
  by_cases hp : t - d ≤ 0
  · cases n with
    | zero => unfold dealtBy topF prodF fac; rfl
    | succ n => rw [topF_zero hp, dealtBy_zero (h.resolve_left (by omega)) hp]
  · obtain ⟨a, ha⟩ : ∃ a : Nat, t - d = (a : Int) + 1 := ⟨(t - d - 1).toNat, by omega⟩
    rw [dealtBy_ch ha, ha, topF_ch]
/-- behind each other numbers of falls: the law's other way -/
theorem step_dealt {t : Int} {n d : Nat} (hn : 0 < n) (hd : d + 1 ≤ n) (ht : 0 < t) :
    dealtBy t n d * (t - 1 - d) / (if 1 < t - 1 - d + n then t - 1 - d + n else 1) = dealtBy t n ((d : Int) + 1) := by
  by_cases h0 : t - 1 - d < 0
  · rw [dealtBy_zero (by omega) (by omega), dealtBy_zero (by omega) (by omega), Int.zero_mul, Int.zero_ediv]
  · obtain ⟨a, ha⟩ : ∃ a : Nat, t - 1 - d = (a : Int) := ⟨(t - 1 - d).toNat, by omega⟩
    have e1 : t - d = (a : Int) + 1 := by omega
    rw [dealtBy_ch e1, ha]
    have em : (if 1 < (a : Int) + n then (a : Int) + n else 1) = ((a + n : Nat) : Int) := by split <;> omega
    rw [em]
    cases a with
    | zero =>
      rw [dealtBy_zero (by omega) (by omega)]
      simp
    | succ a =>
      rw [dealtBy_ch (a := a) (by omega)]
      have h := ch_left (a + n) n (by omega)
      have e2 : a + 1 + n = a + n + 1 := by omega
      have e3 : a + n + 1 - n = a + 1 := by omega
      rw [e3] at h
      rw [e2]
      have e4 : (ch (a + n + 1) n : Int) * ((a + 1 : Nat) : Int) = (ch (a + n) n : Int) * ((a + n + 1 : Nat) : Int) := by
        rw [← Int.natCast_mul, ← Int.natCast_mul, h]
      rw [e4]
      exact Int.mul_ediv_cancel _ (by omega)
end K80

/-! ## FzE -/
set_option Elab.async false
set_option linter.all false
set_option maxRecDepth 100000
set_option maxHeartbeats 2000000
set_option autoImplicit false
/-! FzE: data that can be shown and told apart. -/
namespace Fz
open PySem L2 K80
def Sh (d : PyData) : Prop := d.showable = true ∧ d.hasDict = false ∧ d.depth ≤ 64 ∧ d.shown.length ≤ sizeLine
def SameOk (d : PyData) : Prop := Sh d ∧ SeqAt.shaped d = true ∧ PyData.eqv d d = true
/-- data of so great a depth, so many leaves -/
structure Nice (k m : Nat) (d : PyData) : Prop where
  sh : d.showable = true
  nd : d.hasDict = false
  dp : d.depth ≤ k
  lf : d.leavesShort 700 = true
  bk : d.bulk ≤ m
  ly : d.canLay0 = true
structure NiceL (k m : Nat) (ds : List PyData) : Prop where
  sh : PyData.showableAll ds = true
  nd : PyData.hasDictAll ds = false
  dp : PyData.depthAll ds ≤ k
  lf : PyData.leavesShortAll 700 ds = true
  bk : PyData.bulkAll ds ≤ m
  ly : PyData.canLayAll0 ds = true
theorem niceL_nil {k m : Nat} : NiceL k m [] := ⟨rfl, rfl, Nat.zero_le _, rfl, Nat.zero_le _, rfl⟩
theorem niceL_cons {k m n : Nat} {d : PyData} {ds : List PyData} (h : Nice k m d) (h2 : NiceL k n ds) : NiceL k (m + 1 + n) (d :: ds) := by
  refine ⟨?_, ?_, ?_, ?_, ?_, ?_⟩
  · show (d.showable && PyData.showableAll ds) = true
    rw [h.sh, h2.sh]; rfl
  · show (d.hasDict || PyData.hasDictAll ds) = false
    rw [h.nd, h2.nd]; rfl
  · show max d.depth (PyData.depthAll ds) ≤ k
    exact Nat.max_le.mpr ⟨h.dp, h2.dp⟩
  · show (d.leavesShort 700 && PyData.leavesShortAll 700 ds) = true
    rw [h.lf, h2.lf]; rfl
  · show d.bulk + 1 + PyData.bulkAll ds ≤ m + 1 + n
    have := h.bk; have := h2.bk; omega
  · show (d.canLay0 && PyData.canLayAll0 ds) = true
    rw [h.ly, h2.ly]; rfl
theorem niceL_all {k m : Nat} : ∀ {ds : List PyData}, (∀ d ∈ ds, Nice k m d) → NiceL k (ds.length * (m + 1)) ds
  | [], _ => niceL_nil
  | d :: ds, h => by
    have := niceL_cons (h d List.mem_cons_self) (niceL_all fun x hx => h x (List.mem_cons_of_mem _ hx))
    rw [List.length_cons, Nat.succ_mul, Nat.add_comm]
    exact this
theorem NiceL.mono {k k' m m' : Nat} {ds : List PyData} (h : NiceL k m ds) (hk : k ≤ k') (hm : m ≤ m') : NiceL k' m' ds := ⟨h.sh, h.nd, Nat.le_trans h.dp hk, h.lf, Nat.le_trans h.bk hm, h.ly⟩
theorem Nice.mono {k k' m m' : Nat} {d : PyData} (h : Nice k m d) (hk : k ≤ k') (hm : m ≤ m') : Nice k' m' d := ⟨h.sh, h.nd, Nat.le_trans h.dp hk, h.lf, Nat.le_trans h.bk hm, h.ly⟩
theorem nice_tup {k m : Nat} {ds : List PyData} (h : NiceL k m ds) : Nice (k + 1) m (.tuple ds) := ⟨h.sh, h.nd, Nat.succ_le_succ h.dp, h.lf, h.bk, h.ly⟩
theorem nice_lst {k m : Nat} {ds : List PyData} (h : NiceL k m ds) : Nice (k + 1) m (.list ds) := ⟨h.sh, h.nd, Nat.succ_le_succ h.dp, h.lf, h.bk, h.ly⟩
theorem nice_eT {α : Type} {e : α → PyData} {k m n : Nat} {xs : List α} (h : ∀ x ∈ xs, Nice k m (e x)) (hn : xs.length ≤ n) : Nice (k + 1) (n * (m + 1)) (eT e xs) := by
  refine nice_tup ((niceL_all (k := k) (m := m) (ds := xs.map e) fun d hd => ?_).mono (Nat.le_refl _) (by rw [List.length_map]; exact Nat.mul_le_mul_right _ hn))
  obtain ⟨x, hx, rfl⟩ := List.mem_map.mp hd
  exact h x hx
theorem nice_eL {α : Type} {e : α → PyData} {k m n : Nat} {xs : List α} (h : ∀ x ∈ xs, Nice k m (e x)) (hn : xs.length ≤ n) : Nice (k + 1) (n * (m + 1)) (eL e xs) := by
  refine nice_lst ((niceL_all (k := k) (m := m) (ds := xs.map e) fun d hd => ?_).mono (Nat.le_refl _) (by rw [List.length_map]; exact Nat.mul_le_mul_right _ hn))
  obtain ⟨x, hx, rfl⟩ := List.mem_map.mp hd
  exact h x hx
theorem nice_bool (b : Bool) {k m : Nat} : Nice k m (.bool b) := ⟨rfl, rfl, Nat.zero_le _, rfl, Nat.zero_le _, rfl⟩
theorem nice_none {k m : Nat} : Nice k m .none := ⟨rfl, rfl, Nat.zero_le _, rfl, Nat.zero_le _, rfl⟩
theorem int_short {i : Int} (h : Bd 1920 i) : (PyData.int i).shown.length ≤ 700 := by
  have big : (2 : Nat) ^ 1920 ≤ 10 ^ 600 := by decide +kernel
  have nat : ∀ m : Nat, m < 2 ^ 1920 → (Str.ofString (toString (m : Int))).length ≤ 600 := fun m hm => by
    refine PyProof.Rows.toString_length_le (by omega) (by decide) ?_
    have : (m : Int) < ((10 ^ 600 : Nat) : Int) := by
      have := Nat.lt_of_lt_of_le hm big
      omega
    rw [Int.natCast_pow] at this
    exact this
  rw [PyData.shown_int]
  cases i with
  | ofNat m => exact Nat.le_trans (nat m h) (by decide)
  | negSucc m =>
    have h1 := nat (m + 1) h
    have e : toString (Int.negSucc m) = "-" ++ toString ((m + 1 : Nat) : Int) := rfl
    rw [PyProof.Rows.ofString_length] at h1
    show (Str.ofString (toString (Int.negSucc m))).length ≤ 700
    rw [PyProof.Rows.ofString_length, e, String.toList_append, List.length_append]
    have e2 : ("-" : String).toList.length = 1 := rfl
    omega
theorem nice_int {i : Int} {k m : Nat} (h : Bd 1920 i) : Nice k m (.int i) := by
  refine ⟨?_, rfl, Nat.zero_le _, decide_eq_true (int_short h), Nat.zero_le _, rfl⟩
  show decide (i.natAbs.log2 < 1920) = true
  refine decide_eq_true ?_
  by_cases c : i.natAbs = 0
  · rw [c]; decide
  · exact (Nat.log2_lt c).mpr h
theorem nice_ints {l : List Int} {n : Nat} (h : ∀ x ∈ l, Bd 1920 x) (hn : l.length ≤ n) : Nice 1 n (.tuple (l.map PyData.int)) := by
  have := nice_eT (e := PyData.int) (k := 0) (m := 0) (xs := l) (fun x hx => nice_int (h x hx)) hn
  rw [Nat.mul_one] at this
  exact this
theorem Nice.show {k m : Nat} {d : PyData} (h : Nice k m d) (hk : k ≤ 64) (hm : m ≤ 20000) : Sh d := by
  refine ⟨h.sh, h.nd, Nat.le_trans h.dp hk, ?_⟩
  have := PyData.shown_le_bulk 700 (by decide) d h.lf
  have h2 := h.bk
  have : (700 + 2) * d.bulk ≤ 702 * 20000 := Nat.mul_le_mul_left _ (Nat.le_trans h2 hm)
  rw [sizeLine_eq]
  omega
theorem Nice.shp {k m : Nat} {d : PyData} (h : Nice k m d) (hk : k ≤ 64) : SeqAt.shaped d = true := by
  unfold SeqAt.shaped
  rw [h.ly, decide_eq_true (Nat.le_trans h.dp hk)]; rfl
theorem Nice.same {k m : Nat} {d : PyData} (h : Nice k m d) (hk : k ≤ 64) (hm : m ≤ 20000) : SameOk d := ⟨h.show hk hm, h.shp hk, SeqAt.eqv_refl d h.ly⟩
section
variable {B : Bg} {ε : Eps} {L La : Own} {te : TE}
theorem ex_rep {d : PyData} (s : Sh d) (h : EX B te ε L (.d d) La) : EX B (tCB (rReprD B.K) (tCons te tNil)) ε L (.d (.str d.shown)) La := ex_repr h s.1 s.2.1 s.2.2.1 s.2.2.2
end
/-! ### encoders that tell apart -/
/-- equal data, equal things -/
def Eq' {α : Type} [DecidableEq α] (e : α → PyData) : Prop := ∀ x y, PyData.eqv (e x) (e y) = decide (x = y)
theorem eq_int : Eq' PyData.int := fun a b => by
  show (a == b) = decide (a = b)
  by_cases h : a = b
  · subst h; simp
  · rw [decide_eq_false h, beq_eq_false_iff_ne.mpr h]
theorem eq_bool : Eq' PyData.bool := fun a b => by cases a <;> cases b <;> rfl
theorem eqv_all {α : Type} [DecidableEq α] {e : α → PyData} (h : Eq' e) : ∀ a b : List α, PyData.eqvAll (a.map e) (b.map e) = decide (a = b)
  | [], [] => by simp [PyData.eqvAll]
  | [], _ :: _ => by simp [PyData.eqvAll]
  | _ :: _, [] => by simp [PyData.eqvAll]
  | x :: a, y :: b => by
    show (PyData.eqv (e x) (e y) && PyData.eqvAll (a.map e) (b.map e)) = _
    rw [h, eqv_all h a b]
    by_cases h1 : x = y
    · subst h1
      by_cases h2 : a = b
      · subst h2; simp
      · simp [h2]
    · simp [h1]
theorem eq_eT {α : Type} [DecidableEq α] {e : α → PyData} (h : Eq' e) : Eq' (eT e) := fun a b => eqv_all h a b
theorem eq_eL {α : Type} [DecidableEq α] {e : α → PyData} (h : Eq' e) : Eq' (eL e) := fun a b => eqv_all h a b
theorem eq_eP {α β : Type} [DecidableEq α] [DecidableEq β] {e : α → PyData} {f : β → PyData} (h : Eq' e) (h2 : Eq' f) : Eq' (eP e f) := fun a b => by
  show (PyData.eqv (e a.1) (e b.1) && (PyData.eqv (f a.2) (f b.2) && true)) = _
  rw [h, h2, Bool.and_true]
  obtain ⟨a1, a2⟩ := a
  obtain ⟨b1, b2⟩ := b
  by_cases h1 : a1 = b1
  · subst h1
    by_cases h3 : a2 = b2
    · subst h3; simp
    · simp [h3]
  · simp [h1]
end Fz

/-! ## FzG -/
set_option Elab.async false
set_option linter.all false
set_option maxRecDepth 100000
set_option maxHeartbeats 2000000
set_option autoImplicit false
/-! FzG: draws from the bag, known by their bounds. -/
namespace Fz
open PySem L2 K80
abbrev S_draw (K : PySem.W.Frag) : Sp := spG K (fun n : Int => [.int n]) (fun n => 0 < n ∧ n < 2 ^ 200) PyData.int (fun n x => 0 ≤ x ∧ x < n)
abbrev S_pick (K : PySem.W.Frag) : Sp := spG K (fun xs : List PyData => [.list xs]) (fun xs => xs ≠ [] ∧ xs.length ≤ 100000) eD (fun xs d => d ∈ xs)
theorem small_n {n : Int} (h0 : 0 < n) (h : n < 2 ^ 200) : n.natAbs < 2 ^ 8000 := by
  have h1 : n.natAbs < 2 ^ 200 := by
    have e : ((2 : Int) ^ 200) = ((2 ^ 200 : Nat) : Int) := by decide
    rw [e] at h
    omega
  exact Nat.lt_of_lt_of_le h1 (Nat.pow_le_pow_right (by decide) (by decide))
section
variable {P : Program} {w : World} {K : PySem.W.Frag} {mg : Str → Option Value} {base : Heap} {f : Addr} {fd : FuncData} {ps : List Str} {k : Nat}
theorem draw_wk (h : FnOk P w K mg base CX0 k f fd ps (spB K R_draw)) : FnOk P w K mg base CX0 k f fd ps (S_draw K) :=
  fn_wk h (spG_of fun n b ⟨h0, h1⟩ => ⟨drawV b n, drawB b n, ⟨n, h0, small_n h0 h1, rfl, rfl, rfl⟩, drawV_ok b h0⟩)
theorem pick_wk (h : FnOk P w K mg base CX0 k f fd ps (spB K R_pick)) : FnOk P w K mg base CX0 k f fd ps (S_pick K) :=
  fn_wk h (spG_of fun xs b ⟨h0, h1⟩ => by
    have hpos := List.length_pos_iff.mpr h0
    have hv := drawV_ok b (show (0 : Int) < (xs.length : Int) by omega)
    have hlt : (drawV b xs.length).toNat < xs.length := by omega
    refine ⟨xs.getD (drawV b xs.length).toNat .none, drawB b xs.length, ⟨xs, h0, h1, rfl, rfl, rfl⟩, ?_⟩
    rw [List.getD_eq_getElem?_getD, List.getElem?_eq_getElem hlt]
    exact List.getElem_mem hlt)
end
section
variable {B : Bg} {ε : Eps} {L La : Own} {tas : TA} {E : XK} {pb pc : Addr} {α : Type} {e : α → PyData}
theorem w_draw {κ : Int → Own → Prop} (h : WA B tas ε L fun as L1 => ∃ (n : Int) (b : Bag) (L2 : Bag → Own), as = [.v (.ref pb), .d (.int n)] ∧ (∀ b', Up L1 (b.at pb pc) (b'.at pb pc) (L2 b')) ∧ 0 < n ∧ n < 2 ^ 200 ∧ ∀ x b', 0 ≤ x → x < n → κ x (L2 b')) : WV B PyData.int (tCall (S_draw B.K) [] E tas) ε L κ :=
  w_callG (pb := pb) (pc := pc) fun F σ H r Q q => h F σ H r Q fun as L' vs F' H' ⟨n, b, L2, ea, hup, h0, h1, k⟩ => q as L' vs F' H' ⟨n, b, L2, ea, hup, ⟨h0, h1⟩, fun x b' hx => k x b' hx.1 hx.2⟩
/-- draw(bag, n), n at hand -/
theorem w_drw {κ : Int → Own → Prop} {i : Nat} {te : TE} {n : Int} {b : Bag} {L2 : Bag → Own} (hb : ε[i]? = some (some (.v (.ref pb)))) (hn : EX B te ε L (.d (.int n)) L) (hup : ∀ b', Up L (b.at pb pc) (b'.at pb pc) (L2 b')) (h0 : 0 < n ∧ n < 2 ^ 200) (k : ∀ x b', 0 ≤ x → x < n → κ x (L2 b')) : WV B PyData.int (tCall (S_draw B.K) [] E (tCons (tVar i) (tCons te tNil))) ε L κ :=
  w_draw (wa_x (ex_v hb) (wa_x hn (wa_nil ⟨n, b, L2, rfl, hup, h0.1, h0.2, k⟩)))
theorem w_pick {κ : α → Own → Prop} (h : WA B tas ε L fun as L1 => ∃ (xs : List α) (b : Bag) (L2 : Bag → Own), as = [.v (.ref pb), .d (eL e xs)] ∧ (∀ b', Up L1 (b.at pb pc) (b'.at pb pc) (L2 b')) ∧ xs ≠ [] ∧ xs.length ≤ 100000 ∧ ∀ x b', x ∈ xs → κ x (L2 b')) : WV B e (tCall (S_pick B.K) [] E tas) ε L κ :=
  wv_as (e := eD) (w_callG (pb := pb) (pc := pc) fun F σ H r Q q => h F σ H r Q fun as L' vs F' H' ⟨xs, b, L2, ea, hup, h0, h1, k⟩ => q as L' vs F' H' ⟨xs.map e, b, L2, ea, hup, ⟨by simpa using h0, by rw [List.length_map]; exact h1⟩, fun x b' hx => by
    obtain ⟨y, hy, rfl⟩ := List.mem_map.mp hx
    exact ⟨y, rfl, k y b' hy⟩⟩)
/-- pick(bag, xs), xs at hand -/
theorem w_pck {κ : α → Own → Prop} {xs : List α} {i : Nat} {te : TE} {b : Bag} {L2 : Bag → Own} (hb : ε[i]? = some (some (.v (.ref pb)))) (hn : EX B te ε L (.d (eL e xs)) La) (hup : ∀ b', Up La (b.at pb pc) (b'.at pb pc) (L2 b')) (h0 : xs ≠ []) (h1 : xs.length ≤ 100000) (k : ∀ x b', x ∈ xs → κ x (L2 b')) : WV B e (tCall (S_pick B.K) [] E (tCons (tVar i) (tCons te tNil))) ε L κ :=
  w_pick (wa_x (ex_v hb) (wa_x hn (wa_nil ⟨xs, b, L2, rfl, hup, h0, h1, k⟩)))
end
end Fz

/-! ## FzH -/
set_option Elab.async false
set_option linter.all false
set_option maxRecDepth 100000
set_option maxHeartbeats 2000000
set_option autoImplicit false
/-! FzH: tuples and lists by what their items stand for. -/
namespace Fz
open PySem L2
theorem cut_to {α : Type} (e : α → PyData) (xs : List α) {i : Int} (h : 0 ≤ i) : cutD (xs.map e) none (some i) = (xs.take i.toNat).map e := by
  unfold cutD
  have e1 : HT.sIx (xs.map e).length 0 none = 0 := rfl
  have e2 : HT.sIx (xs.map e).length (xs.map e).length (some i) = min i.toNat (xs.map e).length := by
    show (if i < 0 then _ else _) = _
    rw [if_neg (by omega)]
  rw [e1, e2, List.drop_zero, Nat.sub_zero, List.map_take]
  by_cases c : i.toNat ≤ (xs.map e).length
  · rw [Nat.min_eq_left c]
  · rw [Nat.min_eq_right (by omega), List.take_length, List.take_of_length_le (by omega)]
theorem cut_from {α : Type} (e : α → PyData) (xs : List α) {i : Int} (h : 0 ≤ i) : cutD (xs.map e) (some i) none = (xs.drop i.toNat).map e := by
  unfold cutD
  have e1 : HT.sIx (xs.map e).length (xs.map e).length none = (xs.map e).length := rfl
  have e2 : HT.sIx (xs.map e).length 0 (some i) = min i.toNat (xs.map e).length := by
    show (if i < 0 then _ else _) = _
    rw [if_neg (by omega)]
  rw [e1, e2, List.map_drop]
  by_cases c : i.toNat ≤ (xs.map e).length
  · rw [Nat.min_eq_left c, List.take_of_length_le (by rw [List.length_drop]; exact Nat.le_refl _)]
  · rw [Nat.min_eq_right (by omega), List.drop_length, Nat.sub_self, List.take_zero, List.drop_eq_nil_of_le (by omega)]
theorem cut_mid {α : Type} (e : α → PyData) (xs : List α) {i j : Int} (h : 0 ≤ i) (h2 : 0 ≤ j) : cutD (xs.map e) (some i) (some j) = ((xs.drop i.toNat).take (j.toNat - i.toNat)).map e := by
  unfold cutD
  have e1 : HT.sIx (xs.map e).length (xs.map e).length (some j) = min j.toNat (xs.map e).length := by
    show (if j < 0 then _ else _) = _
    rw [if_neg (by omega)]
  have e2 : HT.sIx (xs.map e).length 0 (some i) = min i.toNat (xs.map e).length := by
    show (if i < 0 then _ else _) = _
    rw [if_neg (by omega)]
  rw [e1, e2, List.map_take, List.map_drop]
  have hl : ((xs.map e).drop i.toNat).length = (xs.map e).length - i.toNat := List.length_drop ..
  generalize (xs.map e) = zs at *
  by_cases c : i.toNat ≤ zs.length
  · have m1 : min i.toNat zs.length = i.toNat := Nat.min_eq_left c
    rw [m1]
    by_cases c2 : j.toNat ≤ zs.length
    · rw [Nat.min_eq_left c2]
    · rw [Nat.min_eq_right (by omega), List.take_of_length_le (by omega), List.take_of_length_le (by omega)]
  · have m1 : min i.toNat zs.length = zs.length := Nat.min_eq_right (by omega)
    rw [m1, List.drop_length, List.drop_eq_nil_of_le (show zs.length ≤ i.toNat by omega), List.take_nil, List.take_nil]
section
variable {B : Bg} {ε : Eps} {L La Lb Lc : Own} {te ta tb ti tj : TE} {x : AD} {α β : Type} {e : α → PyData} {f : β → PyData} {xs ys : List α} {i j : Int}
theorem ex_take (h : EX B te ε L (.d (eT e xs)) La) (h1 : EX B ti ε La (.d (.int i)) Lb) (hi : 0 ≤ i) : EX B (tSl (rSlA B.K) te tNoPart (tPart ti)) ε L (.d (eT e (xs.take i.toNat))) Lb :=
  ex_is (ex_slT (ds := xs.map e) h eo_n (eo_s h1)) (by rw [cut_to e xs hi]; rfl)
theorem ex_from (h : EX B te ε L (.d (eT e xs)) La) (h1 : EX B ti ε La (.d (.int i)) Lb) (hi : 0 ≤ i) : EX B (tSl (rSlA B.K) te (tPart ti) tNoPart) ε L (.d (eT e (xs.drop i.toNat))) Lb :=
  ex_is (ex_slT (ds := xs.map e) h (eo_s h1) eo_n) (by rw [cut_from e xs hi]; rfl)
theorem ex_mid (h : EX B te ε L (.d (eT e xs)) La) (h1 : EX B ti ε La (.d (.int i)) Lb) (h2 : EX B tj ε Lb (.d (.int j)) Lc) (hi : 0 ≤ i) (hj : 0 ≤ j) : EX B (tSl (rSlA B.K) te (tPart ti) (tPart tj)) ε L (.d (eT e ((xs.drop i.toNat).take (j.toNat - i.toNat)))) Lc :=
  ex_is (ex_slT (ds := xs.map e) h (eo_s h1) (eo_s h2)) (by rw [cut_mid e xs hi hj]; rfl)
theorem en_take (h : EX B te ε L x La) (h1 : EX B ti ε La (.d (.int i)) Lb) (hx : IsL Lb x (xs.map e)) (hi : 0 ≤ i) : EN B (tSl (rSlL B.K) te tNoPart (tPart ti)) ε L ((xs.take i.toNat).map e) Lb :=
  en_is (en_slL (ds := xs.map e) h eo_n (eo_s h1) hx) (cut_to e xs hi)
theorem en_from (h : EX B te ε L x La) (h1 : EX B ti ε La (.d (.int i)) Lb) (hx : IsL Lb x (xs.map e)) (hi : 0 ≤ i) : EN B (tSl (rSlL B.K) te (tPart ti) tNoPart) ε L ((xs.drop i.toNat).map e) Lb :=
  en_is (en_slL (ds := xs.map e) h (eo_s h1) eo_n hx) (cut_from e xs hi)
theorem ex_cat (h : EX B ta ε L (.d (eT e xs)) La) (h2 : EX B tb ε La (.d (eT e ys)) Lb) (hl : xs.length + ys.length ≤ 100000) : EX B (tOp (rCatA B.K) ta tb) ε L (.d (eT e (xs ++ ys))) Lb :=
  ex_is (ex_catT (ds := xs.map e) (es := ys.map e) h h2 (by rw [List.length_map, List.length_map]; exact hl)) (by unfold eT; rw [List.map_append])
theorem ex_len (h : EX B te ε L (.d (eT e xs)) La) {r : List V → Hp → VK → Prop} (hr : r = fun xs H Q => ∃ p ys, xs = [.ref p] ∧ (SqL B.K H p ys ∨ SqT B.K H p ys) ∧ Q (.int ys.length) H := by rfl) : EX B (tCB r (tCons te tNil)) ε L (.d (.int (xs.length : Int))) La :=
  ex_int (ex_lenT (ds := xs.map e) h hr) (by rw [List.length_map])
theorem ex_lenl (h : EX B te ε L x La) (hx : IsL La x (xs.map e)) {r : List V → Hp → VK → Prop} (hr : r = fun xs H Q => ∃ p ys, xs = [.ref p] ∧ (SqL B.K H p ys ∨ SqT B.K H p ys) ∧ Q (.int ys.length) H := by rfl) : EX B (tCB r (tCons te tNil)) ε L (.d (.int (xs.length : Int))) La :=
  ex_int (ex_lenL (ds := xs.map e) h hx hr) (by rw [List.length_map])
theorem at_e {n : Nat} {a : α} (h : xs[n]? = some a) : atI (xs.map e) (n : Int) = some (e a) := atI_nat (by rw [List.getElem?_map, h]; rfl)
theorem ex_at {n : Nat} {a : α} (h : EX B ta ε L (.d (eT e xs)) La) (h2 : EX B tb ε La (.d (.int i)) Lb) (hn : i = (n : Int)) (ha : xs[n]? = some a) : EX B (tOp (rIxT B.K) ta tb) ε L (.d (e a)) Lb := ex_ixT (ds := xs.map e) h h2 (by rw [hn]; exact at_e ha)
theorem ex_atl {n : Nat} {a : α} (h : EX B ta ε L x La) (h2 : EX B tb ε La (.d (.int i)) Lb) (hx : IsL Lb x (xs.map e)) (hn : i = (n : Int)) (ha : xs[n]? = some a) : EX B (tOp (rIxL B.K) ta tb) ε L (.d (e a)) Lb := ex_ixL (ds := xs.map e) h h2 hx (by rw [hn]; exact at_e ha)
theorem at_end {a : α} {zs : List α} : atI ((zs ++ [a]).map e) (-1) = some (e a) := by
  unfold atI ixN
  have hl : ((zs ++ [a]).map e).length = zs.length + 1 := by rw [List.length_map, List.length_append]; rfl
  rw [hl]
  have h1 : ¬ (0 ≤ (-1 : Int)) := by decide
  rw [if_neg h1]
  split
  · have e3 : ((-1 : Int) + ((zs.length + 1 : Nat) : Int)).toNat = zs.length := by omega
    simp only [Option.bind]
    rw [e3, List.getElem?_map, List.getElem?_append_right (Nat.le_refl _), Nat.sub_self]
    rfl
  · omega
/-! displays that draw -/
variable {tas : TA} {D : Ends} {tt : TT} {ts tw : TS}
theorem w_dispL {κ : List α → Own → Prop} (h : WA B tas ε L fun as L1 => ∃ xs : List α, as = xs.map (fun x => AD.d (e x)) ∧ xs.length ≤ 100000 ∧ κ xs L1) : WV B (eL e) (tLst tas) ε L κ :=
  w_frz (w_lst fun F σ H r Q q => h F σ H r Q fun as L' vs F' H' ⟨xs, ea, hl, k⟩ => q as L' vs F' H' ⟨xs.map e, by rw [ea, List.map_map]; rfl, by rw [List.length_map]; exact hl, fun p hp => ⟨_, _, xs, hp, rfl, rfl, k⟩⟩)
theorem w_dispT {κ : List α → Own → Prop} (h : WA B tas ε L fun as L1 => ∃ xs : List α, as = xs.map (fun x => AD.d (e x)) ∧ xs.length ≤ 100000 ∧ κ xs L1) : WV B (eT e) (tTup tas) ε L κ :=
  w_tup (ty := fun _ => .none) fun F σ H r Q q => h F σ H r Q fun as L' vs F' H' ⟨xs, ea, hl, k⟩ => q as L' vs F' H' ⟨xs.map e, xs, by rw [ea, List.map_map]; rfl, by rw [List.length_map]; exact hl, rfl, k⟩
theorem w_pair {κ : α × β → Own → Prop} (h : WV B e ta ε L fun x L1 => WV B f tb ε L1 fun y L2 => κ (x, y) L2) : WV B (eP e f) (tTup (tCons ta (tCons tb tNil))) ε L κ :=
  w_tup (ty := fun _ => .none) (wa_v (wv_mono h fun x L1 k => wa_v (wv_mono k fun y L2 k => wa_nil ⟨[e x, f y], (x, y), rfl, Nat.le_of_ble_eq_true rfl, rfl, k⟩)))
theorem ex_pair {x : α} {y : β} (h : EX B ta ε L (.d (e x)) La) (h2 : EX B tb ε La (.d (f y)) Lb) : EX B (tTup (tCons ta (tCons tb tNil))) ε L (.d (eP e f (x, y))) Lb :=
  ex_tup (ds := [e x, f y]) (ea_cons h (ea_cons h2 ea_nil)) (Nat.le_of_ble_eq_true rfl)
theorem rx_catT {ds es : List PyData} (hl : ds.length + es.length ≤ 100000) : RX B (rCatA B.K) ε L (.d (.tuple ds)) (.d (.tuple es)) (.d (.tuple (ds ++ es))) L := fun F σ H v w rp hv hw Q q => by
  obtain ⟨p, vs, rfl, g1, g2⟩ := tup_inv hv
  obtain ⟨p', ws, rfl, g3, g4⟩ := tup_inv hw
  have app := dpa_app g2 g4
  refine ⟨p, p', vs, ws, rfl, rfl, tq_sub rp.sub g1, tq_sub rp.sub g3, Evl.sz_of (by rw [dpa_len g2, dpa_len g4]; exact hl), fun e => ?_, fun _ e => ?_, fun _ _ n hn => ?_⟩
  · subst e
    exact q _ F H (Sub.rfl' F) rp (.tup g3 app)
  · subst e
    rw [List.append_nil] at app
    exact q _ F H (Sub.rfl' F) rp (.tup g1 app)
  · have hF := sub_none rp.sub hn
    exact q _ _ _ (sub_fresh hF) (rp.grow hn) (.tup upd_same (dpa_sub (sub_fresh hF) app))
theorem w_catT {κ : List α → Own → Prop} (h : WV B (eT e) ta ε L fun x L1 => WV B (eT e) tb ε L1 fun y L2 => x.length + y.length ≤ 100000 ∧ κ (x ++ y) L2) : WV B (eT e) (tOp (rCatA B.K) ta tb) ε L κ :=
  w_op (e := eT e) (f := eT e) (g := eT e) (wv_mono h fun x L1 k => wv_mono k fun y L2 k => ⟨x ++ y, by
    have := rx_catT (B := B) (ε := ε) (L := L2) (ds := x.map e) (es := y.map e) (by rw [List.length_map, List.length_map]; exact k.1)
    rw [← List.map_append] at this
    exact this, k.2⟩)
theorem x_ifJ {J : Own → Prop} (h : WT B tt ε L fun b L1 => (b = true → Ho B (ts D) ε L1) ∧ (b = false → J L1)) (he : ∀ L1, J L1 → Ho B (tw D) ε L1) : Ho B (tIfS tt ts tw D) ε L :=
  x_ifW (wt_mono h fun b L1 k => ⟨k.1, fun hb => he L1 (k.2 hb)⟩)
theorem x_asgP2 {i j : Nat} (h : WA B tas ε L fun as L1 => ∃ a b, as = [a, b] ∧ Ho B D.nx ((ε.set i (some a)).set j (some b)) L1) : Ho B (tAsg (tTup tas) (gTup B.K 2 (gCons (gName i) (gCons (gName j) gNil))) D) ε L := fun F σ H r =>
  h F σ H r _ fun as L1 vs F1 H1 ⟨a, b, ea, k⟩ _ r1 o1 => by
    subst ea
    match vs, o1 with
    | [v, w], o =>
      refine ⟨by show 2 ≤ sizeLine; decide, fun p hp => ⟨p, [v, w], rfl, .inl (.inl upd_same), rfl, _, _, rfl, _, _, rfl, rfl, ?_⟩⟩
      exact k F1 _ _ (((r1.heap (sub_fresh hp)).slot o.1).slot o.2.1)
theorem x_asgP3 {i j l : Nat} (h : WA B tas ε L fun as L1 => ∃ a b c, as = [a, b, c] ∧ Ho B D.nx (((ε.set i (some a)).set j (some b)).set l (some c)) L1) : Ho B (tAsg (tTup tas) (gTup B.K 3 (gCons (gName i) (gCons (gName j) (gCons (gName l) gNil)))) D) ε L := fun F σ H r =>
  h F σ H r _ fun as L1 vs F1 H1 ⟨a, b, c, ea, k⟩ _ r1 o1 => by
    subst ea
    match vs, o1 with
    | [u, v, w], o =>
      refine ⟨by show 3 ≤ sizeLine; decide, fun p hp => ⟨p, [u, v, w], rfl, .inl (.inl upd_same), rfl, _, _, rfl, _, _, rfl, _, _, rfl, rfl, ?_⟩⟩
      exact k F1 _ _ ((((r1.heap (sub_fresh hp)).slot o.1).slot o.2.1).slot o.2.2.1)
/-! walks over what is drawn -/
variable {tc : TS} {g : TG}
theorem x_forR1W {j : Nat} (h : WA B tas ε L fun as L1 => ∃ n : Int, as = [.d (.int n)] ∧ (-(2 ^ 62) ≤ n ∧ n < 2 ^ 62) ∧ ∃ I : Nat → Eps → Own → Prop, I 0 ε L1 ∧
    (∀ (i : Nat) ε' L', (i : Int) < n → I i ε' L' → Ho B (tc { D with nx := AbsP B (I (i + 1)), ct := AbsP B (I (i + 1)), bk := D.nx }) (ε'.set j (some (.d (.int (i : Int))))) L') ∧
    (∀ ε' L', I n.toNat ε' L' → Ho B D.nx ε' L')) : Ho B (tFor (iRng1 tas) (gName j) tc D) ε L := fun F σ H r =>
  h F σ H r _ fun as L1 vs F1 H1 ⟨n, ea, hn, I, h0, hs, hd⟩ s1 r1 o1 => by
    subst ea
    match vs, o1 with
    | [v], o =>
      have ev : v = .int n := int_inv o.1
      subst ev
      exact x_forR1 (tas := fun σ H Q => Q [.int n] H) (fun F σ H r Q q => q [.int n] F H (Sub.rfl' F) r ⟨.int n, trivial⟩) hn I h0 hs hd F1 σ H1 r1
theorem x_forLW (h : WV B eD te ε L fun d L1 => ∃ ds : List PyData, d = .list ds ∧ ∃ I : V → Nat → Eps → Own → Prop, (∀ v, I v 0 ε (L1 ++ [.know v (.list ds)])) ∧ (∀ v i ε' L', I v i ε' L' → MO.know v (.list ds) ∈ L') ∧
    (∀ v i d ε' L', ds[i]? = some d → I v i ε' L' → ∃ ε'', GT B g (.d d) ε' ε'' ∧ Ho B (tc { D with nx := AbsP B (I v (i + 1)), ct := AbsP B (I v (i + 1)), bk := D.nx }) ε'' L') ∧
    (∀ v ε' L', I v ds.length ε' L' → Ho B D.nx ε' L')) : Ho B (tFor (iList B.K te) g tc D) ε L := fun F σ H r =>
  h F σ H r _ fun d L1 v F1 H1 ⟨ds, ed, I, h0, hl, hs, hd⟩ s1 r1 o1 => by
    have o' : Dq B.K F1 v (.list ds) := by rw [← ed]; exact o1
    have r2 := r1.learn o'
    cases o' with
    | @lst p vs _ q1 q2 =>
      have back : ∀ {i : Nat} {ε' : Eps} {L' : Own} {F' : Hp} {σ' : St} {H' : Hp}, I (.ref p) i ε' L' → Rep B ε' L' F' σ' H' → ∃ ws, SqL B.K H' p ws ∧ DqAll B.K F' ws ds := fun hI r' => by
        have k : Dq B.K _ (.ref p) (.list ds) := r'.own _ (hl _ _ _ _ hI)
        cases k with
        | lst k1 k2 => exact ⟨_, .inl (.inl (r'.sub _ _ k1)), k2⟩
      refine ⟨p, rfl, ⟨vs, .inl (.inl (r1.sub _ _ q1))⟩, ⟨fun i m σ' H' => m = ds.length - i ∧ i ≤ ds.length ∧ AbsP B (I (.ref p) i) σ' H', ⟨_, rfl, Nat.zero_le _, ε, _, F1, h0 _, r2⟩, ?_⟩⟩
      rintro i m σ' H' ⟨rfl, hi, ε', L', F', hI, r'⟩
      obtain ⟨ws, k1, k2⟩ := back hI r'
      by_cases hlt : i < ds.length
      · obtain ⟨d, hdi⟩ : ∃ d, ds[i]? = some d := ⟨_, List.getElem?_eq_getElem hlt⟩
        obtain ⟨w, e1, e2⟩ := dpa_get k2 hdi
        obtain ⟨ε'', hg, hb⟩ := hs _ i d ε' L' hdi hI
        refine .inr ⟨⟨ws, w, k1, e1⟩, AbsP B (I (.ref p) (i + 1)), fun σ2 H2 hN => ⟨ds.length - (i + 1), by omega, rfl, hlt, hN⟩, fun x H2 hy => ?_⟩
        obtain ⟨rfl, hx⟩ := hy
        have ex : x = w := Option.some.inj ((hx ws k1).symm.trans e1)
        subst ex
        exact hg L' F' σ' _ x r' e2 _ fun σ3 r3 => hb F' σ3 _ r3
      · have ei : i = ds.length := by omega
        subst ei
        exact .inl ⟨⟨ws, k1, by rw [dpa_len k2]; exact Nat.le_refl _⟩, hd _ _ _ hI F' σ' H' r'⟩
/-- an expression of one outcome alone -/
theorem ex_of {a : α} (h : ∀ κ : α → Own → Prop, κ a La → WV B e te ε L κ) : EX B te ε L (.d (e a)) La := fun F σ H r Q q =>
  h (fun y L' => y = a ∧ L' = La) ⟨rfl, rfl⟩ F σ H r Q fun y L' v F' H' ⟨e1, e2⟩ s r' o => by
    subst e1 e2
    exact q v F' H' s r' o
/-- x == [] -/
theorem ex_eqNil {ds : List PyData} (h : EX B ta ε L x La) (hx : IsL La x ds) (hs : SeqAt.shaped (.list ds) = true) : EX B (tOp (rEqD B.K) ta (tLst tNil)) ε L (.d (.bool ds.isEmpty)) La := fun F σ H r Q q =>
  h F σ H r _ fun v F1 H1 s1 r1 o1 => ⟨Nat.zero_le _, fun p hp => by
    obtain ⟨pl, vs, rfl, g1, g2⟩ := hx.get r1 o1
    have s2 : Sub H1 (upd H1 p (.lst [])) := sub_fresh hp
    refine ⟨.list ds, .list [], .lst (sql_sub s2 g1) (dqa_dpa (nodict_shaped hs) (dpa_sub (r1.sub.tr s2) g2)), dq_dp rfl (.lst upd_same .nil), hs, rfl, ?_⟩
    rw [eqv_nil]
    exact q _ F1 _ s1 (r1.heap s2) (.bl _)⟩
theorem ex_neB {b c : Bool} (ha : EX B ta ε L (.d (.bool b)) La) (hb : EX B tb ε La (.d (.bool c)) Lb) : EX B (tOp rNe ta tb) ε L (.d (.bool (!decide (b = c)))) Lb := ex_op ha hb fun F σ H v w rp hv hw Q q => by
  rw [bool_inv hv, bool_inv hw]
  refine ⟨rfl, ?_⟩
  have e : decide ((V.bl b) = V.bl c) = decide (b = c) := by cases b <;> cases c <;> decide
  rw [e]
  exact q _ F H (Sub.rfl' F) rp (.bl _)
theorem ex_eqB {b c : Bool} (ha : EX B ta ε L (.d (.bool b)) La) (hb : EX B tb ε La (.d (.bool c)) Lb) : EX B (tOp rEq ta tb) ε L (.d (.bool (decide (b = c)))) Lb := ex_op ha hb fun F σ H v w rp hv hw Q q => by
  rw [bool_inv hv, bool_inv hw]
  refine ⟨rfl, ?_⟩
  have e : decide ((V.bl b) = V.bl c) = decide (b = c) := by cases b <;> cases c <;> decide
  rw [e]
  exact q _ F H (Sub.rfl' F) rp (.bl _)
theorem et_noT (h : EX B te ε L (.d (.bool true)) La) : ETt B (tNot (tTest te)) ε L false La := et_not (et_test h)
variable {tu : TT}
theorem et_orF (h1 : ETt B tt ε L false La) (h2 : ETt B tu ε La false Lb) : ETt B (tOr tt tu) ε L false Lb := et_is (et_or h1 (fun _ => h2) (fun h => nomatch h)) rfl
theorem x_skip (h : ETt B tt ε L false La) (k : Ho B D.nx ε La) : Ho B (tIfS tt ts tNext D) ε L := x_if h (fun h => nomatch h) (fun _ => k)
theorem wt_noT {κ : Bool → Own → Prop} (h : WV B PyData.bool te ε L fun b L1 => b = true ∧ κ false L1) : WT B (tNot (tTest te)) ε L κ := wt_not (wt_test (wv_mono h fun b L1 k => by rw [k.1]; exact k.2))
theorem wt_orF {κ : Bool → Own → Prop} (h : WT B tt ε L fun b L1 => b = false ∧ WT B tu ε L1 κ) : WT B (tOr tt tu) ε L κ := wt_or (wt_mono h fun b L1 k => ⟨fun _ => k.2, fun hb => by rw [k.1] at hb; exact nomatch hb⟩)
theorem x_skipW (h : WT B tt ε L fun b L1 => b = false ∧ Ho B D.nx ε L1) : Ho B (tIfS tt ts tNext D) ε L := x_ifW (wt_mono h fun b L1 k => ⟨fun hb => by rw [k.1] at hb; exact (nomatch hb), fun _ => k.2⟩)
/-- [..] * n, frozen -/
theorem w_repF {κ : List α → Own → Prop} (h : WV B (eL e) ta ε L fun xs L1 => WV B PyData.int tb ε L1 fun n L2 => (0 ≤ n ∧ n ≤ 100000 ∧ xs.length * n.toNat ≤ 100000) ∧ κ (List.replicate n.toNat xs).flatten L2) : WV B (eL e) (tOp rRep ta tb) ε L κ :=
  w_frz (fun F σ H r Q q => h F σ H r _ fun xs L1 v F1 H1 k s1 r1 o1 => k F1 σ H1 r1 _ fun n L2 w F2 H2 ⟨hn, k2⟩ s2 r2 o2 => by
    have ev : EN B (tOp rRep (fun σ H Q => Q v H) (fun σ H Q => Q w H)) ε L2 ((List.replicate n.toNat xs).flatten.map e) L2 → True := fun _ => trivial
    have o1' : Dq B.K F2 v (eL e xs) := dp_sub s2 o1
    have ew : w = .int n := int_inv o2
    subst ew
    cases o1' with
    | @lst p vs _ g1 g2 =>
      refine ⟨p, n, vs, rfl, rfl, r2.sub _ _ g1, by omega, by omega, Evl.sz_of (by rw [dpa_len g2, List.length_map]; exact hn.2.2), fun p' hp' => q p' (.lst p' ((List.replicate n.toNat xs).flatten.map e) :: L2) F2 _ ⟨_, _, _, r2.newM hp', rfl, rfl, k2⟩ (s1.tr s2) (r2.alloc hp' rfl ⟨_, upd_same, ?_⟩)⟩
      have : ∀ m : Nat, DqAll B.K F2 (List.replicate m vs).flatten ((List.replicate m xs).flatten.map e) := fun m => by
        induction m with
        | zero => exact .nil
        | succ m ih => rw [List.replicate_succ, List.replicate_succ, List.flatten_cons, List.flatten_cons, List.map_append]; exact dpa_app g2 ih
      exact this n.toNat)
/-- tuple(x) of a list -/
theorem w_tupL {κ : List α → Own → Prop} (h : WV B (eL e) te ε L κ) : WV B (eT e) (tThen te (kTup B.K)) ε L κ := fun F σ H r Q q =>
  h F σ H r _ fun xs L1 v F1 H1 k s1 r1 o1 => by
    have o1' : Dq B.K F1 v (eL e xs) := o1
    cases o1' with
    | @lst p vs _ g1 g2 =>
      refine .inl ⟨p, vs, rfl, .inl (.inl (r1.sub _ _ g1)), fun l hl => ?_⟩
      have hF := sub_none r1.sub hl
      exact q xs L1 _ _ _ k (s1.tr (sub_fresh hF)) (r1.grow hl) (.tup upd_same (dpa_sub (sub_fresh hF) g2))
theorem wr_lcR1W {vs : List Nat} {j : Nat} {κ : Addr → Own → Prop} (h : WA B tas ε L fun as L1 => ∃ n : Int, as = [.d (.int n)] ∧ (-(2 ^ 62) ≤ n ∧ n < 2 ^ 62) ∧ ∃ I : Nat → List PyData → Own → Prop, I 0 [] L1 ∧ j ∈ vs ∧
    (∀ i : Nat, (i : Int) < n → CTurnW B (gName j) tt te ε vs I i (.int (i : Int))) ∧ (∀ p acc L', p ∉ B.M → I n.toNat acc L' → κ p (.lst p acc :: L'))) : WR B (tLc (iRng1 tas) (gName j) tt te vs) ε L κ := fun F σ H r Q q =>
  h F σ H r _ fun as L1 vs' F1 H1 ⟨n, ea, hn, I, h0, hj, hs, hd⟩ s1 r1 o1 => by
    subst ea
    match vs', o1 with
    | [v], o =>
      have ev : v = .int n := int_inv o.1
      subst ev
      exact wr_lcR1 (tas := fun σ H Q => Q [.int n] H) (fun F σ H r Q q => q [.int n] F H (Sub.rfl' F) r ⟨.int n, trivial⟩) hn I h0 hj hs hd F1 σ H1 r1 Q fun p L' F' H' k s r' => q p L' F' H' k (s1.tr s) r'
end
end Fz

/-! ## FzL -/
set_option Elab.async false
set_option linter.all false
set_option maxRecDepth 100000
set_option maxHeartbeats 2000000
set_option autoImplicit false
/-! FzL: the law's own def: the script in, True out. -/
namespace Fz
open PySem L2
def spLaw (K : PySem.W.Frag) : Sp := fun vs H Q _ => ∃ (a : Addr) (ns : List Int), vs = [.ref a] ∧ SqL K H a (ns.map V.int) ∧ ns.length ≤ 63 ∧ ∀ H', Q (.bl true) H'
section
variable {P : Program} {w : World} {K : PySem.W.Frag} {mg : Str → Option Value} {base : Heap} {f : Addr} {fd : FuncData} {k : Nat}
theorem g_S {x qual : Str} {st : Stmt} {N : List Str} {p : Str} (Fn : Fun K x qual st f fd) (S : FnScope N [p] (defScope st)) (hps : 1 ≤ N.length)
    (hbody : ∀ (cdv : Value) (A : Around) (outer : List Env) (s : Shared) (H : Hp), Room k (A.deeper (PyProof.Rows.envOfC qual (defScope st) s.heap.objs.size f cdv)) → (A.deeper (PyProof.Rows.envOfC qual (defScope st) s.heap.objs.size f cdv)).guards = some [] →
      ∃ t, PSs (cxOf CX0 P w K mg base N qual (defScope st) f cdv A outer s H E0).nox (defBody st) t ∧
        ∀ (B : Bg) (Q : VK) a (ns : List Int), B.K = K → ns.length ≤ 63 → (∀ H', Q (.bl true) H') → Ho B (t { nx := fun _ H' => Q .non H', rt := Q }) (some (.v (.ref a)) :: List.replicate (N.length - 1) none) [.seq a (ns.map PyData.int)]) :
    GOk P w K mg base (k + 1) f fd [p] (spLaw K) := by
  refine g_ok Fn S (fun vs H Q E ⟨_, _, h, _⟩ => by rw [h]; rfl) fun cdv A outer s H vs Q hr hG h => ?_
  obtain ⟨a, ns, rfl, hS, hl, q⟩ := h
  obtain ⟨t, ht, hb⟩ := hbody cdv A outer s H hr hG
  exact ⟨t, ht, hb ⟨K, H, H, []⟩ Q a ns rfl hl q H _ H (rep_startS (N := N) hS hps)⟩
end
section
variable {B : Bg} {ε : Eps} {L La : Own} {te : TE} {D : Ends} {tas : TA} {E : XK} {Q : VK}
theorem x_retS (q : ∀ H', Q (.bl true) H') (h : WV B PyData.bool te ε L fun x _ => x = true) (hD : D.rt = Q := by rfl) : Ho B (tRet te D) ε L := fun F σ H r => h F σ H r _ fun x L1 v F1 H1 k _ r1 o1 => by
  have ev : v = .bl x := bool_inv o1
  rw [hD, ev, k]; exact q H1
/-- the law's def hands the script on -/
theorem x_retLaw {i : Nat} {a : Addr} {ns : List Int} (q : ∀ H', Q (.bl true) H') (h : ε[i]? = some (some (.v (.ref a)))) (hk : At L 0 (.seq a (ns.map PyData.int))) (hl : ns.length ≤ 63) (hD : D.rt = Q := by rfl) : Ho B (tRet (tCall (spLaw B.K) [] E (tCons (tVar i) tNil)) D) ε L := fun F σ H r => by
  refine ex_v h F σ H r _ fun v F1 H1 s1 r1 o1 => ?_
  have ev : v = .ref a := o1
  subst ev
  obtain ⟨vs, g1, g2⟩ := r1.own _ (List.mem_of_getElem? hk.get)
  have e2 := dpa_int_inv g2
  subst e2
  exact ⟨a, ns, rfl, sql_sub r1.sub g1, hl, fun H' => by rw [hD]; exact q H'⟩
end
end Fz

/-! ## FzQ -/
set_option Elab.async false
set_option linter.all false
set_option maxRecDepth 100000
set_option maxHeartbeats 4000000
set_option autoImplicit false
/-! FzQ: own exceptions whose __init__ says super().__init__(text) and keeps one field. -/
namespace Fz.Own
open PySem PySem.W PySem.Calls PyProof.Rows PySem.HandSPX
/-! ### the text of such an __init__ -/
def iA (fld : Str) (p1 p2 : Pos) : Arguments := { posonlyargs := [], args := [{ arg := "self", annotation := none, pos := p1 }, { arg := fld, annotation := none, pos := p2 }], vararg := none, kwonlyargs := [], kw_defaults := [], kwarg := none, defaults := [] }
def iB (msg fld : Str) (r1 r2 r3 r4 r5 r6 q1 q2 q3 q4 : Pos) (n : Nat) : List Stmt :=
  [.Expr (.Call (.Attribute (.Call (.Name "super" r1) [] [] r2) "__init__" r3) [.Constant (.str msg) n r4] [] r5) r6, .Assign [.Attribute (.Name "self" q1) fld q2] (.Name fld q3) q4]
def iS (fld : Str) : Scope := { kind := .function, names := [(PySem.Str.ofString "self", .local), (fld, .local), (PySem.Str.ofString "__class__", .free), (PySem.Str.ofString "super", .globalImplicit)], isGenerator := false, isCoroutine := false, more := [] }
/-- a name that may be such a field -/
def fldOk (fld : Str) : Bool := !(fld == PySem.Str.ofString "self") && !(fld == PySem.Str.ofString "__class__") && !(fld == PySem.Str.ofString "super") && !(fld == PySem.Str.ofString "__debug__") && !(fld == PySem.Str.ofString "__classdict__")
/-- the call's arguments come in order -/
def bindOk (fld : Str) : Prop := ∀ (qual : Str) (p1 p2 : Pos) (body : List Stmt) (doc pm ct cda : Value) (an : Option Addr) (cc : Addr) (x v : Value), PySem.bindArgs (fnX "__init__" qual (iA fld p1 p2) body (iS fld) [(("__class__" : Str), cc)] .none .none doc pm an cda ct) ⟨[x, v], []⟩ = pure [(("self" : Str), x), (fld, v)]
theorem bind_limit : bindOk "limit" := fun _ _ _ _ _ _ _ _ _ _ _ _ => by first | rfl | with_unfolding_all rfl
theorem bind_place : bindOk "place" := fun _ _ _ _ _ _ _ _ _ _ _ _ => by first | rfl | with_unfolding_all rfl
theorem bind_error : bindOk "error" := fun _ _ _ _ _ _ _ _ _ _ _ _ => by first | rfl | with_unfolding_all rfl
theorem bind_word : bindOk "word" := fun _ _ _ _ _ _ _ _ _ _ _ _ => by first | rfl | with_unfolding_all rfl
theorem bind_given : bindOk "given" := fun _ _ _ _ _ _ _ _ _ _ _ _ => by first | rfl | with_unfolding_all rfl
/-- what the written part says of the class at C and of its __init__, at fI -/
structure Txt (prog : Program) (K : Frag) (mg : Str → Option Value) (cn msg fld : Str) (C fI : Addr) : Prop where
  gC : mg cn = some (.ref C)
  cls : ∃ nm q N bs bm sn sub ab col dd k0 k1 k2 k3 k5, K.lookup C = some (excClassObj nm q C N bs bm true sn sub ab col dd k0 k1 k2 k3 k5 "ValueError.__new__") ∧ refsVE bm = true
  sa : findIn K (.ref C) "__setattr__" = some (some (.builtin "object.__setattr__"))
  ga : findIn K (.ref C) "__getattribute__" = some (some (.builtin "BaseException.__getattribute__"))
  gg : findIn K (.ref C) "__getattr__" = some none
  noN : findIn K (.ref C) fld = some none
  iC : findIn K (.ref C) "__init__" = some (some (.ref fI))
  tC : typeIn K (.ref fI) = some (.type "function")
  kC : keepIn K (.ref C) = true
  exC : subIn K (.ref C) (.type "BaseException") = some true
  tyC : typeIn K (.ref C) = some (.type "type")
  hdC : hasDictIn K C = true
  te : exmOne K (.ref C) (.ref C) = some true
  sup : ks_superIn K C C "__init__" = some (some (.builtin "ValueError.__init__"))
  opq : nsIn K cStatics "thirdparty.any" = some none
  vE : subIn K (.ref C) (.type "ValueError") = some true
  self : mroIn K C (.ref C) = some true
  gS : mg "super" = none
  top : (prog.main.scope.names.lookup ("super" : Str)).isSome = false
  fok : fldOk fld = true
  fn : ∃ (oc : Value) (od : Option Addr) (qual : Str) (doc pm : Value) (an : Option Addr) (cda cc : Addr) (ct : Value) (osl : Array (Option Value)) (p1 p2 r1 r2 r3 r4 r5 r6 q1 q2 q3 q4 : Pos) (n : Nat) (ccl : Value) (cdd : Option Addr) (vs : Array Value) (ccs : Array (Option Value)) (file : Str) (tf : Tok) (cl : Value) (cld : Option Addr) (csl : Array (Option Value)),
    K.lookup fI = some ⟨oc, od, .func (fnX "__init__" qual (iA fld p1 p2) (iB msg fld r1 r2 r3 r4 r5 r6 q1 q2 q3 q4 n) (iS fld) [("__class__", cc)] .none .none doc pm an (.ref cda) ct), osl⟩ ∧ codeIn K (.ref cda) qual = true ∧
    K.lookup cda = some ⟨ccl, cdd, .fields vs, ccs⟩ ∧ vs[2]? = some (.str file tf) ∧ ((prog.main.file : Str) == file) = true ∧ K.lookup cc = some ⟨cl, cld, .cell (some (.ref C)), csl⟩ ∧ (r3.endLine == r5.line) = true
structure InitEnd (fld : Str) (h h' : Heap) (x C dx t1 : Addr) (v : Value) : Prop where
  keep : ∀ b o, b ≠ x → h.get? b = some o → h'.get? b = some o
  obj : h'.get? x = some { cls := .ref C, dict := some dx, data := .fields #[.ref t1, .none, .none, .none, .bool false, .none] }
  dbig : h.objs.size ≤ dx
  dne : dx ≠ x
  ns : h'.Ns1 dx (fun y => if y = fld then some v else none)
structure Made (fld : Str) (h h' : Heap) (e C d : Addr) (v : Value) : Prop where
  keep : ∀ b o, h.get? b = some o → h'.get? b = some o
  new : h.objs.size ≤ e
  obj : ∃ oe vs, h'.get? e = some oe ∧ oe.cls = .ref C ∧ oe.dict = some d ∧ oe.data = .fields vs ∧ vs[1]? = some .none
  dbig : h.objs.size ≤ d
  dne : d ≠ e
  ns : h'.Ns1 d (fun y => if y = fld then some v else none)
theorem one_size (v : Value) : [v].length ≤ sizeLine := by
  rw [sizeLine_eq]
  exact (by decide : 1 ≤ 16777216)
theorem meth_line {o : Expr} {apos pos r4 : Pos} {msg nm : Str} {n : Nat} {env : Env} (hl : (apos.endLine == pos.line) = true) : eval (.Call (.Attribute o nm apos) [.Constant (.str msg) n r4] [] pos) env = (do
      let ov ← attributeBase o nm env (eval o env)
      standAt apos.atName
      let (f, first) ← holding [ov] (getMethod ov nm (do return (← importBound o env).getD true))
      callWith pos f first (backTo pos (starEach [.Constant (.str msg) n r4] env)) []) := by
  have hpos : methodCallPos true o env apos pos = pure pos := by unfold methodCallPos; simp [hl]
  have e : ∀ ov, methodCall o nm apos pos env ov 1 (backTo pos (starEach [.Constant (.str msg) n r4] env)) [] = (do
      let (f, first) ← holding [ov] (getMethod ov nm (do return (← importBound o env).getD true))
      callWith pos f first (backTo pos (starEach [.Constant (.str msg) n r4] env)) []) := fun ov => by
    show (do
      let (f, first) ← holding [ov] (getMethod ov nm (do return (← importBound o env).getD true))
      let callPos ← methodCallPos true o env apos pos
      callWith callPos f first (backTo pos (starEach [.Constant (.str msg) n r4] env)) []) = _
    rw [hpos]; rfl
  show (do
    let ov ← attributeBase o nm env (eval o env)
    standAt apos.atName
    methodCall o nm apos pos env ov 1 (backTo pos (starEach [.Constant (.str msg) n r4] env)) []) = _
  simp only [e]
section
variable {prog : Program} {w : World} {A : Around} {E : Value → Shared → Prop} {R : Result → Shared → Prop} {s : Shared} {K : Frag} {mg mb : Str → Option Value} {cn msg fld : Str} {C fI : Addr}
theorem fld_ne (h : fldOk fld = true) : fld ≠ PySem.Str.ofString "self" ∧ fld ≠ PySem.Str.ofString "__class__" ∧ fld ≠ PySem.Str.ofString "super" ∧ (fld == PySem.Str.ofString "__debug__") = false := by
  unfold fldOk at h
  simp only [Bool.and_eq_true, Bool.not_eq_true', beq_eq_false_iff_ne] at h
  exact ⟨h.1.1.1.1, h.1.1.1.2, h.1.1.2, beq_eq_false_iff_ne.mpr h.1.2⟩
theorem own_init (hB : bindOk fld) (T : Txt prog K mg cn msg fld C fI) {x t0 : Addr} {v : Value} (X : K.In s.heap) (G : s.heap.Ns mainGlobals mg) (Bt : s.heap.Ns builtinsNs mb) (hb : ∀ y : Str, y ≠ "__name__" → mb y = bootBuiltins y) (hlim : s.heap.NoLimit)
    (hx : s.heap.get? x = some (excO C t0)) (hnx : K.lookup x = none) (hroom : A.depth < recursionLimit)
    (hq : ∀ h' tk dx t1, InitEnd fld s.heap h' x C dx t1 v → R (.ok (.ret .none)) { s with heap := h', toks := tk }) :
    codeAny (model prog w) A (.call (.ref fI) ⟨[.ref x, v], []⟩) R s := by
  obtain ⟨oc, od, qual, doc, pm, an, cda, cc, ct, osl, p1, p2, r1, r2, r3, r4, r5, r6, q1, q2, q3, q4, n, ccl, cdd, vs, ccs, file, tf, cl, cld, csl, ho, hcd, hco, hvs, hfile, hcell, hline⟩ := T.fn
  obtain ⟨nm, q, N, bs, bm, sn, sub, ab, col, dd, k0, k1, k2, k3, k5, hC, hbm⟩ := T.cls
  obtain ⟨n1, n2, n3, n4⟩ := fld_ne T.fok
  have hcl : clsIn K C = some { name := nm, bases := bs, mro := .ref C :: bm, ns := N, qualname := q, hasDict := true, slotNames := sn, subclasses := sub, abstract := ab, collection := col, hasDel := false } := by unfold clsIn; rw [hC] <;> rfl
  refine ks_codeAny_call_defAt (binds := [(("self" : Str), Value.ref x), (fld, v)]) hroom (X _ _ ho) rfl hlim (codeRec_of X hcd) rfl (BindsTo.of_eq (hB _ _ _ _ _ _ _ _ _ _ _ _)) ?_ ?_ (fun h₁ hn k => ?_)
  · intro y hy
    have hy : y ∈ (iS fld).names := hy
    simp only [iS, List.mem_cons, List.not_mem_nil, or_false] at hy
    rcases hy with e | e | e | e <;> rw [e] <;> exact fun z => nomatch z
  · intro y hy
    simp only [List.mem_cons, List.not_mem_nil, or_false] at hy
    show (iS fld).names.lookup y.1 = some .local
    rcases hy with e | e
    · rw [e]; rfl
    · rw [e]
      show List.lookup fld ((PySem.Str.ofString "self", NameKind.local) :: (fld, NameKind.local) :: _) = _
      rw [List.lookup_cons, beq_eq_false_iff_ne.mpr n1, List.lookup_cons, beq_self_eq_true]
  · have X₁ : K.In h₁ := X.keeps k
    have hx₁ := k _ _ hx
    have kS : ∀ L a cd, (envX qual (iS fld) L a cd [("__class__", cc)]).kindOf "super" = some .globalImplicit := fun L a cd => by
      show List.lookup (PySem.Str.ofString "super") ((PySem.Str.ofString "self", NameKind.local) :: (fld, NameKind.local) :: (PySem.Str.ofString "__class__", NameKind.free) :: (PySem.Str.ofString "super", NameKind.globalImplicit) :: []) = _
      rw [List.lookup_cons, show (PySem.Str.ofString "super" == PySem.Str.ofString "self") = false from by decide, List.lookup_cons, beq_eq_false_iff_ne.mpr n3.symm]
      rfl
    have kC : ∀ L a cd, (envX qual (iS fld) L a cd [("__class__", cc)]).kindOf "__class__" = some .free := fun L a cd => by
      show List.lookup (PySem.Str.ofString "__class__") ((PySem.Str.ofString "self", NameKind.local) :: (fld, NameKind.local) :: (PySem.Str.ofString "__class__", NameKind.free) :: (PySem.Str.ofString "super", NameKind.globalImplicit) :: []) = _
      rw [List.lookup_cons, show (PySem.Str.ofString "__class__" == PySem.Str.ofString "self") = false from by decide, List.lookup_cons, beq_eq_false_iff_ne.mpr n2.symm]
      rfl
    have kF : ∀ L a cd, (envX qual (iS fld) L a cd [("__class__", cc)]).kindOf fld = some .local := fun L a cd => by
      show List.lookup fld ((PySem.Str.ofString "self", NameKind.local) :: (fld, NameKind.local) :: _) = _
      rw [List.lookup_cons, beq_eq_false_iff_ne.mpr n1, List.lookup_cons, beq_self_eq_true]
    have sSelf : (fun y : Str => ([("self", Value.ref x), (fld, v)] : List (Str × Value)).reverse.lookup y) "self" = some (.ref x) := by
      show List.lookup (PySem.Str.ofString "self") [(fld, v), (PySem.Str.ofString "self", Value.ref x)] = _
      rw [List.lookup_cons, beq_eq_false_iff_ne.mpr n1.symm]; rfl
    have sF : (fun y : Str => ([("self", Value.ref x), (fld, v)] : List (Str × Value)).reverse.lookup y) fld = some v := by
      show List.lookup fld [(fld, v), (PySem.Str.ofString "self", Value.ref x)] = _
      rw [List.lookup_cons, beq_self_eq_true]
    have hCo : h₁.get? C = some (excClassObj nm q C N bs bm true sn sub ab col dd k0 k1 k2 k3 k5 "ValueError.__new__") := X₁ _ _ hC
    have gb : mb "super" = some (.type "super") := (hb _ (by decide)).trans (by decide +kernel)
    obtain ⟨g₀, d₀, os₀, tk₀, hs₁⟩ : ∃ g d os tk, ({ s with heap := h₁, toks := s.toks + 2 } : Shared) = ⟨h₁, g, d, tk, os⟩ := ⟨_, _, _, _, rfl⟩
    refine ks_wpAt_execs_cons (ks_wpAt_Expr_any ?_)
    refine ks_wpAt_MethodCall (pl := _) ?_ (meth_line hline)
    refine ks_wpAt_super_base (env := envX qual (iS fld) s.heap.objs.size fI (.ref cda) [("__class__", cc)]) (kS _ _ _) (kC _ _ _) (by decide) rfl (X₁ _ _ ho) rfl rfl rfl (X₁ _ _ hco) rfl hvs hfile T.top ?_
    refine ks_loadName_global rfl (kS _ _ _) (loadGlobal_builtin (env := envX qual (iS fld) s.heap.objs.size fI (.ref cda) [("__class__", cc)]) (G.keeps k) T.gS (Bt.keeps k) gb ⟨rfl, ?_⟩)
    refine wpAny_loadName_free rfl (kC _ _ _) rfl ⟨_, X₁ _ _ hcell, rfl⟩ ?_
    refine wpAny_loadName_local rfl (by first | rfl | exact List.lookup_cons_self) hn sSelf ?_
    refine ks_wpAny_isType_cls hCo rfl ⟨rfl, ?_⟩
    have I₁ : InstAt h₁ x (excO C t0) C none := ⟨hx₁, rfl, rfl, trivial⟩
    refine ks_wpAny_call_super hCo rfl hx₁ rfl (fun c e => nomatch e) (looks_mroIn X₁ T.self) (fun h₂ hso k₂ => ?_)
    have X₂ : K.In h₂ := X₁.keeps k₂
    have hx₂ := k₂ _ _ hx₁
    have I₂ : InstAt h₂ x (excO C t0) C none := ⟨hx₂, rfl, rfl, trivial⟩
    refine kxs_getMethod kxs_ValueError hso (looks_opaque X₂ T.opq) (l₀ := .ref C :: bm) ?_ rfl X₂ ?_ (I₂.type.andThen (looks_subIn X₂ T.vE)) (ks_ne X₂ I₂ hcl) rfl ?_
    · exact fun A Q E s k q => wpAny_bind ((looks_clsIn X₂ hcl) A _ E s k (wpAny_pure q))
    · have q := T.sup
      unfold ks_superIn at q
      rw [hcl] at q
      exact q
    have hmw : (h₂.push (kxs_mw "ValueError.__init__" x)).get? h₂.objs.size = some (kxs_mw "ValueError.__init__" x) := Heap.get?_push_at rfl rfl
    refine kxs_callWith (i := "ValueError.__init__") (x := x) rfl ?_
    refine evalArgs_plain (x := eval (.Constant (.str msg) n r4) _) (rest := []) (Calls.spliced_cons ?_)
    refine lit_str _ (fun v₃ tk₃ _ => Calls.spliced_nil ⟨hmw, ?_⟩)
    -- the built-in __init__
    refine wpAny_call (codeAny_of_tree ?_)
    show wpAny _ _ (callAny (.ref _) ⟨[v₃], []⟩) _ _ _
    simp only [callAny]
    refine wpAny_bind (wpAny_load hmw ?_)
    simp only [kxs_mw, show (Value.type "method-wrapper" == Value.type "method" || Value.type "method-wrapper" == Value.type "builtin_function_or_method" || Value.type "method-wrapper" == Value.type "method-wrapper") = true by decide, if_true]
    refine KFB.if_so (by decide) ?_
    have hC₃ : (h₂.push (kxs_mw "ValueError.__init__" x)).get? C = some (excClassObj nm q C N bs bm true sn sub ab col dd k0 k1 k2 k3 k5 "ValueError.__new__") := Heap.get?_push_of_some _ (X₂ _ _ hC)
    have hx₃ : (h₂.push (kxs_mw "ValueError.__init__" x)).get? x = some (excO C t0) := Heap.get?_push_of_some _ hx₂
    refine wpAny_bind (check_bound_init F.excBase_ValueError.toExcCallFacts hC₃ hx₃ rfl ?_)
    refine wpAny_bind (wpAny_pure (wpAny_pure ?_))
    refine ⟨plainId_quiet F.excBase_ValueError.init.plain _, codeAny_builtin F.excBase_ValueError.initEntry ?_⟩
    refine exc_init_tree (cls := .ref C) (t0 := t0) (dv := none) (c2 := .none) (c3 := .none) (b4 := .bool false) hx₃ (one_size v₃) (fun h₄ k₄ hx₄ _ => ?_)
    -- self.fld = fld
    have X₃ : K.In (h₂.push (kxs_mw "ValueError.__init__" x)) := X₂.keeps fun b o e => Heap.get?_push_of_some _ e
    have k₁₃ : ∀ b o, h₁.get? b = some o → (h₂.push (kxs_mw "ValueError.__init__" x)).get? b = some o := fun b o e => Heap.get?_push_of_some _ (k₂ b o e)
    have hxL : s.heap.objs.size ≠ x := Nat.ne_of_gt (Heap.lt_size hx)
    have X₄ : K.In h₄ := fun a o e => k₄ a o (fun z => by rw [z, hnx] at e; cases e) (X₃ a o e)
    have hn₄ : h₄.Ns s.heap.objs.size (fun y => [(("self" : Str), Value.ref x), (fld, v)].reverse.lookup y) := hn.at (fun o q => k₄ _ _ hxL (k₁₃ _ _ q))
    show PySem.wpAt _ _ _ (execs [.Assign [.Attribute (.Name "self" q1) fld q2] (.Name fld q3) q4] (envX qual (iS fld) s.heap.objs.size fI (.ref cda) [("__class__", cc)])) _ _ _
    refine ks_wpAt_execs_cons (ks_wpAt_Assign_Attr ?_)
    refine wpAt_of_wpAny (wpAny_Name (wpAny_loadName_local (m := fun y : Str => List.lookup y [(("self" : Str), Value.ref x), (fld, v)].reverse) rfl (kF s.heap.objs.size fI (.ref cda)) ?_ sF ?_) n4)
    · exact hn₄
    refine wpAny_Name (wpAny_loadName_local (m := fun y : Str => List.lookup y [(("self" : Str), Value.ref x), (fld, v)].reverse) rfl (by first | rfl | exact List.lookup_cons_self) ?_ sSelf ?_) (by decide)
    · exact hn₄
    refine set_plain X₄ (ox := { cls := .ref C, data := .fields #[.ref (h₂.push (kxs_mw "ValueError.__init__" x)).objs.size, .none, .none, .none, .bool false, .none] }) (od := none) ⟨hx₄, rfl, rfl, trivial⟩ T.sa ?_
    refine exc_osa X₄ hx₄ hcl (show refsVE (.ref C :: bm) = true from hbm) rfl T.noN (fun h₅ tk₅ dx k₅ dn dne hx₅ hn₅ => ?_)
    show PySem.wpAt _ _ _ (execs [] _) _ _ _
    refine wpAt_of_wpAny (wpAny_execs_nil ?_)
    have z : s.heap.objs.size < h₁.objs.size := hn.lt
    have k₁₄ : ∀ b o, b ≠ x → h₁.get? b = some o → h₄.get? b = some o := fun b o hb e => k₄ b o hb (k₁₃ b o e)
    refine hq h₅ tk₅ dx _ ⟨fun b o hb e => k₅ b o hb (k₁₄ b o hb (k b o e)), hx₅, ?_, dne, hn₅⟩
    obtain ⟨oL, _, _, hL, _⟩ := hn₄
    exact Nat.le_of_lt (Nat.lt_of_lt_of_le (Heap.lt_size hL) dn)

theorem own_made (hB : bindOk fld) (T : Txt prog K mg cn msg fld C fI) {v : Value} (X : K.In s.heap) (G : s.heap.Ns mainGlobals mg) (Bt : s.heap.Ns builtinsNs mb) (hb : ∀ y : Str, y ≠ "__name__" → mb y = bootBuiltins y) (hlim : s.heap.NoLimit) (hroom : A.depth + 1 < recursionLimit)
    (hq : ∀ h' tk e d, Made fld s.heap h' e C d v → R (.ok (.ret (.ref e))) { s with heap := h', toks := tk }) :
    codeAny (model prog w) A (.call (.ref C) ⟨[v], []⟩) R s := by
  obtain ⟨nm, q, N, bs, bm, sn, sub, ab, col, dd, k0, k1, k2, k3, k5, hC, hbm⟩ := T.cls
  obtain ⟨hp, g, dr, tk, os⟩ := s
  have k : ∀ b o, hp.get? b = some o → ((hp.push (kdv_tup [v])).push (excO C hp.objs.size)).get? b = some o := fun b o e => Heap.get?_push_of_some _ (Heap.get?_push_of_some _ e)
  have hget : ((hp.push (kdv_tup [v])).push (excO C hp.objs.size)).get? (hp.objs.size + 1) = some (excO C hp.objs.size) := by heap_get
  have hnx : K.lookup (hp.objs.size + 1) = none := by
    cases e : K.lookup (hp.objs.size + 1) with
    | none => rfl
    | some o =>
      have z : hp.get? (hp.objs.size + 1) = some o := X _ _ e
      exact absurd (Nat.lt_of_succ_lt (Heap.lt_size z)) (Nat.lt_irrefl _)
  refine call_own F.excBase_ValueError (fun X => refsVE_contains X bm hbm) (X _ _ hC) (looks_findIn X T.iC) (fun self => bind_fn X self T.tC) (one_size v) ?_
  refine own_init (s := ⟨(hp.push (kdv_tup [v])).push (excO C hp.objs.size), g, dr, tk, os⟩) hB T (X.keeps k) (G.keeps k) (Bt.keeps k) hb (hlim.keeps k) hget hnx ?_ fun h' tk' dx t1 ⟨k', hx, dn, dne, hns⟩ => ?_
  · show A.depth + 1 < recursionLimit
    exact hroom
  · have old : ∀ b o, hp.get? b = some o → h'.get? b = some o := fun b o e => k' b o (Nat.ne_of_lt (Nat.lt_succ_of_lt (Heap.lt_size e))) (k b o e)
    have z : hp.objs.size + 1 + 1 ≤ dx := by
      first
        | (simpa only [Heap.size_push] using dn)
        | exact dn
        | (have q := dn; rw [Heap.size_push, Heap.size_push] at q; exact q)
    exact ⟨rfl, hq h' tk' (hp.objs.size + 1) dx ⟨old, Nat.le_succ _, ⟨_, _, hx, rfl, rfl, rfl, rfl⟩, Nat.le_trans (Nat.le_trans (Nat.le_succ _) (Nat.le_succ _)) z, dne, hns⟩⟩
end
end Fz.Own

/-! ## FzN -/
set_option Elab.async false
set_option linter.all false
set_option maxRecDepth 100000
set_option maxHeartbeats 4000000
set_option autoImplicit false
/-! FzN: own exceptions in the hand layer: raise C(e), e.f, isinstance of a caught one; defs that may raise. -/
namespace Fz
open PySem L2
open PySem.W (InstAt KitX Looks Frag findIn specialIn takesIn hasDictIn subIn mroIn clsIn)
theorem relO_own {v : V} {v' : Value} {fld : Str} (r : RelV v v') (f : Str) : RelO (List.lookup f [(fld, v)]) (if f = fld then some v' else none) := by
  by_cases hw : f = fld
  · subst hw
    rw [if_pos rfl]
    have q : List.lookup f [(f, v)] = some v := by simp [List.lookup]
    rw [q]
    exact r
  · rw [if_neg hw]
    have qw : (f == fld) = false := by simpa using hw
    have q2 : List.lookup f [(fld, v)] = none := by simp [List.lookup, qw]
    rw [q2]
    trivial
section
variable {X : Cx} {cn msg fld : Str} {C fI : Addr}
/-- C(e) -/
def tMkOwn (C : Addr) (fld : Str) (ta : TA) : St → Hp → XK → Prop := fun σ H Q => ta σ H fun vs H1 => ∃ v, vs = [v] ∧ ∀ d, H1 d = none → Q (.ref C) (some d) (upd H1 d (.xd [(fld, v)]))
theorem pmk_own1 {a : Expr} {ta : TA} {p pos : Pos} {k : Nat} (hB : Own.bindOk fld) (T : Own.Txt X.prog X.K X.mg cn msg fld C fI) (hr : Room k X.A) (ha : PA X [a] ta) (hg : Gl X cn) (hdb : (cn == ("__debug__" : Str)) = false)
    (he : starEach (a :: []) X.env = (false, eval a X.env) :: starEach [] X.env := by rfl) (hpl : (backTo pos (starEach [] X.env)).any (·.1) = false := by rfl) :
    PMk X (.Call (.Name cn p) [a] [] pos) (tMkOwn C fld ta) := by
  intro pins s σ H Q I h
  refine wpAny_Call_Name_kw (ld_glob I hg T.gC ?_ hdb)
  refine PySem.W.callWith_K (h₀ := X.base) I.ok.mod.kin T.kC (thn (ha.run pos pins s σ H _ I h) fun us s1 hh => ?_) he hpl
  obtain ⟨vs, H1, I1, r1, v, ev, q1⟩ := hh
  subst ev
  refine ⟨I1.kIn, ?_⟩
  cases r1 with
  | cons rv rn =>
    rename_i v' us'
    cases rn
    show wpAny _ _ (call (.ref C) [v']) _ _ _
    have hlim := I1.nolimit
    obtain ⟨mb, hb1, hb2⟩ := I1.mod.blt
    have hG := I1.mod.glob.keeps I1.bk
    have hB1 := hb1.keeps I1.bk
    obtain ⟨hp, g, dr, tk, os⟩ := s1
    refine wpAny_call (Own.own_made hB T I1.kIn hG hB1 hb2 hlim (by have := hr.dp; omega) fun h' tk' e d M => ?_)
    show MkP X pins σ Q (.ref e) ⟨h', g, dr, tk', os⟩
    obtain ⟨oe, fv, hoe, hc, hd, hdat, h1⟩ := M.obj
    have hns := M.ns
    obtain ⟨G', g1, g2⟩ := restrict h' fun b => decide (b ≠ e)
    have gk : ∀ b, b ≠ e → G'.get? b = h'.get? b := fun b hb => g1 b (decide_eq_true hb)
    have ge : G'.get? e = none := g2 e (by simp)
    have old : ∀ b o, hp.get? b = some o → G'.get? b = some o := fun b o q => (gk b (Nat.ne_of_lt (Nat.lt_of_lt_of_le (Heap.lt_size q) M.new))).trans (M.keep b o q)
    have ob : ObjOk X.prog X.w (upd H1 d (.xd [(fld, v)])) G' d (.xd [(fld, v)]) :=
      ⟨_, hns.at (fun o q => (gk d M.dne).trans q), fun f => relO_own rv f⟩
    have J : Inv X pins σ (upd H1 d (.xd [(fld, v)])) ⟨G', g, dr, tk', os⟩ := I1.laid (t' := tk') old M.dbig ob
    refine ⟨e, oe, fv, ⟨G', g, dr, tk', os⟩, _, .ref C, some d, rfl, J, fun b o q => ?_, ge, hoe, ⟨hc, hd⟩, hdat, h1, ?_, rfl, I1.bare, raises_own T.exC T.tyC, q1 d (I1.hok.fresh M.dbig)⟩
    · by_cases hb : b = e
      · have q' : G'.get? b = some o := q
        rw [hb, ge] at q'; cases q'
      · exact (gk b hb).symm.trans q
    · rw [upd_ne (Ne.symm M.dne)]
      exact I1.hok.fresh M.new
/-- raise C(e) -/
def tRaiseOwn (C : Addr) (fld : Str) (W : L2.WX) (ta : TA) : TS := fun _ σ H => tMkOwn C fld ta σ H fun cls d H' => W cls d σ H'
theorem ps_raiseOwn {a : Expr} {ta : TA} {W : L2.WX} {p pos pos2 : Pos} {k : Nat} (hB : Own.bindOk fld) (hc : X.calm = true) (T : Own.Txt X.prog X.K X.mg cn msg fld C fI) (hr : Room k X.A) (tk : Takes X W) (ha : PA X [a] ta) (hg : Gl X cn) (hdb : (cn == ("__debug__" : Str)) = false)
    (he : starEach (a :: []) X.env = (false, eval a X.env) :: starEach [] X.env := by rfl) (hpl : (backTo pos (starEach [] X.env)).any (·.1) = false := by rfl) :
    PS X (.Raise (some (.Call (.Name cn p) [a] [] pos)) none pos2) (tRaiseOwn C fld W ta) := ps_raise hc tk (pmk_own1 hB T hr ha hg hdb he hpl)
theorem own_xf (T : Own.Txt X.prog X.K X.mg cn msg fld C fI) : XfC X.K C := ⟨T.ga, T.gg, T.exC, T.hdC⟩
end
end Fz
namespace PySem.W
open PySem PySem.Spec PySem.Calls PyProof.Rows
section
variable {prog : Program} {w : World} {A : Around} {E : Value → Shared → Prop} {s : Shared} {K : Frag} {x D : Addr} {ox : Obj} {od : Option Obj}
theorem findObj_dataO {C : Addr} {name : Str} {a g : Value} (hc : (clsIn K C).isSome = true) (ha : findIn K (.ref C) name = some (some a)) (hg : specialIn K a "__get__" = some (some g)) (ht : takesIn K a = some true) : findObj K C od name = some (.bind g a) := by
  obtain ⟨cd, hc⟩ := Option.isSome_iff_exists.mp hc
  unfold findObj
  rw [hc, Option.bind_some, ha, Option.bind_some]
  simp [hg, ht]
theorem kin_classED {Q : Option Value → Shared → Prop} (hga : findIn K (.ref D) "__getattribute__" = some (some (.builtin "BaseException.__getattribute__"))) (hgt : findIn K (.ref D) "__getattr__" = some none) (hsub : subIn K (.ref D) (.type "BaseException") = some true)
    (hdct : hasDictIn K D = true) (ha : findIn K (.ref D) "__class__" = some (some (.builtin "object.__class__")))
    (hn : specialIn K (.builtin "object.__class__") "__get__" = some (some (.builtin "getset_descriptor.__get__"))) (htk : takesIn K (.builtin "object.__class__") = some true) (hm : mroIn K D (.type "object") = some true)
    (X : K.In s.heap) (I : InstAt s.heap x ox D od) (h : Q (some (.ref D)) { s with toks := s.toks + 1 }) : wpAny (model prog w) A (getAttr? (.ref x) "__class__") Q E s := by
  have hf : findObj K D od "__class__" = some (.bind (.builtin "getset_descriptor.__get__") (.builtin "object.__class__")) := findObj_dataO (by obtain ⟨cd, hc, _⟩ := any_some hdct; rw [hc]; rfl) ha hn htk
  obtain ⟨hp, g, d, t, os⟩ := s
  have L0 := I.type (M := model prog w)
  have L1 := looks_findIn (M := model prog w) X hga
  have L2 := looks_findIn (M := model prog w) X hgt
  have L3 := looks_find (M := model prog w) X I hf
  have sub : Looks (model prog w) hp (isInstance (.ref x) (.type "BaseException")) true := L0.andThen (looks_subIn X hsub)
  have hx0 : (false && onTheHeap (Value.builtin "BaseException.__getattribute__")) = false := rfl
  have hx2 : (Value.builtin "BaseException.__getattribute__" == Value.builtin "object.__getattribute__") = false := by decide +kernel
  have hx1 : (onTheHeap (Value.ref D) && Value.builtin "BaseException.__getattribute__" == Value.builtin "object.__getattribute__") = false := by rw [hx2]; rfl
  unfold getAttr? getAttrBy? getAttrBy
  refine wpAny_bind (wpAny_mkText (wpAny_bind (wpAny_attempt (wpAny_holding (wpAny_bind (L0.at (wpAny_bind (L1.at ?_))))))))
  show wpAny _ _ (if (onTheHeap (Value.ref D) && Value.builtin "BaseException.__getattribute__" == Value.builtin "object.__getattribute__") = true then _ else _) _ _ _
  rw [hx1, if_neg Bool.false_ne_true]
  unfold getAttrByItsOwn hookBefore
  refine wpAny_bind ?_
  rw [if_pos (show onTheHeap (Value.ref D) = true from rfl)]
  refine L2.at ?_
  refine wpAny_bind (wpAny_attempt (wpAny_holding ?_))
  unfold callGetattribute
  rw [hx0, if_neg Bool.false_ne_true]
  unfold boundAndCalled
  rw [PySem.F.excAttr_ValueError.ga.bind (.ref x)]
  refine wpAny_bind (wpAny_pure ?_)
  show wpAny _ _ (call (.builtin "BaseException.__getattribute__") [.ref x, .str "__class__" t]) _ _ _
  refine wpAny_call (codeAny_call_builtin PySem.F.excAttr_ValueError.ga.plain PySem.F.entry_bexc_ga ?_)
  refine @check_slot (model prog w) _ _ ⟨hp, g, d, t + 1, os⟩ "BaseException.__getattribute__" "BaseException" "__getattribute__" (.ref x) [.str "__class__" t] [] _ (by decide +kernel) (by decide +kernel) sub (PySem.F.args_bexc_ga (.ref x) (.str "__class__" t)) ?_
  unfold Builtin.«object.__getattribute__»
  refine wpAny_bind (wpAny_of_eq (a := ((Value.ref x : Value), [Value.str "__class__" t])) (by first | rfl | (simp only [slotArgs]; rfl)) ?_)
  refine wpAny_bind (wpAny_pure (wpAny_bind (L0.at (wpAny_bind (L3.at ?_)))))
  show wpAny _ _ (holding [Value.builtin "object.__class__"] (call (.builtin "getset_descriptor.__get__") [.builtin "object.__class__", .ref x, .ref D]) >>= ret) _ _ _
  refine wpAny_bind (wpAny_holding (wpAny_call (class_get (s := ⟨hp, g, d, t + 1, os⟩) (ox := ox) (od := od) X I hm ?_)))
  refine wpAny_pure ?_
  show wpAny _ _ (handedOut (.ref D)) _ _ _
  rw [handedOut_of (v := .ref D) rfl]
  first
    | exact wpAny_pure (wpAny_pure h)
    | exact wpAny_pure h
    | exact wpAny_pure (wpAny_bind (wpAny_pure (wpAny_pure h)))
theorem fz_kitx_excD (hga : findIn K (.ref D) "__getattribute__" = some (some (.builtin "BaseException.__getattribute__"))) (hgt : findIn K (.ref D) "__getattr__" = some none) (hsub : subIn K (.ref D) (.type "BaseException") = some true) (hdct : hasDictIn K D = true) (ha : findIn K (.ref D) "__class__" = some (some (.builtin "object.__class__")))
    (hn : specialIn K (.builtin "object.__class__") "__get__" = some (some (.builtin "getset_descriptor.__get__"))) (htk : takesIn K (.builtin "object.__class__") = some true) (hm : mroIn K D (.type "object") = some true) :
    KitX K (.ref x) (.ref D) (fun h => InstAt h x ox D od) where
  ty := fun _ _ _ I => I.type
  it := fun _ _ X _ => by
    obtain ⟨cdD, hcD, _⟩ := any_some hdct
    unfold clsIn at hcD
    split at hcD
    · rename_i c' d' cd' sl' ho
      intro A' Q' E' s' k q
      unfold isType loadHead
      exact wpAny_bind (wpAny_loadPart (k _ _ (X _ _ ho)) (wpAny_pure q))
    · cases hcD
  ne := fun h tp dd its n sl X htp => by
    obtain ⟨cdD, hcD, _⟩ := any_some hdct
    refine Bool.eq_false_iff.mpr fun q => ?_
    have e : D = tp := Value.ref.inj (beq_iff_eq.mp q)
    subst e
    unfold clsIn at hcD
    split at hcD
    · rename_i c' d' cd' sl' ho
      have z := (X _ _ ho).symm.trans htp
      cases z
    · cases hcD
  ca := fun X I k => kin_classED hga hgt hsub hdct ha hn htk hm X I k
end
end PySem.W
namespace Fz
open PySem L2
/-- isinstance(e, c), e the exception that the suite holds, d its dict -/
def rIsED (K : PySem.W.Frag) (D a : Addr) (cls : Value) (dv : Option Addr) : List V → Hp → VK → Prop := fun xs H Q => ∃ (d : Addr) (c : V) (cv : Value) (b : Bool) (fs : List (Str × V)), xs = [.ref a, c] ∧ cls = .ref D ∧ dv = some d ∧ ClsV c cv ∧ H d = some (.xd fs) ∧ PySem.W.kitOne K (.ref D) cv = some b ∧ Q (.bl b) H
/-- isinstance(e, (c, ..)) -/
def rIsEDT (K : PySem.W.Frag) (D a : Addr) (cls : Value) (dv : Option Addr) : List V → Hp → VK → Prop := fun xs H Q => ∃ (d tp : Addr) (cs : List V) (us : List Value) (b : Bool) (fs : List (Str × V)), xs = [.ref a, .ref tp] ∧ cls = .ref D ∧ dv = some d ∧ H tp = some (.tup cs) ∧ PySem.Paired ClsV cs us ∧ H d = some (.xd fs) ∧ PySem.W.kitAny K (.ref D) us = some b ∧ Q (.bl b) H
section
variable {X : Cx} {a D d : Addr} {oe : Obj} {cls : Value} {dv : Option Addr} {pn : List (Addr × Obj)}
theorem inst_ED {H : Hp} {pins : List (Addr × Obj)} {σ : St} {s : Shared} {fs : List (Str × V)} (hz : Zc (.ref D) (some d) oe) (hf : ∃ vs, oe.data = .fields vs) (I : Inv (X.suite a ((a, oe) :: pn)) pins σ H s) (hx : H d = some (.xd fs)) : ∃ od, PySem.W.InstAt s.heap a oe D (some od) := by
  obtain ⟨hget, _⟩ := I.pin (a, oe) (List.mem_append.mpr (.inl List.mem_cons_self))
  obtain ⟨vs, hv⟩ := hf
  have ho : ObjOk X.prog X.w H s.heap d (.xd fs) := I.hok d _ hx
  obtain ⟨mA, hns, hr⟩ := ho
  obtain ⟨od, ho, _⟩ := lookIn_ns hns
  exact ⟨od, hget, hz.1, by unfold PySem.W.notCls; rw [hv] <;> rfl, by rw [hz.2]; exact ho⟩
theorem call_isED (C : ExcC X.K D) (hz : Zc cls dv oe) (hf : ∃ vs, oe.data = .fields vs) : CallR (X.suite a ((a, oe) :: pn)) (.builtin "isinstance") (rIsED X.K D a cls dv) := by
  intro pins s σ H xs us Q I r h
  obtain ⟨d, c, cv, b, fs, rfl, rfl, rfl, hcv, hx, e, q⟩ := h
  cases r with
  | cons rx rr =>
    cases rr with
    | cons rt rr =>
      cases rr
      cases rx
      have ec := hcv.eq rt
      subst ec
      obtain ⟨od, J⟩ := inst_ED hz hf I hx
      exact PySem.W.kia_one (PySem.W.fz_kitx_excD C.hg C.hk C.hs C.hd C.ha C.hn C.ht C.hm) I.kIn J e (fun z => nomatch z) fun tk => ⟨.bl b, H, I.kept (t' := tk) fun _ _ z => z, rfl, q⟩
theorem call_isEDT (C : ExcC X.K D) (hz : Zc cls dv oe) (hf : ∃ vs, oe.data = .fields vs) : CallR (X.suite a ((a, oe) :: pn)) (.builtin "isinstance") (rIsEDT X.K D a cls dv) := by
  intro pins s σ H xs us Q I r h
  obtain ⟨d, tp, cs, ws, b, fs, rfl, rfl, rfl, hT, k, hx, e, q⟩ := h
  cases r with
  | cons rx rr =>
    cases rr with
    | cons rt rr =>
      cases rr
      cases rx
      cases (show _ = Value.ref tp from rt)
      obtain ⟨od, J⟩ := inst_ED hz hf I hx
      obtain ⟨_, its, rv, o, h1, h2, n, h3⟩ := (show ObjOk X.prog X.w H s.heap tp (.tup cs) from I.hok tp _ hT)
      have e3 := ClsV.all k rv
      subst e3
      obtain ⟨oc, od', dt, sl⟩ := o
      simp only at h2 h3
      subst h2 h3
      exact PySem.W.kia_tup (PySem.W.fz_kitx_excD C.hg C.hk C.hs C.hd C.ha C.hn C.ht C.hm) I.kIn J h1 e (fun z => nomatch z) fun tk => ⟨.bl b, H, I.tok tk, rfl, q⟩
end
end Fz

/-! ## FzO -/
set_option Elab.async false
set_option linter.all false
set_option maxRecDepth 100000
set_option maxHeartbeats 4000000
set_option autoImplicit false
/-! FzO: defs that may raise, what they promise; try .. except C as e. -/
namespace Fz
open PySem L2
/-- what may be raised: an own error with one field of data, or one without -/
inductive XV where
  | own (C : Addr) (fld : Str) (x : PyData)
  | bare (C : Addr)
def XV.out (K : PySem.W.Frag) (F H : Hp) (E : XK) : XV → Prop
  | .own C fld x => ∀ v d, Dq K F v x → H d = none → E (.ref C) (some d) (upd H d (.xd [(fld, v)]))
  | .bare C => E (.ref C) none H
section
variable {α β : Type}
/-- a def of data that may raise -/
def spDX (K : PySem.W.Frag) (a : β → List PyData) (Pre : β → Prop) (e : α → PyData) (Post : β → α → Prop) (PX : β → XV → Prop) : Sp := fun vs H Q E => ∃ F y, Sub F H ∧ DqAll K F vs (a y) ∧ Pre y ∧ (∀ x v F' H', Post y x → NxM [] F H F' H' → Dq K F' v (e x) → Q v H') ∧
  ∀ x F' H', PX y x → NxM [] F H F' H' → XV.out K F' H' E x
def XtD (B : Bg) (E : XK) (PX : XV → Prop) : Prop := ∀ x F σ H ε L, PX x → Rep B ε L F σ H → XV.out B.K F H E x
variable {P : Program} {w : World} {K : PySem.W.Frag} {mg : Str → Option Value} {base : Heap} {f : Addr} {fd : FuncData} {ps : List Str} {k : Nat}
theorem fn_DX {x qual : Str} {st : Stmt} {N : List Str} {a : β → List PyData} {Pre : β → Prop} {e : α → PyData} {Post : β → α → Prop} {PX : β → XV → Prop} (Fn : Fun K x qual st f fd) (S : FnScope N ps (defScope st)) (hps : ps.length ≤ N.length) (len : ∀ y, (a y).length = ps.length)
    (hbody : ∀ (cdv : Value) (A : Around) (outer : List Env) (s : Shared) (H : Hp) (E : XK), Room k (A.deeper (PyProof.Rows.envOfC qual (defScope st) s.heap.objs.size f cdv)) →
      ∃ t, PSs (cxOf (L2.CX P w) P w K mg base N qual (defScope st) f cdv A outer s H E) (defBody st) t ∧
        ∀ (B : Bg) (Q : VK) y, B.K = K → Pre y → RetD B Q e (Post y) → XtD B E (PX y) → Ho B (t { nx := fun _ H' => Q .non H', rt := Q }) (argE (a y) N.length) []) :
    FnOk P w K mg base (L2.CX P w) (k + 1) f fd ps (spDX K a Pre e Post PX) := by
  refine Fn.okX S (fun vs H Q E h => ?_) fun cdv A outer s H vs Q E hr h => ?_
  · obtain ⟨F, y, _, hd, _⟩ := h
    rw [dpa_len hd]; exact len y
  · obtain ⟨t, ht, hb⟩ := hbody cdv A outer s H E hr
    obtain ⟨F, y, hs, hd, hy, q, qx⟩ := h
    refine ⟨t, ht, hb ⟨K, F, H, []⟩ Q y rfl hy (fun x v F' σ' H' ε L hx r o => q x v F' H' hx r.nx o) (fun x F' σ' H' ε L hx r => qx x F' H' hx r.nx) F _ H (rep_start hs hd ?_)⟩
    rw [len y]; exact hps
section
variable {B : Bg} {ε ε' : Eps} {L La L' : Own} {te : TE} {tas tk : TA} {D : Ends} {e : α → PyData} {PX : XV → Prop} {E : XK} {W : L2.WX}
/-- raise C(e), out of the def -/
theorem x_raiseOwn {C : Addr} {fld : Str} (q : XtD B E PX) {x : PyData} (h : EX B te ε L (.d x) La) (hx : PX (.own C fld x)) : Ho B (tRaiseOwn C fld (fun cls d _ H => E cls d H) (tCons te tNil) D) ε L := fun F σ H r =>
  h F σ H r _ fun v F1 H1 s1 r1 o1 => ⟨v, rfl, fun d hd => q _ F1 σ H1 ε La hx r1 v d o1 hd⟩
/-- what is raised is taken -/
def HX (B : Bg) (W : L2.WX) (x : XV) (ε : Eps) (L : Own) : Prop := ∀ F σ H, Rep B ε L F σ H → XV.out B.K F H (fun cls d H' => W cls d σ H') x
variable {a : β → List PyData} {Pre : β → Prop} {P2 : β → α → Prop} {PX2 : β → XV → Prop} {κ : α → Own → Prop} {gV : List V → List V → List V}
theorem w_callDX (h : WA B tas ε L fun as L1 => ∃ y, as = (a y).map AD.d ∧ Pre y ∧ (∀ x, P2 y x → κ x L1) ∧ ∀ x, PX2 y x → HX B W x ε L1) : WV B e (tCallS (spDX B.K a Pre e P2 PX2) (WE W) tas) ε L κ := fun F σ H r Q q =>
  h F σ H r _ fun as L1 vs F1 H1 ⟨y, ea, hy, k, kx⟩ s1 r1 o1 => by
    subst ea
    exact ⟨F1, y, r1.sub, ad_data o1, hy, fun x v F' H' hx n o => q x L1 v F' H' (k x hx) (s1.tr n.1) (r1.call n) o, fun x F' H' hx n => kx x hx F' σ H' (r1.call n)⟩
/-- the same with keywords -/
def tCallKS (sp : Sp) (gV : List V → List V → List V) (E : St → XK) (t tk : TA) : TE := fun σ H Q => t σ H fun vs H1 => tk σ H1 fun zs H2 => sp (gV vs zs) H2 Q (E σ)
theorem w_callKDX (h : WA B tk ε L fun as L1 => ∃ y, (∀ K F zs, AdAll K F as zs → DqAll K F (gV [] zs) (a y)) ∧ Pre y ∧ (∀ x, P2 y x → κ x L1) ∧ ∀ x, PX2 y x → HX B W x ε L1) : WV B e (tCallKS (spDX B.K a Pre e P2 PX2) gV (WE W) tNil tk) ε L κ := fun F σ H r Q q =>
  h F σ H r _ fun as L1 vs F1 H1 ⟨y, ea, hy, k, kx⟩ s1 r1 o1 => ⟨F1, y, r1.sub, ea _ _ _ o1, hy, fun x v F' H' hx n o => q x L1 v F' H' (k x hx) (s1.tr n.1) (r1.call n) o, fun x F' H' hx n => kx x hx F' σ H' (r1.call n)⟩
/-! ### try .. except C as e -/
def cutE (D : Ends) (i : Nat) : Ends := { nx := fun σ' H' => D.nx (σ'.set i none) H', rt := D.rt, bk := fun σ' H' => D.bk (σ'.set i none) H', ct := fun σ' H' => D.ct (σ'.set i none) H' }
theorem Rep.gone {F : Hp} {σ : St} {H : Hp} (r : Rep B ε L F σ H) (i : Nat) : Rep B (ε.set i none) L F (σ.set i none) H := by
  refine ⟨r.sub, r.own, r.off, r.nd, fun j x e => ?_, by rw [List.length_set, List.length_set]; exact r.len, r.f0, r.h0, r.nc, r.mm⟩
  rw [List.getElem?_set] at e
  rw [List.getElem?_set, r.len]
  split at e
  · rename_i ij
    subst ij
    split at e
    · rename_i hl
      rw [if_pos rfl, if_pos hl]
      cases e
      exact ⟨_, rfl, trivial⟩
    · cases e
  · rename_i ij
    rw [if_neg ij]
    exact r.sl j x e
theorem ho_cut {Pn : St → Hp → Prop} {i : Nat} (h : Ho B Pn (ε.set i none) L) : Ho B (fun σ' H' => Pn (σ'.set i none) H') ε L := fun F σ H r => h F _ H (r.gone i)
theorem Rep.know {F : Hp} {σ : St} {H : Hp} (r : Rep B ε L F σ H) {v : V} {d : PyData} (h : Dq B.K F v d) : Rep B ε (.know v d :: L) F σ H :=
  ⟨r.sub, fun m hm => by
    rcases List.mem_cons.mp hm with e | e
    · rw [e]; exact h
    · exact r.own m e, r.off, r.nd, r.sl, r.len, r.f0, r.h0, r.nc, r.mm⟩
theorem hx_as {C : Addr} {fld : Str} {x : PyData} {i : Nat} {ts : Addr → Value → Option Addr → TS} {Wout : L2.WX} (te : PySem.W.exmOne B.K (.ref C) (.ref C) = some true)
    (h : ∀ (ad d : Addr) (v : V), d ∉ B.M → Ho B (ts ad (.ref C) (some d) (cutE D i)) (ε.set i (some (.v (.ref ad)))) (.raw d (.xd [(fld, v)]) :: .know v x :: L)) : HX B (wAs B.K (.ref C) i ts Wout D) (.own C fld x) ε L := fun F σ H r v d o hd =>
  ⟨true, te, fun _ ad _ => h ad d v (r.newM hd) F _ _ (((r.know o).alloc hd (m := .raw d (.xd [(fld, v)])) rfl ⟨upd_same, fun _ z => nomatch z⟩).slot (a := .v (.ref ad)) rfl), fun z => nomatch z⟩
/-- e.f -/
theorem ex_xf {ad d C : Addr} {fld : Str} {v : V} {x : PyData} {j i : Nat} (hs : ε[i]? = some (some (.v (.ref ad)))) (h1 : At L j (.raw d (.xd [(fld, v)]))) (h2 : MO.know v x ∈ L) : EX B (tXf ad (.ref C) (some d) C fld (tVar i)) ε L (.d x) L := fun F σ H r Q q => by
  obtain ⟨s, g1, y, rfl, g2⟩ := r.sl i _ hs
  have e : y = .ref ad := g2
  subst e
  have k := r.own _ (List.mem_of_getElem? h1.get)
  have o := r.own _ h2
  exact ⟨.ref ad, g1, rfl, rfl, d, _, v, rfl, k.1, by simp [List.lookup], q v F H (Sub.rfl' F) r o⟩
/-- isinstance(e, c) -/
theorem ex_isED {ad d C : Addr} {fs : List (Str × V)} {i j : Nat} {c : V} {cv : Value} {b : Bool} (hs : ε[i]? = some (some (.v (.ref ad)))) (h1 : At L j (.raw d (.xd fs))) (hc : ClsV c cv) (hk : PySem.W.kitOne B.K (.ref C) cv = some b) : EX B (tCB (rIsED B.K C ad (.ref C) (some d)) (tCons (tVar i) (tCons (tC c) tNil))) ε L (.d (.bool b)) L := fun F σ H r Q q => by
  obtain ⟨s, g1, y, rfl, g2⟩ := r.sl i _ hs
  have e : y = .ref ad := g2
  subst e
  exact ⟨.ref ad, g1, d, c, cv, b, fs, rfl, rfl, rfl, hc, (r.own _ (List.mem_of_getElem? h1.get)).1, hk, q _ F H (Sub.rfl' F) r (.bl b)⟩
/-- a row of classes -/
def tRefs : List Addr → TA
  | [] => tNil
  | c :: cs => tCons (tC (.ref c)) (tRefs cs)
theorem refs_run : ∀ (cs : List Addr) (σ : St) (H : Hp) (Q : List V → Hp → Prop), Q (cs.map V.ref) H → tRefs cs σ H Q
  | [], _, _, _, h => h
  | c :: cs, σ, H, Q, h => refs_run cs σ H (fun vs H1 => Q (.ref c :: vs) H1) h
theorem clsV_refs : ∀ cs : List Addr, PySem.Paired ClsV (cs.map V.ref) (cs.map Value.ref)
  | [] => .nil
  | c :: cs => .cons (.own c) (clsV_refs cs)
theorem ex_isEDT {ad d C : Addr} {fs : List (Str × V)} {i j : Nat} {b : Bool} (cs : List Addr) (hs : ε[i]? = some (some (.v (.ref ad)))) (h1 : At L j (.raw d (.xd fs))) (hl : cs.length ≤ 100000) (hk : PySem.W.kitAny B.K (.ref C) (cs.map Value.ref) = some b) :
    EX B (tCB (rIsEDT B.K C ad (.ref C) (some d)) (tCons (tVar i) (tCons (tTup (tRefs cs)) tNil))) ε L (.d (.bool b)) L := fun F σ H r Q q => by
  obtain ⟨s, g1, y, rfl, g2⟩ := r.sl i _ hs
  have e : y = .ref ad := g2
  subst e
  refine ⟨.ref ad, g1, refs_run cs σ H _ ⟨?_, fun p hp => ?_⟩⟩
  · have : cs.length ≤ sizeLine := by rw [sizeLine_eq]; omega
    rw [List.length_map]; exact this
  · have r1 := r.heap (sub_fresh (o := .tup (cs.map V.ref)) hp)
    exact ⟨d, p, cs.map V.ref, cs.map Value.ref, b, fs, rfl, rfl, rfl, upd_same, clsV_refs cs, (r1.own _ (List.mem_of_getElem? h1.get)).1, hk, q _ F _ (Sub.rfl' F) r1 (.bl b)⟩
end
end
/-! ### defs that may raise, called -/
structure DfX (P : Program) (w : World) (K : PySem.W.Frag) (mg : Str → Option Value) (base : Heap) (k : Nat) (x : Str) (ps : List Str) (sp : Sp) : Prop where
  ex : ∃ f fd, FnOk P w K mg base (L2.CX P w) k f fd ps sp ∧ mg x = some (.ref f) ∧ PySem.W.keepIn K (.ref f) = true ∧ Binds K fd ps []
structure DfXK (P : Program) (w : World) (K : PySem.W.Frag) (mg : Str → Option Value) (base : Heap) (k : Nat) (x : Str) (ps ks : List Str) (g : List Value → List Value → List Value) (gV : List V → List V → List V) (sp : Sp) : Prop where
  ex : ∃ f fd, FnOk P w K mg base (L2.CX P w) k f fd ps sp ∧ mg x = some (.ref f) ∧ PySem.W.keepIn K (.ref f) = true ∧ KBinds K fd ps ks g gV
theorem DfX.mk' {P : Program} {w : World} {K : PySem.W.Frag} {mg : Str → Option Value} {base : Heap} {k : Nat} {x : Str} {ps : List Str} {sp : Sp} {f : Addr} {fd : FuncData} (F : FnOk P w K mg base (L2.CX P w) k f fd ps sp) (m : mg x = some (.ref f)) (kp : PySem.W.keepIn K (.ref f) = true) (b : Binds K fd ps []) : DfX P w K mg base k x ps sp := ⟨f, fd, F, m, kp, b⟩
section
variable {X : Cx} {k : Nat} {x : Str} {ps ks : List Str} {sp : Sp} {p pos : Pos} {e : Expr} {es : List Expr} {kws : List Keyword} {t tk : TA} {g : List Value → List Value → List Value} {gV : List V → List V → List V} {W : L2.WX}
theorem pe_callX (C : DfX X.prog X.w X.K X.mg X.base k x ps sp) (hr : Room k X.A) (tw : Takes X W) (hg : Gl X x) (ha : PA X (e :: es) t) (hdb : (x == ("__debug__" : Str)) = false := by decide)
    (he : starEach (e :: es) X.env = (false, eval e X.env) :: starEach es X.env := by rfl) (hpl : (backTo pos (starEach es X.env)).any (·.1) = false := by rfl) : PE X (.Call (.Name x p) (e :: es) [] pos) (tCallS sp (WE W) t) := by
  obtain ⟨f, fd, F, m, kp, b⟩ := C.ex
  exact pe_callS F hr hg m kp b (fun σ => passAt tw σ) ha hdb he hpl
theorem run_fnkS {pins : List (Addr × Obj)} {σ : St} {H : Hp} {s : Shared} {Q : VK} {us ws : List Value} {vs zs : List V} {CX : CXT} {f : Addr} {fd : FuncData} {E : XK} (F : FnOk X.prog X.w X.K X.mg X.base CX k f fd ps sp) (hr : Room k X.A) (hb : KBinds X.K fd ps ks g gV) (hx : PassesAt CX X σ E)
    (I : Inv X pins σ H s) (r : Vals vs us) (rz : Vals zs ws) (h : sp (gV vs zs) H Q E) : wpAny (model X.prog X.w) X.A (call (.ref f) us (ks.zip ws)) (EP X pins σ Q) X.xe s := by
  have r2 := hb.rel r rz
  have hl : (g us ws).length = ps.length := by rw [← r2.length]; exact F.len _ _ _ _ h
  refine wpAny_call (codeAny_mono (F.run X.A X.stack s H ⟨us, ks.zip ws⟩ (g us ws) (gV vs zs) Q E hr I.env0 (hb.to s us ws I.kIn hl) r2 h) fun r s' hq => ?_)
  cases r with
  | error e => exact hx pins H s e s' I hq
  | ok fl =>
    cases fl with
    | ret u => exact I.after hq
    | next => exact False.elim hq
    | brk => exact False.elim hq
    | cont => exact False.elim hq
theorem pe_callKX (C : DfXK X.prog X.w X.K X.mg X.base k x ps ks g gV sp) (hr : Room k X.A) (tw : Takes X W) (hg : Gl X x) (hkw : PK X kws tk) (hall : (backToKw pos (keywordEach kws X.env)).all (·.1.isSome) = true := by rfl)
    (hks : (backToKw pos (keywordEach kws X.env)).filterMap (·.1) = ks := by rfl) (hdb : (x == ("__debug__" : Str)) = false := by decide)
    (hpl : ((backTo pos (starEach [] X.env)).any (·.1) || (backToKw pos (keywordEach kws X.env)).any (·.1.isNone)) = false := by rfl) : PE X (.Call (.Name x p) [] kws pos) (tCallKS sp gV (WE W) tNil tk) := by
  obtain ⟨f, fd, F, m, kp, b⟩ := C.ex
  refine ⟨fun pins s σ H Q I h => ?_⟩
  refine wpAny_Call_Name_kw (ld_glob I hg m ?_ hdb)
  refine PySem.W.callWith_KW0 (h₀ := X.base) I.ok.mod.kin kp hall (thn (hkw.run pos pins s σ H _ I h) fun ws s2 ⟨zs, H2, I2, rz, q2⟩ => ⟨I2.kIn, ?_⟩) hpl
  rw [hks]
  exact run_fnkS F hr b (passAt tw σ) I2 .nil rz q2
variable {n : Str} {c : Value} {i : Nat} {body suite : List Stmt} {b₀ : Stmt} {np pos' : Pos} {Wout : L2.WX}
/-- try: body / except x as n: suite; the wishes of both carried along -/
theorem ps_try_asT (hs : X.stack = X.env :: X.outer) (hf : X.env.frame = some X.env.locals) (hN : X.N.Nodup) (hi : X.N[i]? = some n) (hln : X.env.kindOf n = some .local) (hc : Names X x c) (tk : Takes X Wout)
    (hb : (W : L2.WX) → {t : TS // ∀ (pn : List (Addr × Obj)) (xe : Value → Shared → Prop), Takes (X.tr pn xe) W → PassesOwn (model X.prog X.w) X.A X.env xe → PSs (X.tr pn xe) body t})
    (hsu : (a : Addr) → (cls : Value) → (d : Option Addr) → {t : TS // ∀ (oe : Obj) (pn : List (Addr × Obj)), Zc cls d oe → (∃ vs, oe.data = .fields vs) → PSs (X.suite a ((a, oe) :: pn)) (b₀ :: suite) t}) :
    PS X (.Try body [.ExceptHandler (some (.Name x np)) (some n) (b₀ :: suite) pos'] [] [] pos) (fun D σ H => (hb (wAs X.K c i (fun a cls d => (hsu a cls d).1) Wout D)).1 D σ H) :=
  ps_try_as (tb := fun W => (hb W).1) (ts := fun a cls d => (hsu a cls d).1) hs hf hN hi hln hc tk (fun W pn xe t p => (hb W).2 pn xe t p) (fun a oe cls d pn z f => (hsu a cls d).2 oe pn z f)
end
section
variable {X : Cx} {K : PySem.W.Frag} {T id : String} {name : Str} {r : V → List V → Hp → VK → Prop} {o e : Expr} {es : List Expr} {to : TE} {t : TA} {apos cpos : Pos}
/-- a method's call, the written part named -/
theorem pe_bmK (hK : X.K = K) (pa : PlainAttrs T) (slot : Slot T name id) (hty : typeOf (.builtin id) = pure (.type "method_descriptor")) (hm : MtR X id r) (ho : PE X o to) (ha : PA X (e :: es) t)
    (hbase : attributeBase o name X.env (eval o X.env) = eval o X.env := by rfl)
    (hfew : ((backTo cpos (starEach (e :: es) X.env)).all (fun x => !x.1) && (backToKw cpos (keywordEach [] X.env)).all (fun x => x.1.isSome)
      && decide ((e :: es).length + ([] : List Keyword).length + (if ([] : List Keyword).isEmpty then 0 else 1) < 30)) = true := by rfl)
    (hline : (apos.endLine == cpos.line) = true := by rfl) (hs : starEach (e :: es) X.env = (false, eval e X.env) :: starEach es X.env := by rfl) (hplain : (backTo cpos (starEach es X.env)).any (·.1) = false := by rfl) :
    PE X (.Call (.Attribute o name apos) (e :: es) [] cpos) (tBM K T r to t) := by
  subst hK
  exact pe_bm pa slot hty hm ho ha hbase hfew hline hs hplain
end
end Fz

/-! ## FzI -/
set_option Elab.async false
set_option linter.all false
set_option maxRecDepth 100000
set_option maxHeartbeats 4000000
set_option autoImplicit false
/-! FzI: isinstance of data; enumerate over a tuple. -/
namespace Fz
open PySem L2
/-! ### isinstance -/
def tyN : PyData → String
  | .none => "NoneType"
  | .bool _ => "bool"
  | .int _ => "int"
  | .str _ => "str"
  | .list _ => "list"
  | .tuple _ => "tuple"
  | .dict _ => "dict"
def isTup : PyData → Bool
  | .tuple _ => true
  | _ => false
def isLst : PyData → Bool
  | .list _ => true
  | _ => false
def isStr : PyData → Bool
  | .str _ => true
  | _ => false
def isBl : PyData → Bool
  | .bool _ => true
  | _ => false
/-- a bool is an int -/
def isInt : PyData → Bool
  | .int _ => true
  | .bool _ => true
  | _ => false
theorem dq_ty {K : PySem.W.Frag} {F H : Hp} {v : V} {d : PyData} (h : Dq K F v d) (s : Sub F H) : TyX K H v (.type (tyN d)) := by
  cases h with
  | non => exact .base .non
  | bl b => exact .base (.bl b)
  | int i => exact .base (.int i)
  | str x => exact .base (.str x)
  | lst a _ => exact .base (.lst (s _ _ a))
  | tup a _ => exact .base (.tup (s _ _ a))
  | dic a _ => exact .base (.dK (s _ _ a))
  | dit a _ => exact .base (.dT (s _ _ a))
theorem kit_tup (K : PySem.W.Frag) : ∀ d : PyData, PySem.W.kitOne K (.type (tyN d)) (.type "tuple") = some (isTup d)
  | .none => kit_ty (a := "NoneType") (b := "tuple") (r := false) (by decide +kernel)
  | .bool _ => kit_ty (a := "bool") (b := "tuple") (r := false) (by decide +kernel)
  | .int _ => kit_ty (a := "int") (b := "tuple") (r := false) (by decide +kernel)
  | .str _ => kit_ty (a := "str") (b := "tuple") (r := false) (by decide +kernel)
  | .list _ => kit_ty (a := "list") (b := "tuple") (r := false) (by decide +kernel)
  | .tuple _ => kit_ty (a := "tuple") (b := "tuple") (r := true) (by decide +kernel)
  | .dict _ => kit_ty (a := "dict") (b := "tuple") (r := false) (by decide +kernel)
theorem kit_lst (K : PySem.W.Frag) : ∀ d : PyData, PySem.W.kitOne K (.type (tyN d)) (.type "list") = some (isLst d)
  | .none => kit_ty (a := "NoneType") (b := "list") (r := false) (by decide +kernel)
  | .bool _ => kit_ty (a := "bool") (b := "list") (r := false) (by decide +kernel)
  | .int _ => kit_ty (a := "int") (b := "list") (r := false) (by decide +kernel)
  | .str _ => kit_ty (a := "str") (b := "list") (r := false) (by decide +kernel)
  | .list _ => kit_ty (a := "list") (b := "list") (r := true) (by decide +kernel)
  | .tuple _ => kit_ty (a := "tuple") (b := "list") (r := false) (by decide +kernel)
  | .dict _ => kit_ty (a := "dict") (b := "list") (r := false) (by decide +kernel)
theorem kit_str (K : PySem.W.Frag) : ∀ d : PyData, PySem.W.kitOne K (.type (tyN d)) (.type "str") = some (isStr d)
  | .none => kit_ty (a := "NoneType") (b := "str") (r := false) (by decide +kernel)
  | .bool _ => kit_ty (a := "bool") (b := "str") (r := false) (by decide +kernel)
  | .int _ => kit_ty (a := "int") (b := "str") (r := false) (by decide +kernel)
  | .str _ => kit_ty (a := "str") (b := "str") (r := true) (by decide +kernel)
  | .list _ => kit_ty (a := "list") (b := "str") (r := false) (by decide +kernel)
  | .tuple _ => kit_ty (a := "tuple") (b := "str") (r := false) (by decide +kernel)
  | .dict _ => kit_ty (a := "dict") (b := "str") (r := false) (by decide +kernel)
theorem kit_bool (K : PySem.W.Frag) : ∀ d : PyData, PySem.W.kitOne K (.type (tyN d)) (.type "bool") = some (isBl d)
  | .none => kit_ty (a := "NoneType") (b := "bool") (r := false) (by decide +kernel)
  | .bool _ => kit_ty (a := "bool") (b := "bool") (r := true) (by decide +kernel)
  | .int _ => kit_ty (a := "int") (b := "bool") (r := false) (by decide +kernel)
  | .str _ => kit_ty (a := "str") (b := "bool") (r := false) (by decide +kernel)
  | .list _ => kit_ty (a := "list") (b := "bool") (r := false) (by decide +kernel)
  | .tuple _ => kit_ty (a := "tuple") (b := "bool") (r := false) (by decide +kernel)
  | .dict _ => kit_ty (a := "dict") (b := "bool") (r := false) (by decide +kernel)
theorem kit_int (K : PySem.W.Frag) : ∀ d : PyData, PySem.W.kitOne K (.type (tyN d)) (.type "int") = some (isInt d)
  | .none => kit_ty (a := "NoneType") (b := "int") (r := false) (by decide +kernel)
  | .bool _ => kit_ty (a := "bool") (b := "int") (r := true) (by decide +kernel)
  | .int _ => kit_ty (a := "int") (b := "int") (r := true) (by decide +kernel)
  | .str _ => kit_ty (a := "str") (b := "int") (r := false) (by decide +kernel)
  | .list _ => kit_ty (a := "list") (b := "int") (r := false) (by decide +kernel)
  | .tuple _ => kit_ty (a := "tuple") (b := "int") (r := false) (by decide +kernel)
  | .dict _ => kit_ty (a := "dict") (b := "int") (r := false) (by decide +kernel)
section
variable {B : Bg} {ε : Eps} {L La : Own} {te : TE} {d : PyData}
theorem ex_isi {n : String} {b : Bool} (h : EX B te ε L (.d d) La) (k : PySem.W.kitOne B.K (.type (tyN d)) (.type n) = some b) : EX B (tCB (rIsi B.K) (tCons te (tCons (tC (.ty n)) tNil))) ε L (.d (.bool b)) La := fun F σ H r Q q =>
  h F σ H r _ fun v F1 H1 s1 r1 o1 => ⟨v, .ty n, _, _, b, rfl, .ty n, dq_ty o1 r1.sub, k, q _ F1 H1 s1 r1 (.bl b)⟩
theorem ex_isTup (h : EX B te ε L (.d d) La) : EX B (tCB (rIsi B.K) (tCons te (tCons (tC (.ty "tuple")) tNil))) ε L (.d (.bool (isTup d))) La := ex_isi h (kit_tup _ d)
theorem ex_isLst (h : EX B te ε L (.d d) La) : EX B (tCB (rIsi B.K) (tCons te (tCons (tC (.ty "list")) tNil))) ε L (.d (.bool (isLst d))) La := ex_isi h (kit_lst _ d)
theorem ex_isStr (h : EX B te ε L (.d d) La) : EX B (tCB (rIsi B.K) (tCons te (tCons (tC (.ty "str")) tNil))) ε L (.d (.bool (isStr d))) La := ex_isi h (kit_str _ d)
theorem ex_isBl (h : EX B te ε L (.d d) La) : EX B (tCB (rIsi B.K) (tCons te (tCons (tC (.ty "bool")) tNil))) ε L (.d (.bool (isBl d))) La := ex_isi h (kit_bool _ d)
theorem ex_isInt (h : EX B te ε L (.d d) La) : EX B (tCB (rIsi B.K) (tCons te (tCons (tC (.ty "int")) tNil))) ε L (.d (.bool (isInt d))) La := ex_isi h (kit_int _ d)
end
end Fz
/-! ### enumerate over a tuple -/
namespace PySem
set_option maxHeartbeats 1000000 in
theorem fz_meets_enumT (l : Addr) (items : Array Value) (n : Nat) (dct : Option Addr) (sl : Array (Option Value)) :
    Meets (Builtin.«enumerate.__new__» ⟨[.type "enumerate", .ref l], []⟩) (fun _ R s => s.heap.get? l = some { cls := .type "tuple", dict := dct, data := .seq items n, slots := sl } ∧
      R (.ok (.ret (.ref (s.heap.push { cls := .type "tuple_iterator", data := .fields #[.ref l, .int 0 0] }).objs.size)))
        { s with heap := (s.heap.push { cls := .type "tuple_iterator", data := .fields #[.ref l, .int 0 0] }).push { cls := .type "enumerate", data := .fields #[.none, .bool false, .ref s.heap.objs.size, rawInt 0, .none, .none] } }) :=
  .of_wp fun prog w A R s h => by
    obtain ⟨hp, g, d, tk, os⟩ := s; obtain ⟨hl, h⟩ := h
    have hsub := sub_enumerate
    have hL : Heap.IsTuple (Shared.heap ⟨hp, g, d, tk, os⟩) l items := ⟨_, hl, rfl, n, rfl⟩
    wp_walk using AutoSeq1.wpAny_loadPart' hl
    refine wpAny_stack_any fun st => wpAny_pure ?_
    split
    · rename_i c _ _ _ _ _
      cases (c == Value.type "enumerate")
      · wp_walk using AutoSeq1.wpAny_loadPart' hl, wpAny_pyIter_tuple hL
        exact ⟨_, rfl, h⟩
      · wp_walk using AutoSeq1.wpAny_loadPart' hl, wpAny_pyIter_tuple hL
        exact ⟨_, rfl, h⟩
    · wp_walk using AutoSeq1.wpAny_loadPart' hl, wpAny_pyIter_tuple hL
      exact ⟨_, rfl, h⟩
section
variable {prog : Program} {w : World} {A : Around} {E : Value → Shared → Prop} {s : Shared}
theorem fz_call_enumT {l : Addr} {items : Array Value} {Q : Value → Shared → Prop} (hL : s.heap.IsTuple l items)
    (h : ∀ h', IsEnum h' (s.heap.objs.size + 1) s.heap.objs.size 0 .none → h'.IsTupleIter s.heap.objs.size l 0 → h'.objs.size = s.heap.objs.size + 2 →
      (∀ b o, s.heap.get? b = some o → h'.get? b = some o) → Q (.ref (s.heap.objs.size + 1)) { s with heap := h' }) :
    wpAny (model prog w) A (call (.type "enumerate") [.ref l]) Q E s := by
  obtain ⟨⟨c, dct, dt, sl⟩, hl, hc, n, hd⟩ := hL
  replace hc : c = .type "tuple" := hc
  replace hd : dt = .seq items n := hd
  subst hc hd
  refine callType_new F.called_enumerate (by decide) (F.typeCall_enumerate_1 _) (F.newCall_enumerate_1 _) (fun obj => F.args_object_init_2 obj _) F.entry_enumerate_new
    (fz_meets_enumT l items n dct sl) ⟨hl, ?_⟩
  have hz : (s.heap.push { cls := .type "tuple_iterator", data := .fields #[.ref l, .int 0 0] }).objs.size = s.heap.objs.size + 1 := Heap.size_push ..
  show _ ∧ _
  rw [hz]
  have he : IsEnum ((s.heap.push { cls := .type "tuple_iterator", data := .fields #[.ref l, .int 0 0] }).push
      { cls := .type "enumerate", data := .fields #[.none, .bool false, .ref s.heap.objs.size, rawInt 0, .none, .none] }) (s.heap.objs.size + 1) s.heap.objs.size 0 .none := by
    have := Heap.get?_push_size (s.heap.push { cls := .type "tuple_iterator", data := .fields #[.ref l, .int 0 0] })
      (o := { cls := .type "enumerate", data := .fields #[.none, .bool false, .ref s.heap.objs.size, rawInt 0, .none, .none] }) rfl
    rw [hz] at this; exact this
  refine ⟨⟨_, he, rfl⟩, h _ he ⟨_, Heap.get?_push_of_some _ (Heap.get?_push_size _ rfl), rfl, rfl⟩ (by rw [Heap.size_push, hz]) fun b o x => Heap.get?_push_of_some _ (Heap.get?_push_of_some _ x)⟩
end
end PySem

/-! ## FzJ -/
set_option Elab.async false
set_option linter.all false
set_option maxRecDepth 100000
set_option maxHeartbeats 4000000
set_option autoImplicit false
/-! FzJ: for .. in enumerate(a tuple). -/
namespace L2
open PySem PySem.Spec PyProof.Rows
/-- the tuple at a as it stands, the items in new pairs -/
def Itet (K : PySem.W.Frag) (a : Addr) : It :=
  ⟨fun i H => ∃ (xs : List V) (x : V), SqT K H a xs ∧ xs[i]? = some x, fun i H v H' => ∃ T x, v = .ref T ∧ H T = none ∧ H' = upd H T (.tup [.int (i : Nat), x]) ∧ ∀ xs, SqT K H a xs → xs[i]? = some x, fun i H => ∃ xs : List V, SqT K H a xs ∧ xs.length ≤ i⟩
theorem turn_enumT {P : Program} {w : World} {K : PySem.W.Frag} {elts : List Expr} {kk : Nat} {tpos : Pos} (a e it : Addr) :
    Turn P w K (.Tuple elts kk tpos) (Itet K a) [e, it] e (fun i h => (∃ old, IsEnum h e it ((i : Nat) : Int) old) ∧ h.IsTupleIter it a i ∧ e ≠ it) where
  mem := by simp
  obj := fun i h st b hb => by
    obtain ⟨⟨old, he⟩, ⟨o, ho, hc, hd⟩, _⟩ := st
    have e' : b = e ∨ b = it := by simpa using hb
    rcases e' with z | z
    · rw [z]; exact ⟨_, he, fun v q => nomatch q⟩
    · rw [z]; exact ⟨o, ho, fun v q => by rw [hd] at q; cases q⟩
  keep := fun i h h' st k => let ⟨⟨old, he⟩, hi, hne⟩ := st; ⟨⟨old, k e (by simp) _ he⟩, hi.at fun o q => k it (by simp) o q, hne⟩
  item := by
    intro X hP hw hK hc i pins s σ H E I hf st hg
    subst hP hw hK
    obtain ⟨⟨old, he⟩, hit, hne⟩ := st
    obtain ⟨xs, x, hq, hx⟩ := hg
    obtain ⟨its, rv, p, hz⟩ := I.tuple hq
    have p : s.heap.IsTuple a its.toArray := p
    obtain ⟨u, hu, ru⟩ := rv.get hx
    have hel : e < s.heap.objs.size := Heap.lt_size he
    have hil : it < s.heap.objs.size := by obtain ⟨_, q, _⟩ := hit; exact Heap.lt_size q
    have hai : a ≠ it := fun z => by
      obtain ⟨oi, q1, q2, q3⟩ := hit
      obtain ⟨ot, q4, q5, n, q6⟩ := p
      rw [z, q1] at q4
      cases q4
      rw [q3] at q6; cases q6
    have hae : a ≠ e := fun z => by
      obtain ⟨ot, q4, q5, n, q6⟩ := p
      rw [z, he] at q4
      cases q4
      cases q6
    have D := Draws.tuple (prog := X.prog) (w := X.w) (A := X.A.in1) (show X.A.in1.handled = none from I.ok.hd hc) it a hai its.toArray
    have hlt : i < its.toArray.size := by
      have := (List.getElem?_eq_some_iff.mp hu).1
      simpa using this
    refine wpAny_pyNext_enum_itemD D he ⟨hit, p⟩ hlt hne (by simp; exact ⟨hne, fun z => hae z.symm⟩) fun y h' tk hP ho hs' hT hsz hk => ?_
    have ey : y = u := by
      have e1 : its.toArray[i]? = some u := by simpa using hu
      rw [e1] at hP
      exact (Option.some.inj hP).symm
    subst ey
    have hit' := hs'.1
    refine ⟨_, rfl, wpAny_letOwnedTupleGo_enum (s := { s with heap := h', toks := tk + 1 }) ho fun h'' he' sb => ?_⟩
    have hT2 : h''.get? s.heap.objs.size = some { cls := .type "tuple", data := .seq #[.int i tk, y] } := (sb.2 _ (Nat.ne_of_gt hel)).trans hT
    have new : ObjOk X.prog X.w (upd H s.heap.objs.size (.tup [.int (i : Nat), x])) h'' s.heap.objs.size (.tup [.int (i : Nat), x]) :=
      ⟨by show 2 ≤ sizeLine; decide, [.int i tk, y], .cons ⟨_, rfl⟩ (.cons ru .nil), ⟨_, hT2, rfl, _, rfl⟩⟩
    have I1 : Inv X pins σ (upd H s.heap.objs.size (.tup [.int (i : Nat), x])) { s with heap := h'', toks := tk + 1 } :=
      I.turnedNew (ch := [e, it]) (fun b ob hb q => (sb.2 b (fun z => hb (by simp [z]))).trans (hk b ob (fun z => hb (by simp [z])) (fun z => hb (by simp [z])) q)) hf (Nat.le_refl _) new
    refine ⟨.ref s.heap.objs.size, _, I1, rfl, ⟨_, x, rfl, I.hok.fresh (Nat.le_refl _), rfl, fun ys hy => by rw [I.tuple_inj hy hq]; exact hx⟩, ⟨⟨y, ?_⟩, hit'.at fun o q => (sb.2 it (Ne.symm hne)).trans q, hne⟩, fun b hb => ?_⟩
    · have e1 : ((i + 1 : Nat) : Int) = (i : Int) + 1 := by omega
      rw [e1]; exact he'
    · have hb' : b < s.heap.objs.size := by
        have e' : b = e ∨ b = it := by simpa using hb
        rcases e' with z | z
        · rw [z]; exact hel
        · rw [z]; exact hil
      rw [upd_ne (Nat.ne_of_lt hb')]
      exact (hf b hb).1
  done := by
    intro X hP hw hK hc i pins s σ H E I hf st hg
    subst hP hw hK
    obtain ⟨⟨old, he⟩, hit, hne⟩ := st
    obtain ⟨xs, hq, hx⟩ := hg
    obtain ⟨its, rv, p, hz⟩ := I.tuple hq
    have p : s.heap.IsTuple a its.toArray := p
    obtain ⟨f0, f1, f2, f3, f4, f5⟩ := hf it (by simp)
    have hl := rv.length
    have hai : a ≠ it := fun z => by
      obtain ⟨oi, q1, q2, q3⟩ := hit
      obtain ⟨ot, q4, q5, n, q6⟩ := p
      rw [z, q1] at q4
      cases q4
      rw [q3] at q6; cases q6
    have hT : s.TypeIs (.ref e) "enumerate" := ⟨_, he, rfl⟩
    unfold pyNext
    refine wpAny_bind (wpAny_attempt (wpAny_callSpecial?_slot (name := Str.ofString "__next__") hT F.slot_enumerate_next
      (wpAny_call_entry F.slot_enumerate_next hT F.entry_enumerate_next ?_ (F.args_enumerate_next_1 _))))
    show wpAny _ _ (field (.ref e) 2 >>= _) _ _ _
    refine wpAny_bind (wpAny_field he rfl (x := .ref it) rfl ?_)
    refine wpAny_bind (wpAny_nextOf_tuple_end (A := X.A.in1) (show X.A.in1.handled = none from I.ok.hd hc) hit p (by simp; omega) fun h' x he' hx' => ?_)
    obtain ⟨o, ho, hcl⟩ := hx'
    refine wpAny_bind (wpAny_isInstance (T := "StopIteration") (b := true) ⟨o, ho, hcl⟩ isSubtype_stop ?_)
    exact wpAny_pure ⟨rfl, I.turned (t' := s.toks) (fun b o hb q => he' b o hb q) f0 f1 f3 f4 f5⟩
  self := fun A i s Q E st h => let ⟨⟨_, he⟩, _⟩ := st; wpAny_pyIter_enum he h
def iEnumT (K : PySem.W.Frag) (ta : TA) : TI := fun σ H R => ta σ H fun vs H1 => ∃ a xs, vs = [.ref a] ∧ SqT K H1 a xs ∧ R (Itet K a) H1
theorem pi_enumT {X : Cx} {e : Expr} {ta : TA} {p pos tpos : Pos} {elts : List Expr} {kk : Nat} (hg : Gl X "enumerate") (hm : X.mg "enumerate" = none) (ha : PA X [e] ta) (hs : starEach [e] X.env = [(false, eval e X.env)] := by rfl) :
    PI X (.Tuple elts kk tpos) (.Call (.Name "enumerate" p) [e] [] pos) (iEnumT X.K ta) := by
  refine ⟨fun pins s σ H R I h => ?_⟩
  refine Call_ (ld_blt I hg hm boot_enumerate (PyProof.Rows.callWith_type1 (thn (ha.run pos pins s σ H _ I h) fun us s1 ⟨vs, H1, I1, r1, q1⟩ => ?_) hs rfl))
  obtain ⟨a, xs, ex, hq, q⟩ := q1
  subst ex
  cases r1 with
  | cons r rr =>
    cases rr
    cases r
    obtain ⟨its, rv, p', hz⟩ := I1.tuple hq
    refine fz_call_enumT (show s1.heap.IsTuple a its.toArray from p') fun h' he hit hsz hk => wpAny_pyIter_enum he ?_
    have I2 : Inv X pins σ H1 { s1 with heap := h' } := I1.kept (t' := s1.toks) hk
    refine ⟨s1.heap.objs.size + 1, [s1.heap.objs.size + 1, s1.heap.objs.size], _, _, H1, rfl, I2, turn_enumT a (s1.heap.objs.size + 1) s1.heap.objs.size, ⟨⟨.none, he⟩, hit, Nat.succ_ne_self _⟩, fun b hb => ?_, q⟩
    have e' : b = s1.heap.objs.size + 1 ∨ b = s1.heap.objs.size := by simpa using hb
    have hle : s1.heap.objs.size ≤ b := by
      rcases e' with z | z
      · rw [z]; exact Nat.le_add_right _ _
      · rw [z]; exact Nat.le_refl _
    exact I1.fpOk hle (I1.hok.fresh hle)
end L2
namespace Fz
open PySem L2
section
variable {B : Bg} {ε : Eps} {L L1 : Own} {tas : TA} {g : TG} {tc : TS} {D : Ends}
/-- over enumerate of a tuple -/
theorem x_forET {ds : List PyData} (h : EA B tas ε L [.d (.tuple ds)] L1) (I : V → Nat → Eps → Own → Prop) (h0 : ∀ v, I v 0 ε (L1 ++ [.know v (.tuple ds)])) (hl : ∀ v i ε' L', I v i ε' L' → MO.know v (.tuple ds) ∈ L')
    (hs : ∀ v i d ε' L', ds[i]? = some d → I v i ε' L' → ∃ ε'', GT B g (.d (.tuple [.int (i : Int), d])) ε' ε'' ∧ Ho B (tc { D with nx := AbsP B (I v (i + 1)), ct := AbsP B (I v (i + 1)), bk := D.nx }) ε'' L')
    (hd : ∀ v ε' L', I v ds.length ε' L' → Ho B D.nx ε' L') : Ho B (tFor (iEnumT B.K tas) g tc D) ε L := fun F σ H r =>
  h F σ H r _ fun vs0 F1 H1 _ r1 o1 => by
    match vs0, o1 with
    | [v], o =>
    have o' : Dq B.K F1 v (.tuple ds) := o.1
    have r2 := r1.learn o'
    cases o' with
    | @tup p vs _ q1 q2 =>
      have back : ∀ {i : Nat} {ε' : Eps} {L' : Own} {F' : Hp} {σ' : St} {H' : Hp}, I (.ref p) i ε' L' → Rep B ε' L' F' σ' H' → ∃ ws, SqT B.K H' p ws ∧ DqAll B.K F' ws ds := fun hI r' => by
        have k : Dq B.K _ (.ref p) (.tuple ds) := r'.own _ (hl _ _ _ _ hI)
        cases k with
        | tup k1 k2 => exact ⟨_, tq_sub r'.sub k1, k2⟩
      refine ⟨p, vs, rfl, tq_sub r1.sub q1, ⟨fun i m σ' H' => m = ds.length - i ∧ i ≤ ds.length ∧ AbsP B (I (.ref p) i) σ' H', ⟨_, rfl, Nat.zero_le _, ε, _, F1, h0 _, r2⟩, ?_⟩⟩
      rintro i m σ' H' ⟨rfl, hi, ε', L', F', hI, r'⟩
      obtain ⟨ws, k1, k2⟩ := back hI r'
      by_cases hlt : i < ds.length
      · obtain ⟨d, hdi⟩ : ∃ d, ds[i]? = some d := ⟨_, List.getElem?_eq_getElem hlt⟩
        obtain ⟨w, e1, e2⟩ := dpa_get k2 hdi
        obtain ⟨ε'', hg, hb⟩ := hs _ i d ε' L' hdi hI
        refine .inr ⟨⟨ws, w, k1, e1⟩, AbsP B (I (.ref p) (i + 1)), fun σ2 H2 hN => ⟨ds.length - (i + 1), by omega, rfl, hlt, hN⟩, fun x H2 hy => ?_⟩
        obtain ⟨T, y, rfl, hT, rfl, hx⟩ := hy
        have ex : y = w := Option.some.inj ((hx ws k1).symm.trans e1)
        subst ex
        have hF := sub_none r'.sub hT
        exact hg L' _ σ' _ _ (r'.grow hT) (.tup upd_same (.cons (.int _) (.cons (dp_sub (sub_fresh hF) e2) .nil))) _ fun σ3 r3 => hb _ σ3 _ r3
      · have ei : i = ds.length := by omega
        subst ei
        exact .inl ⟨⟨ws, k1, by rw [dpa_len k2]; exact Nat.le_refl _⟩, hd _ _ _ hI F' σ' H' r'⟩
end
end Fz

/-! ## FzK -/
set_option Elab.async false
set_option linter.all false
set_option maxRecDepth 100000
set_option maxHeartbeats 4000000
set_option autoImplicit false
/-! FzK: for .. in enumerate(zip(a tuple, a tuple)). -/
namespace PySem
section
variable {prog : Program} {w : World} {A : Around} {E : Value → Shared → Prop} {s : Shared} {z TI TO i1 i2 a b T : Addr} {xs ys : Array Value} {i : Nat}
theorem fz_zip_heldT {f : Bool} {oT : Obj} {x y : Value} {Q : Value → Shared → Prop} (S : ZipSep2 z TI TO i1 i2 [i1, a] [i2, b])
    (hz : IsZipHeld s.heap z TI TO T f) (hT : s.heap.get? T = some oT) (hTI : IsTupOf2 s.heap TI (.ref i1) (.ref i2))
    (h1 : s.heap.IsTupleIter i1 a i) (h2 : s.heap.IsTupleIter i2 b i) (hl1 : s.heap.IsTuple a xs) (hl2 : s.heap.IsTuple b ys) (hx : xs[i]? = some x) (hy : ys[i]? = some y)
    (hQ : ∀ h', IsZipHeld h' z TI TO T true → h'.IsTupleIter i1 a (i + 1) → h'.IsTupleIter i2 b (i + 1) → IsTupOf2 h' s.heap.objs.size x y → h'.objs.size = s.heap.objs.size + 1 →
      (∀ c o, c ≠ z → c ≠ i1 → c ≠ i2 → s.heap.get? c = some o → h'.get? c = some o) → Q (.ref s.heap.objs.size) { s with heap := h' }) :
    wpAny (model prog w) A (Builtin.«zip.__next__» ⟨[.ref z], []⟩) (fun fin s' => ∃ v, fin = .done (.ret v) ∧ Q v s') E s := by
  have az : a ≠ z := fun e => S.zf1 (by simp [e])
  have bz : b ≠ z := fun e => S.zf2 (by simp [e])
  have i1z : i1 ≠ z := fun e => S.zf1 (by simp [e])
  have i2z : i2 ≠ z := fun e => S.zf2 (by simp [e])
  have i12 : i1 ≠ i2 := fun e => S.sep1_2 (by simp [e])
  have bi1 : b ≠ i1 := fun e => S.sep1_2 (by simp [e])
  have ai2 : a ≠ i2 := fun e => S.sep2_1 (by simp [e])
  show wpAny _ _ (field (.ref z) 2 >>= _) _ _ _
  refine wpAny_bind (wpAny_field hz rfl (x := .bool false) rfl ?_)
  show wpAny _ _ (field (.ref z) 3 >>= _) _ _ _
  refine wpAny_bind (wpAny_field hz rfl (x := .ref TI) rfl ?_)
  refine wpAny_bind (wpAny_seqItems hTI rfl ?_)
  show wpAny _ _ (Builtin.SmallTypes.ownedTupleIsFree (.ref z) >>= _) _ _ _
  refine wpAny_bind (wpAny_tupleHeld_zip hz hT fun h₁ hz₁ hs₁ => ?_)
  simp only [Bool.false_eq_true, if_false]
  refine wpAny_bind ?_
  rw [← Array.forIn_toList]
  simp only [List.forIn_cons, List.forIn_nil]
  refine wpAny_bind (wpAny_bind (wpAny_holding ?_))
  show wpAny _ _ (Builtin.SmallTypes.nextOf (.ref i1) >>= _) _ _ _
  refine wpAny_bind (wpAny_nextOf_tuple_item (s := { s with heap := h₁ }) (h1.extBut hs₁.extBut i1z) (hl1.extBut hs₁.extBut az) hx fun h₂ h1₂ hs₂ => wpAny_pure ?_)
  refine wpAny_pure ?_
  refine wpAny_bind (wpAny_bind (wpAny_holding ?_))
  show wpAny _ _ (Builtin.SmallTypes.nextOf (.ref i2) >>= _) _ _ _
  refine wpAny_bind (wpAny_nextOf_tuple_item (s := { s with heap := h₂ }) ((h2.extBut hs₁.extBut i2z).extBut hs₂.extBut i12.symm) ((hl2.extBut hs₁.extBut bz).extBut hs₂.extBut bi1) hy fun h₃ h2₃ hs₃ => wpAny_pure ?_)
  refine wpAny_pure (wpAny_pure ?_)
  show wpAny _ _ (newTuple [x, y] >>= _) _ _ _
  refine wpAny_bind (wpAny_newTuple ?_)
  have hsz : h₃.objs.size = s.heap.objs.size := by rw [hs₃.1, hs₂.1, hs₁.1]
  have hz₃ : IsZipHeld h₃ z TI TO T true := hs₃.extBut _ _ i2z.symm (hs₂.extBut _ _ i1z.symm hz₁)
  have hk : ∀ c o, c ≠ z → c ≠ i1 → c ≠ i2 → s.heap.get? c = some o → h₃.get? c = some o := fun c o c1 c2 c3 e => hs₃.extBut _ _ c3 (hs₂.extBut _ _ c2 (hs₁.extBut _ _ c1 e))
  have h1₃ : h₃.IsTupleIter i1 a (i + 1) := h1₂.extBut hs₃.extBut i12
  refine wpAny_pure ⟨_, rfl, ?_⟩
  show Q (.ref h₃.objs.size) _
  have hp : IsTupOf2 (h₃.push { cls := .type "tuple", data := .seq #[x, y] }) h₃.objs.size x y := Heap.get?_push_size _ rfl
  have hz4 : (h₃.push { cls := .type "tuple", data := .seq #[x, y] }).objs.size = h₃.objs.size + 1 := Heap.size_push ..
  rw [hsz] at hp hz4 ⊢
  exact hQ _ (Heap.get?_push_of_some _ hz₃) (h1₃.at fun o e => Heap.get?_push_of_some _ e) (h2₃.at fun o e => Heap.get?_push_of_some _ e) hp hz4 fun c o c1 c2 c3 e => Heap.get?_push_of_some _ (hk c o c1 c2 c3 e)
end
end PySem

/-! ## FzK3 -/
set_option Elab.async false
set_option linter.all false
set_option maxRecDepth 100000
set_option maxHeartbeats 4000000
set_option autoImplicit false
/-! FzK3: zip over tuples, its own pair free (never out, or gone). -/
namespace PySem
abbrev IsZF (h : Heap) (z TI TO : Addr) (f0 : Value) (f : Bool) : Prop :=
  h.get? z = some { cls := .type "zip", dict := none, data := .fields #[f0, .bool f, .bool false, .ref TI, .ref TO], slots := #[] }
section
variable {prog : Program} {w : World} {A : Around} {E : Value → Shared → Prop} {s : Shared} {z TI TO i1 i2 a b T : Addr} {xs ys : Array Value} {i : Nat}
theorem fz_alive {T : Addr} {Q : Option Obj → Shared → Prop} (h : Q (s.heap.get? T) s) : wpAny (model prog w) A (loadIfAlive T) Q E s := fun _ _ _ => h
theorem fz_own_free {f0 : Value} {f : Bool} {Q : Bool → Shared → Prop} (hz : IsZF s.heap z TI TO f0 f) (hf : f0 = .none ∨ ∃ T : Addr, f0 = rawInt T ∧ s.heap.get? T = none) (h : Q true s) : wpAny (model prog w) A (Builtin.SmallTypes.ownedTupleIsFree (.ref z)) Q E s := by
  unfold Builtin.SmallTypes.ownedTupleIsFree
  rcases hf with rfl | ⟨T, rfl, hT⟩
  · exact wpAny_bind (wpAny_field hz rfl (x := .none) rfl (wpAny_pure h))
  · refine wpAny_bind (wpAny_field hz rfl (x := rawInt T) rfl ?_)
    show wpAny _ _ (loadIfAlive ((T : Int).toNat) >>= _) _ _ _
    rw [Int.toNat_natCast]
    refine wpAny_bind (fz_alive ?_)
    rw [hT]
    exact wpAny_pure h
theorem fz_zip_free {f0 x y : Value} {f : Bool} {a1 a2 : Value} {Q : Value → Shared → Prop} (S : ZipSep2 z TI TO i1 i2 [i1, a] [i2, b])
    (hz : IsZF s.heap z TI TO f0 f) (hf : f0 = .none ∨ ∃ T : Addr, f0 = rawInt T ∧ s.heap.get? T = none) (hTI : IsTupOf2 s.heap TI (.ref i1) (.ref i2)) (hTO : IsTupOf2 s.heap TO a1 a2)
    (h1 : s.heap.IsTupleIter i1 a i) (h2 : s.heap.IsTupleIter i2 b i) (hl1 : s.heap.IsTuple a xs) (hl2 : s.heap.IsTuple b ys) (hx : xs[i]? = some x) (hy : ys[i]? = some y)
    (hQ : ∀ h', IsZF h' z TI TO (rawInt s.heap.objs.size) false → IsTupOf2 h' TO x y → h'.IsTupleIter i1 a (i + 1) → h'.IsTupleIter i2 b (i + 1) → IsTupOf2 h' s.heap.objs.size x y → h'.objs.size = s.heap.objs.size + 1 →
      (∀ c o, c ≠ z → c ≠ TO → c ≠ i1 → c ≠ i2 → s.heap.get? c = some o → h'.get? c = some o) → Q (.ref s.heap.objs.size) { s with heap := h' }) :
    wpAny (model prog w) A (Builtin.«zip.__next__» ⟨[.ref z], []⟩) (fun fin s' => ∃ v, fin = .done (.ret v) ∧ Q v s') E s := by
  have az : a ≠ z := fun e => S.zf1 (by simp [e])
  have bz : b ≠ z := fun e => S.zf2 (by simp [e])
  have aT : a ≠ TO := fun e => S.Tf1 (by simp [e])
  have bT : b ≠ TO := fun e => S.Tf2 (by simp [e])
  have i12 : i1 ≠ i2 := fun e => S.sep1_2 (by simp [e])
  have bi1 : b ≠ i1 := fun e => S.sep1_2 (by simp [e])
  show wpAny _ _ (field (.ref z) 2 >>= _) _ _ _
  refine wpAny_bind (wpAny_field hz rfl (x := .bool false) rfl ?_)
  show wpAny _ _ (field (.ref z) 3 >>= _) _ _ _
  refine wpAny_bind (wpAny_field hz rfl (x := .ref TI) rfl ?_)
  refine wpAny_bind (wpAny_seqItems hTI rfl ?_)
  show wpAny _ _ (Builtin.SmallTypes.ownedTupleIsFree (.ref z) >>= _) _ _ _
  refine wpAny_bind (fz_own_free hz hf ?_)
  simp only [if_true]
  refine wpAny_bind (wpAny_rule ?_)
  refine wpAny_bind (wpAny_field hz rfl (x := .ref TO) rfl ?_)
  refine wpAny_bind (wpAny_setField_rec hz (by simp) fun g0 hz0 hs0 => ?_)
  have hz0 : IsZF g0 z TI TO .ellipsis f := hz0
  have U0 : IsTupOf2 g0 TO a1 a2 := hs0.extBut _ _ S.TOz hTO
  refine wpAny_bind ?_
  simp only [List.zipIdx_cons, List.zipIdx_nil, List.forIn_cons, List.forIn_nil]
  refine wpAny_bind (wpAny_bind (wpAny_onRaise ?_))
  show wpAny _ _ (Builtin.SmallTypes.nextOf (.ref i1) >>= _) _ _ _
  refine wpAny_bind (wpAny_nextOf_tuple_item (s := { s with heap := g0 }) (h1.extBut hs0.extBut S.zi1.symm) (hl1.extBut hs0.extBut az) hx fun p1 j1 hp1 => wpAny_pure ?_)
  have hp1 : Heap.SameBut i1 g0 p1 := hp1
  have U1 : IsTupOf2 p1 TO a1 a2 := hp1.extBut _ _ S.Ti1 U0
  refine wpAny_bind (wpAny_seqItems (s := { s with heap := p1 }) U1 rfl ?_)
  refine wpAny_bind (updateSeq_IsTupOf2 (s := { s with heap := p1 }) U1 fun g1 V1 hs1 => ?_)
  have V1 : IsTupOf2 g1 TO x a2 := V1
  have hs1 : Heap.SameBut TO p1 g1 := hs1
  refine wpAny_bind (wpAny_letGo (wpAny_pure ?_))
  refine wpAny_bind (wpAny_bind (wpAny_onRaise ?_))
  show wpAny _ _ (Builtin.SmallTypes.nextOf (.ref i2) >>= _) _ _ _
  refine wpAny_bind (wpAny_nextOf_tuple_item (s := { s with heap := g1 }) (((h2.extBut hs0.extBut S.zi2.symm).extBut hp1.extBut i12.symm).extBut hs1.extBut S.Ti2.symm) (((hl2.extBut hs0.extBut bz).extBut hp1.extBut bi1).extBut hs1.extBut bT) hy fun p2 j2 hp2 => wpAny_pure ?_)
  have hp2 : Heap.SameBut i2 g1 p2 := hp2
  have U2 : IsTupOf2 p2 TO x a2 := hp2.extBut _ _ S.Ti2 V1
  refine wpAny_bind (wpAny_seqItems (s := { s with heap := p2 }) U2 rfl ?_)
  refine wpAny_bind (updateSeq_IsTupOf2 (s := { s with heap := p2 }) U2 fun g2 V2 hs2 => ?_)
  have V2 : IsTupOf2 g2 TO x y := V2
  have hs2 : Heap.SameBut TO p2 g2 := hs2
  refine wpAny_bind (wpAny_letGo (wpAny_pure (wpAny_pure ?_)))
  refine wpAny_bind (wpAny_seqItems (s := { s with heap := g2 }) V2 rfl ?_)
  refine wpAny_bind (wpAny_newTuple ?_)
  have hsz : g2.objs.size = s.heap.objs.size := by rw [hs2.1, hp2.1, hs1.1, hp1.1]; exact hs0.1
  have hz2 : IsZF g2 z TI TO .ellipsis f := hs2.extBut _ _ S.TOz.symm (hp2.extBut _ _ S.zi2 (hs1.extBut _ _ S.TOz.symm (hp1.extBut _ _ S.zi1 hz0)))
  have hk : ∀ c o, c ≠ z → c ≠ TO → c ≠ i1 → c ≠ i2 → s.heap.get? c = some o → g2.get? c = some o := fun c o cz cT c1 c2 e =>
    hs2.extBut _ _ cT (hp2.extBut _ _ c2 (hs1.extBut _ _ cT (hp1.extBut _ _ c1 (hs0.extBut _ _ cz e))))
  have k1 : g2.IsTupleIter i1 a (i + 1) := ((j1.extBut hs1.extBut S.Ti1.symm).extBut hp2.extBut i12).extBut hs2.extBut S.Ti1.symm
  have k2 : g2.IsTupleIter i2 b (i + 1) := j2.extBut hs2.extBut S.Ti2.symm
  have zl : z < g2.objs.size := Heap.lt_size hz2
  show wpAny _ _ (Builtin.SmallTypes.ownedTupleHandOut (.ref z) (.ref g2.objs.size) >>= _) _ _ _
  refine wpAny_bind ?_
  unfold Builtin.SmallTypes.ownedTupleHandOut
  have hz6 : IsZF (g2.push { cls := .type "tuple", data := .seq #[x, y] }) z TI TO .ellipsis f := Heap.get?_push_of_some _ hz2
  refine wpAny_bind (wpAny_setField_rec hz6 (by simp) fun h7 z7 s7 => ?_)
  have z7 : IsZF h7 z TI TO (rawInt g2.objs.size) f := z7
  refine wpAny_setField_rec z7 (by simp) fun h8 z8 s8 => ?_
  have z8 : IsZF h8 z TI TO (rawInt g2.objs.size) false := z8
  have up : ∀ c o, c ≠ z → (g2.push { cls := .type "tuple", data := .seq #[x, y] }).get? c = some o → h8.get? c = some o := fun c o c1 e => s8.extBut _ _ c1 (s7.extBut _ _ c1 e)
  have up2 : ∀ c o, c ≠ z → g2.get? c = some o → h8.get? c = some o := fun c o c1 e => up c o c1 (Heap.get?_push_of_some _ e)
  have hT8 : IsTupOf2 h8 g2.objs.size x y := up _ _ (Nat.ne_of_gt zl) (Heap.get?_push_size _ rfl)
  have n8 : h8.objs.size = g2.objs.size + 1 := by rw [s8.1]; show h7.objs.size = _; rw [s7.1]; exact Heap.size_push ..
  rw [hsz] at z8 hT8 n8
  refine wpAny_pure ⟨_, rfl, ?_⟩
  show Q (.ref g2.objs.size) _
  rw [hsz]
  exact hQ h8 z8 (up2 _ _ S.TOz V2) (k1.at fun o e => up2 _ _ S.zi1.symm e) (k2.at fun o e => up2 _ _ S.zi2.symm e) hT8 n8 fun c o cz cT c1 c2 e => up2 c o cz (hk c o cz cT c1 c2 e)
end
end PySem

/-! ## FzK4 -/
set_option Elab.async false
set_option linter.all false
set_option maxRecDepth 100000
set_option maxHeartbeats 4000000
set_option autoImplicit false
/-! FzK4: enumerate over a zip of tuples: what is drawn, turn by turn. -/
namespace PySem
def ZS (z TI TO i1 i2 a b : Addr) (xs ys : Array Value) (i : Nat) (h : Heap) : Prop :=
  IsTupOf2 h TI (.ref i1) (.ref i2) ∧ (h.IsTupleIter i1 a i ∧ h.IsTuple a xs) ∧ (h.IsTupleIter i2 b i ∧ h.IsTuple b ys) ∧
  ∃ f0 f u v, IsZF h z TI TO f0 f ∧ (f0 = .none ∨ ∃ T : Addr, f0 = rawInt T) ∧ IsTupOf2 h TO u v
section
variable {prog : Program} {w : World} {A : Around} {E : Value → Shared → Prop} {s : Shared} {z TI TO i1 i2 a b T : Addr} {xs ys : Array Value} {i : Nat}
theorem fz_notIt {c it t : Addr} {k : Nat} {zs : Array Value} {h : Heap} (q1 : h.IsTupleIter it t k) (q2 : h.IsTuple c zs) : c ≠ it := fun e => by
  obtain ⟨o1, e1, _, d1⟩ := q1
  obtain ⟨o2, e2, _, n, d2⟩ := q2
  rw [e, e1] at e2
  cases e2
  rw [d1] at d2; cases d2
/-- free, or out and there -/
theorem fz_split {f0 : Value} (h : Heap) (hf : f0 = .none ∨ ∃ T : Addr, f0 = rawInt T) : (f0 = .none ∨ ∃ T : Addr, f0 = rawInt T ∧ h.get? T = none) ∨ ∃ (T : Addr) (o : Obj), f0 = rawInt T ∧ h.get? T = some o := by
  rcases hf with e | ⟨T, e⟩
  · exact .inl (.inl e)
  · cases q : h.get? T with
    | none => exact .inl (.inr ⟨T, e, q⟩)
    | some o => exact .inr ⟨T, o, e, q⟩
/-- what zip draws -/
theorem fz_nextOf_zip {x y : Value} {Q : Value → Shared → Prop} (S : ZipSep2 z TI TO i1 i2 [i1, a] [i2, b]) (st : ZS z TI TO i1 i2 a b xs ys i s.heap) (hx : xs[i]? = some x) (hy : ys[i]? = some y)
    (hQ : ∀ h', IsTupOf2 h' s.heap.objs.size x y → ZS z TI TO i1 i2 a b xs ys (i + 1) h' → h'.objs.size = s.heap.objs.size + 1 →
      (∀ c o, c ≠ z → c ≠ TO → c ≠ i1 → c ≠ i2 → s.heap.get? c = some o → h'.get? c = some o) → Q (.ref s.heap.objs.size) { s with heap := h' }) :
    wpAny (model prog w) A (Builtin.SmallTypes.nextOf (.ref z)) Q E s := by
  have az : a ≠ z := fun e => S.zf1 (by simp [e])
  have bz : b ≠ z := fun e => S.zf2 (by simp [e])
  have aT : a ≠ TO := fun e => S.Tf1 (by simp [e])
  have bT : b ≠ TO := fun e => S.Tf2 (by simp [e])
  have bi1 : b ≠ i1 := fun e => S.sep1_2 (by simp [e])
  have ai2 : a ≠ i2 := fun e => S.sep2_1 (by simp [e])
  obtain ⟨hTI, ⟨h1, hl1⟩, ⟨h2, hl2⟩, f0, f, u, v, hz, hf, hTO⟩ := st
  have ai1 : a ≠ i1 := fz_notIt h1 hl1
  have bi2 : b ≠ i2 := fz_notIt h2 hl2
  have hTy : s.TypeIs (.ref z) "zip" := ⟨_, hz, rfl⟩
  unfold Builtin.SmallTypes.nextOf
  refine wpAny_bind (wpAny_callSpecial?_slot (name := Str.ofString "__next__") hTy F.slot_zip_next
    (wpAny_call_entry F.slot_zip_next hTy F.entry_zip_next ?_ (F.args_zip_next_1 _)))
  rcases fz_split s.heap hf with hf | ⟨T, o, rfl, hT⟩
  · refine fz_zip_free S hz hf hTI hTO h1 h2 hl1 hl2 hx hy fun h' c1 c2 c3 c4 c5 c6 c7 => wpAny_pure ?_
    exact hQ h' c5 ⟨c7 _ _ S.TIz S.TITO S.TIi1 S.TIi2 hTI, ⟨c3, hl1.at fun o e => c7 _ _ az aT ai1 ai2 e⟩, ⟨c4, hl2.at fun o e => c7 _ _ bz bT bi1 bi2 e⟩, _, _, _, _, c1, .inr ⟨_, rfl⟩, c2⟩ c6 c7
  · refine fz_zip_heldT S hz hT hTI h1 h2 hl1 hl2 hx hy fun h' c1 c2 c3 c4 c5 c6 => wpAny_pure ?_
    exact hQ h' c4 ⟨c6 _ _ S.TIz S.TIi1 S.TIi2 hTI, ⟨c2, hl1.at fun o e => c6 _ _ az ai1 ai2 e⟩, ⟨c3, hl2.at fun o e => c6 _ _ bz bi1 bi2 e⟩, _, _, _, _, c1, .inr ⟨_, rfl⟩, c6 _ _ S.TOz S.Ti1 S.Ti2 hTO⟩ c5 fun c o d1 _ d3 d4 e => c6 c o d1 d3 d4 e
/-- where the first is at its end -/
theorem fz_nextOf_zip_end {Q : Value → Shared → Prop} (hh : A.in1.handled = none) (S : ZipSep2 z TI TO i1 i2 [i1, a] [i2, b]) (st : ZS z TI TO i1 i2 a b xs ys i s.heap) (hx : xs[i]? = none)
    (hE : ∀ h' e, (∀ c o, c ≠ z → c ≠ TO → c ≠ i1 → c ≠ i2 → s.heap.get? c = some o → h'.get? c = some o) → (∃ o, h'.get? e = some o ∧ o.cls = .type "StopIteration") → E (.ref e) { s with heap := h' }) :
    wpAny (model prog w) A (Builtin.SmallTypes.nextOf (.ref z)) Q E s := by
  have az : a ≠ z := fun e => S.zf1 (by simp [e])
  obtain ⟨hTI, ⟨h1, hl1⟩, ⟨h2, hl2⟩, f0, f, u, v, hz, hf, hTO⟩ := st
  have hTy : s.TypeIs (.ref z) "zip" := ⟨_, hz, rfl⟩
  unfold Builtin.SmallTypes.nextOf
  refine wpAny_bind (wpAny_callSpecial?_slot (name := Str.ofString "__next__") hTy F.slot_zip_next
    (wpAny_call_entry F.slot_zip_next hTy F.entry_zip_next ?_ (F.args_zip_next_1 _)))
  show wpAny _ _ (field (.ref z) 2 >>= _) _ _ _
  refine wpAny_bind (wpAny_field hz rfl (x := .bool false) rfl ?_)
  show wpAny _ _ (field (.ref z) 3 >>= _) _ _ _
  refine wpAny_bind (wpAny_field hz rfl (x := .ref TI) rfl ?_)
  refine wpAny_bind (wpAny_seqItems hTI rfl ?_)
  show wpAny _ _ (Builtin.SmallTypes.ownedTupleIsFree (.ref z) >>= _) _ _ _
  rcases fz_split s.heap hf with hf | ⟨T, o, rfl, hT⟩
  · refine wpAny_bind (fz_own_free hz hf ?_)
    simp only [if_true]
    refine wpAny_bind (wpAny_rule ?_)
    refine wpAny_bind (wpAny_field hz rfl (x := .ref TO) rfl ?_)
    refine wpAny_bind (wpAny_setField_rec hz (by simp) fun g0 hz0 hs0 => ?_)
    have hz0 : IsZF g0 z TI TO .ellipsis f := hz0
    refine wpAny_bind ?_
    simp only [List.zipIdx_cons, List.zipIdx_nil, List.forIn_cons, List.forIn_nil]
    refine wpAny_bind (wpAny_bind (wpAny_onRaise ?_))
    show wpAny _ _ (Builtin.SmallTypes.nextOf (.ref i1) >>= _) _ _ _
    refine wpAny_bind (wpAny_nextOf_tuple_end (s := { s with heap := g0 }) hh (h1.extBut hs0.extBut S.zi1.symm) (hl1.extBut hs0.extBut az) hx fun h₂ e hs₂ he => ?_)
    have hz2 : IsZF h₂ z TI TO .ellipsis f := hs₂ _ _ S.zi1 hz0
    refine wpAny_setField_rec (s := { s with heap := h₂ }) hz2 (by simp) fun g3 hz3 hs3 => ?_
    obtain ⟨oe, q1, q2⟩ := he
    have ez : e ≠ z := fun q => by
      rw [q] at q1
      have y : (Value.type "zip" : Value) = .type "StopIteration" := (congrArg Obj.cls (Option.some.inj (hz2.symm.trans q1))).trans q2
      exact absurd y (by decide)
    exact hE g3 e (fun c o c1 c2 c3 c4 x => hs3.extBut _ _ c1 (hs₂ _ _ c3 (hs0.extBut _ _ c1 x))) ⟨oe, hs3.extBut _ _ ez q1, q2⟩
  · refine wpAny_bind (wpAny_tupleHeld_zip hz hT fun h₁ hz₁ hs₁ => ?_)
    simp only [Bool.false_eq_true, if_false]
    refine wpAny_bind ?_
    rw [← Array.forIn_toList]
    simp only [List.forIn_cons, List.forIn_nil]
    refine wpAny_bind (wpAny_bind (wpAny_holding ?_))
    show wpAny _ _ (Builtin.SmallTypes.nextOf (.ref i1) >>= _) _ _ _
    refine wpAny_bind (wpAny_nextOf_tuple_end (s := { s with heap := h₁ }) hh (h1.extBut hs₁.extBut S.zi1.symm) (hl1.extBut hs₁.extBut az) hx fun h₂ e hs₂ he => ?_)
    exact hE h₂ e (fun c o c1 _ c2 _ x => hs₂ _ _ c2 (hs₁.extBut _ _ c1 x)) he
/-- enumerate's next over such a zip: two new tuples -/
theorem fz_enum_zip_item {e : Addr} {x y old : Value} {Q : Value → Shared → Prop} (S : ZipSep2 z TI TO i1 i2 [i1, a] [i2, b]) (he : IsEnum s.heap e z i old) (st : ZS z TI TO i1 i2 a b xs ys i s.heap) (hx : xs[i]? = some x) (hy : ys[i]? = some y)
    (hez : e ≠ z) (heT : e ≠ TO) (he1 : e ≠ i1) (he2 : e ≠ i2) (hea : e ≠ a) (heb : e ≠ b) (heI : e ≠ TI)
    (hQ : ∀ h' tk, IsTupOf2 h' s.heap.objs.size x y → IsEnumOut h' e z ((i : Int) + 1) (.ref s.heap.objs.size) (s.heap.objs.size + 1) → ZS z TI TO i1 i2 a b xs ys (i + 1) h' →
      h'.get? (s.heap.objs.size + 1) = some { cls := .type "tuple", data := .seq #[.int i tk, .ref s.heap.objs.size] } →
      (∀ c o, c ≠ e → c ≠ z → c ≠ TO → c ≠ i1 → c ≠ i2 → s.heap.get? c = some o → h'.get? c = some o) → Q (.ref (s.heap.objs.size + 1)) { s with heap := h', toks := tk + 1 }) :
    wpAny (model prog w) A (Builtin.«enumerate.__next__» ⟨[.ref e], []⟩) (fun fin s' => ∃ v, fin = .done (.ret v) ∧ Q v s') E s := by
  have zsk : ∀ {k : Nat} {h h' : Heap}, ZS z TI TO i1 i2 a b xs ys k h → (∀ c o, c ≠ e → h.get? c = some o → h'.get? c = some o) → ZS z TI TO i1 i2 a b xs ys k h' := fun {k h h'} st hk => by
    obtain ⟨q1, ⟨q2, q3⟩, ⟨q4, q5⟩, f0, f, u, v, q6, q7, q8⟩ := st
    exact ⟨hk _ _ heI.symm q1, ⟨q2.at fun o x => hk _ _ he1.symm x, q3.at fun o x => hk _ _ hea.symm x⟩, ⟨q4.at fun o x => hk _ _ he2.symm x, q5.at fun o x => hk _ _ heb.symm x⟩, f0, f, u, v, hk _ _ hez.symm q6, q7, hk _ _ heT.symm q8⟩
  obtain ⟨hp, g, d, tk₀, os⟩ := s
  show wpAny _ _ (field (.ref e) 2 >>= _) _ _ _
  refine wpAny_bind (wpAny_field he rfl (x := .ref z) rfl ?_)
  refine wpAny_bind (fz_nextOf_zip S st hx hy fun h₁ hT₁ st₁ hz₁ hk₁ => ?_)
  replace hk₁ : ∀ c o, c ≠ z → c ≠ TO → c ≠ i1 → c ≠ i2 → hp.get? c = some o → h₁.get? c = some o := hk₁
  replace hT₁ : IsTupOf2 h₁ hp.objs.size x y := hT₁
  replace hz₁ : h₁.objs.size = hp.objs.size + 1 := hz₁
  have he₁ : IsEnum h₁ e z i old := hk₁ e _ hez heT he1 he2 he
  have hel : e < hp.objs.size := Heap.lt_size he
  show wpAny _ _ (field (.ref e) 3 >>= _) _ _ ⟨h₁, g, d, tk₀, os⟩
  refine wpAny_bind (wpAny_field he₁ rfl (x := rawInt i) rfl ?_)
  show wpAny _ _ (field (.ref e) 4 >>= _) _ _ ⟨h₁, g, d, tk₀, os⟩
  refine wpAny_bind (wpAny_field he₁ rfl (x := .none) rfl ?_)
  show wpAny _ _ (mkInt i >>= _) _ _ ⟨h₁, g, d, tk₀, os⟩
  refine wpAny_bind (wpAny_mkInt ?_)
  show wpAny _ _ (setField (.ref e) 3 (rawInt ((i : Int) + 1)) >>= _) _ _ ⟨h₁, g, d, tk₀ + 1, os⟩
  refine wpAny_bind (wpAny_setField_rec he₁ (by simp) fun h₂ he₂ hs₂ => ?_)
  replace hs₂ : Heap.SameBut e h₁ h₂ := hs₂
  replace he₂ : IsEnum h₂ e z ((i : Int) + 1) old := he₂
  show wpAny _ _ (setField (.ref e) 4 .none >>= _) _ _ ⟨h₂, g, d, tk₀ + 1, os⟩
  refine wpAny_bind (wpAny_setField_rec he₂ (by simp) fun h₃ he₃ hs₃ => ?_)
  replace hs₃ : Heap.SameBut e h₂ h₃ := hs₃
  replace he₃ : IsEnum h₃ e z ((i : Int) + 1) old := he₃
  show wpAny _ _ (newTuple [.int i tk₀, .ref hp.objs.size] >>= _) _ _ ⟨h₃, g, d, tk₀ + 1, os⟩
  refine wpAny_bind (wpAny_newTuple ?_)
  have he₄ : IsEnum (h₃.push { cls := .type "tuple", data := .seq #[.int i tk₀, .ref hp.objs.size] }) e z ((i : Int) + 1) old := Heap.get?_push_of_some _ he₃
  generalize hh₄ : h₃.push { cls := .type "tuple", data := .seq #[.int i tk₀, .ref hp.objs.size] } = h₄ at he₄
  have hsz : h₃.objs.size = hp.objs.size + 1 := by rw [hs₃.1, hs₂.1, hz₁]
  have ht₄ : h₄.get? (hp.objs.size + 1) = some { cls := .type "tuple", data := .seq #[.int i tk₀, .ref hp.objs.size] } := by rw [← hh₄, ← hsz]; exact Heap.get?_push_size _ rfl
  have hk₁₄ : ∀ c o, c ≠ e → h₁.get? c = some o → h₄.get? c = some o := fun c o hc x => by
    rw [← hh₄]; exact Heap.get?_push_of_some _ (hs₃.extBut c o hc (hs₂.extBut c o hc x))
  have st₄ := zsk st₁ hk₁₄
  have ne1 : hp.objs.size ≠ e := Nat.ne_of_gt hel
  have ne2 : hp.objs.size + 1 ≠ e := Nat.ne_of_gt (Nat.lt_succ_of_lt hel)
  show wpAny _ _ (Builtin.SmallTypes.ownedTupleIsFree (.ref e) >>= _) _ _ ⟨h₄, g, d, tk₀ + 1, os⟩
  rw [hsz]
  refine wpAny_bind ?_
  · unfold Builtin.SmallTypes.ownedTupleIsFree
    refine wpAny_bind (wpAny_field he₄ rfl (x := .none) rfl (wpAny_pure ?_))
    simp only [if_true]
    refine wpAny_bind (wpAny_rule ?_)
    refine wpAny_bind (wpAny_field he₄ rfl (x := old) rfl ?_)
    refine wpAny_bind (wpAny_setField_rec he₄ (by simp) fun h₅ he₅ hs₅ => ?_)
    replace hs₅ : Heap.SameBut e h₄ h₅ := hs₅
    replace he₅ : IsEnum h₅ e z ((i : Int) + 1) (.ref hp.objs.size) := he₅
    show wpAny _ _ (Builtin.SmallTypes.ownedTupleHandOut (.ref e) (.ref (hp.objs.size + 1)) >>= _) _ _ ⟨h₅, g, d, tk₀ + 1, os⟩
    refine wpAny_bind ?_
    · unfold Builtin.SmallTypes.ownedTupleHandOut
      refine wpAny_bind (wpAny_setField_rec he₅ (by simp) fun h₆ he₆ hs₆ => ?_)
      replace hs₆ : Heap.SameBut e h₅ h₆ := hs₆
      replace he₆ : IsEnumOut h₆ e z ((i : Int) + 1) (.ref hp.objs.size) (hp.objs.size + 1) := he₆
      refine wpAny_setField_rec he₆ (by simp) fun h₇ he₇ hs₇ => ?_
      replace hs₇ : Heap.SameBut e h₆ h₇ := hs₇
      replace he₇ : IsEnumOut h₇ e z ((i : Int) + 1) (.ref hp.objs.size) (hp.objs.size + 1) := he₇
      have hk₄₇ : ∀ c o, c ≠ e → h₄.get? c = some o → h₇.get? c = some o := fun c o hc x => hs₇.extBut c o hc (hs₆.extBut c o hc (hs₅.extBut c o hc x))
      refine wpAny_bind (wpAny_letGo (wpAny_pure ⟨_, rfl, hQ h₇ tk₀ ?_ he₇ ?_ ?_ ?_⟩))
      · exact hk₄₇ _ _ ne1 (hk₁₄ _ _ ne1 hT₁)
      · exact zsk st₄ hk₄₇
      · exact hk₄₇ _ _ ne2 ht₄
      · exact fun c o c0 c1 c2 c3 c4 x => hk₄₇ c o c0 (hk₁₄ c o c0 (hk₁ c o c1 c2 c3 c4 x))
end
end PySem

/-! ## FzK5 -/
set_option Elab.async false
set_option linter.all false
set_option maxRecDepth 100000
set_option maxHeartbeats 4000000
set_option autoImplicit false
/-! FzK5: for .. in enumerate(zip(a tuple, a tuple)): the turns. -/
namespace L2
open PySem PySem.Spec PyProof.Rows
/-- the tuples at a and b as they stand, a new pair within a new pair -/
def Itez (K : PySem.W.Frag) (a b : Addr) : It :=
  ⟨fun i H => ∃ (xs ys : List V) (x y : V), SqT K H a xs ∧ SqT K H b ys ∧ xs[i]? = some x ∧ ys[i]? = some y,
    fun i H v H' => ∃ T T2 x y, v = .ref T2 ∧ H T = none ∧ upd H T (.tup [x, y]) T2 = none ∧ H' = upd (upd H T (.tup [x, y])) T2 (.tup [.int (i : Nat), .ref T]) ∧ (∀ xs, SqT K H a xs → xs[i]? = some x) ∧ ∀ ys, SqT K H b ys → ys[i]? = some y,
    fun i H => ∃ xs ys : List V, SqT K H a xs ∧ SqT K H b ys ∧ xs.length ≤ i⟩
def EZ (e z TI TO i1 i2 a b : Addr) (i : Nat) (h : Heap) : Prop :=
  (∃ old, IsEnum h e z ((i : Nat) : Int) old) ∧ IsTupOf2 h TI (.ref i1) (.ref i2) ∧ h.IsTupleIter i1 a i ∧ h.IsTupleIter i2 b i ∧
  ∃ f0 f u v, IsZF h z TI TO f0 f ∧ (f0 = .none ∨ ∃ T : Addr, f0 = rawInt T) ∧ IsTupOf2 h TO u v
theorem turn_ez {P : Program} {w : World} {K : PySem.W.Frag} {elts : List Expr} {kk : Nat} {tpos : Pos} {e z TI TO i1 i2 a b : Addr} (S : ZipSep2 z TI TO i1 i2 [i1, a] [i2, b]) (hez : e ≠ z) (heT : e ≠ TO) (he1 : e ≠ i1) (he2 : e ≠ i2) (hea : e ≠ a) (heb : e ≠ b) (heI : e ≠ TI) :
    Turn P w K (.Tuple elts kk tpos) (Itez K a b) [e, z, TI, TO, i1, i2] e (EZ e z TI TO i1 i2 a b) where
  mem := by simp
  obj := fun i h st c hc => by
    obtain ⟨⟨old, he⟩, hTI, ⟨o1, e1, _, d1⟩, ⟨o2, e2, _, d2⟩, f0, f, u, v, hz, _, hTO⟩ := st
    have q : c = e ∨ c = z ∨ c = TI ∨ c = TO ∨ c = i1 ∨ c = i2 := by simpa using hc
    rcases q with q | q | q | q | q | q
    · rw [q]; exact ⟨_, he, fun v q => nomatch q⟩
    · rw [q]; exact ⟨_, hz, fun v q => nomatch q⟩
    · rw [q]; exact ⟨_, hTI, fun v q => nomatch q⟩
    · rw [q]; exact ⟨_, hTO, fun v q => nomatch q⟩
    · rw [q]; exact ⟨o1, e1, fun v q => by rw [d1] at q; cases q⟩
    · rw [q]; exact ⟨o2, e2, fun v q => by rw [d2] at q; cases q⟩
  keep := fun i h h' st k => by
    obtain ⟨⟨old, he⟩, hTI, h1, h2, f0, f, u, v, hz, hf, hTO⟩ := st
    exact ⟨⟨old, k e (by simp) _ he⟩, k TI (by simp) _ hTI, h1.at fun o q => k i1 (by simp) o q, h2.at fun o q => k i2 (by simp) o q, f0, f, u, v, k z (by simp) _ hz, hf, k TO (by simp) _ hTO⟩
  item := by
    intro X hP hw hK hc i pins s σ H E I hf st hg
    subst hP hw hK
    obtain ⟨⟨old, he⟩, hTI, h1, h2, f0, f, u0, v0, hz, hf0, hTO⟩ := st
    obtain ⟨xs, ys, x, y, hqx, hqy, hx, hy⟩ := hg
    obtain ⟨its, rv, p, _⟩ := I.tuple hqx
    obtain ⟨its2, rv2, p2, _⟩ := I.tuple hqy
    have p : s.heap.IsTuple a its.toArray := p
    have p2 : s.heap.IsTuple b its2.toArray := p2
    obtain ⟨u, hu, ru⟩ := rv.get hx
    obtain ⟨u2, hu2, ru2⟩ := rv2.get hy
    have low : ∀ c ∈ [e, z, TI, TO, i1, i2], c < s.heap.objs.size := fun c hc => by
      have q : c = e ∨ c = z ∨ c = TI ∨ c = TO ∨ c = i1 ∨ c = i2 := by simpa using hc
      rcases q with q | q | q | q | q | q
      · rw [q]; exact Heap.lt_size he
      · rw [q]; exact Heap.lt_size hz
      · rw [q]; exact Heap.lt_size hTI
      · rw [q]; exact Heap.lt_size hTO
      · rw [q]; obtain ⟨_, q, _⟩ := h1; exact Heap.lt_size q
      · rw [q]; obtain ⟨_, q, _⟩ := h2; exact Heap.lt_size q
    have hel := low e (by simp)
    have zs : ZS z TI TO i1 i2 a b its.toArray its2.toArray i s.heap := ⟨hTI, ⟨h1, p⟩, ⟨h2, p2⟩, f0, f, u0, v0, hz, hf0, hTO⟩
    have hT : s.TypeIs (.ref e) "enumerate" := ⟨_, he, rfl⟩
    unfold pyNext
    refine wpAny_bind (wpAny_attempt (wpAny_callSpecial?_slot (name := Str.ofString "__next__") hT F.slot_enumerate_next
      (wpAny_call_entry F.slot_enumerate_next hT F.entry_enumerate_next
        (fz_enum_zip_item S he zs (x := u) (y := u2) (by simpa using hu) (by simpa using hu2) hez heT he1 he2 hea heb heI fun h' tk hT1 ho st' hT2 hk => wpAny_pure ?_) (F.args_enumerate_next_1 _))))
    refine ⟨_, rfl, wpAny_letOwnedTupleGo_enum (s := { s with heap := h', toks := tk + 1 }) ho fun h'' he' sb => ?_⟩
    have sk : ∀ c o, c ≠ e → h'.get? c = some o → h''.get? c = some o := fun c o hc q => (sb.2 c hc).trans q
    have ne1 : s.heap.objs.size ≠ e := Nat.ne_of_gt hel
    have ne2 : s.heap.objs.size + 1 ≠ e := Nat.ne_of_gt (Nat.lt_succ_of_lt hel)
    have t1 : h''.get? s.heap.objs.size = some { cls := .type "tuple", data := .seq #[u, u2] } := sk _ _ ne1 hT1
    have t2 : h''.get? (s.heap.objs.size + 1) = some { cls := .type "tuple", data := .seq #[.int i tk, .ref s.heap.objs.size] } := sk _ _ ne2 hT2
    obtain ⟨G, g1, g2⟩ := restrict h'' fun c => decide (c ≠ s.heap.objs.size + 1)
    have gk : ∀ c, c ≠ s.heap.objs.size + 1 → G.get? c = h''.get? c := fun c hc => g1 c (decide_eq_true hc)
    have gn : G.get? (s.heap.objs.size + 1) = none := g2 _ (by simp)
    have kG : ∀ c o, c ∉ [e, z, TI, TO, i1, i2] → s.heap.get? c = some o → G.get? c = some o := fun c o hc q => by
      have hlt := Heap.lt_size q
      rw [gk c (Nat.ne_of_lt (Nat.lt_succ_of_lt hlt))]
      refine sk c o (fun z => hc (by simp [z])) (hk c o (fun z => hc (by simp [z])) (fun z => hc (by simp [z])) (fun z => hc (by simp [z])) (fun z => hc (by simp [z])) (fun z => hc (by simp [z])) q)
    have new1 : ObjOk X.prog X.w (upd H s.heap.objs.size (.tup [x, y])) G s.heap.objs.size (.tup [x, y]) :=
      ⟨by show 2 ≤ sizeLine; decide, [u, u2], .cons ru (.cons ru2 .nil), ⟨_, (gk _ (Nat.ne_of_lt (Nat.lt_succ_self _))).trans t1, rfl, _, rfl⟩⟩
    have I1 : Inv X pins σ (upd H s.heap.objs.size (.tup [x, y])) { s with heap := G, toks := tk + 1 } := I.turnedNew (ch := [e, z, TI, TO, i1, i2]) kG hf (Nat.le_refl _) new1
    have hn1 : H s.heap.objs.size = none := I.hok.fresh (Nat.le_refl _)
    have hn2 : upd H s.heap.objs.size (.tup [x, y]) (s.heap.objs.size + 1) = none := by
      rw [upd_ne (Nat.ne_of_gt (Nat.lt_succ_self _))]
      exact I.hok.fresh (Nat.le_succ _)
    have new2 : ObjOk X.prog X.w (upd (upd H s.heap.objs.size (.tup [x, y])) (s.heap.objs.size + 1) (.tup [.int (i : Nat), .ref s.heap.objs.size])) h'' (s.heap.objs.size + 1) (.tup [.int (i : Nat), .ref s.heap.objs.size]) :=
      ⟨by show 2 ≤ sizeLine; decide, [.int i tk, .ref s.heap.objs.size], .cons ⟨_, rfl⟩ (.cons rfl .nil), ⟨_, t2, rfl, _, rfl⟩⟩
    have I2 : Inv X pins σ (upd (upd H s.heap.objs.size (.tup [x, y])) (s.heap.objs.size + 1) (.tup [.int (i : Nat), .ref s.heap.objs.size])) { s with heap := h'', toks := tk + 1 } :=
      Inv.laidN (s := { s with heap := G, toks := tk + 1 }) (t' := tk + 1) I1 (fun c o q => by
        by_cases hc : c = s.heap.objs.size + 1
        · have q' : G.get? c = some o := q
          rw [hc, gn] at q'; cases q'
        · exact (gk c hc).symm.trans q) gn hn2 new2
    obtain ⟨z1, ⟨z2, _⟩, ⟨z3, _⟩, f0', f', u', v', z4, z5, z6⟩ := st'
    refine ⟨.ref (s.heap.objs.size + 1), _, I2, rfl, ⟨_, _, x, y, rfl, hn1, hn2, rfl, fun zs hz' => by rw [I.tuple_inj hz' hqx]; exact hx, fun zs hz' => by rw [I.tuple_inj hz' hqy]; exact hy⟩, ⟨⟨.ref s.heap.objs.size, ?_⟩, sk _ _ heI.symm z1, z2.at fun o q => sk _ _ he1.symm q, z3.at fun o q => sk _ _ he2.symm q, f0', f', u', v', sk _ _ hez.symm z4, z5, sk _ _ heT.symm z6⟩, fun c hc => ?_⟩
    · have e1 : ((i + 1 : Nat) : Int) = (i : Int) + 1 := by omega
      rw [e1]; exact he'
    · have hlt := low c hc
      rw [upd_ne (Nat.ne_of_lt (Nat.lt_succ_of_lt hlt)), upd_ne (Nat.ne_of_lt hlt)]
      exact (hf c hc).1
  done := by
    intro X hP hw hK hc i pins s σ H E I hf st hg
    subst hP hw hK
    obtain ⟨⟨old, he⟩, hTI, h1, h2, f0, f, u0, v0, hz, hf0, hTO⟩ := st
    obtain ⟨xs, ys, hqx, hqy, hle⟩ := hg
    obtain ⟨its, rv, p, _⟩ := I.tuple hqx
    obtain ⟨its2, rv2, p2, _⟩ := I.tuple hqy
    have p : s.heap.IsTuple a its.toArray := p
    have p2 : s.heap.IsTuple b its2.toArray := p2
    have hl := rv.length
    have zs : ZS z TI TO i1 i2 a b its.toArray its2.toArray i s.heap := ⟨hTI, ⟨h1, p⟩, ⟨h2, p2⟩, f0, f, u0, v0, hz, hf0, hTO⟩
    have hT : s.TypeIs (.ref e) "enumerate" := ⟨_, he, rfl⟩
    unfold pyNext
    refine wpAny_bind (wpAny_attempt (wpAny_callSpecial?_slot (name := Str.ofString "__next__") hT F.slot_enumerate_next
      (wpAny_call_entry F.slot_enumerate_next hT F.entry_enumerate_next ?_ (F.args_enumerate_next_1 _))))
    show wpAny _ _ (field (.ref e) 2 >>= _) _ _ _
    refine wpAny_bind (wpAny_field he rfl (x := .ref z) rfl ?_)
    refine wpAny_bind (fz_nextOf_zip_end (A := X.A.in1) (show X.A.in1.in1.handled = none from I.ok.hd hc) S zs (by simp; omega) fun h' x hk hx' => ?_)
    obtain ⟨o, ho, hcl⟩ := hx'
    refine wpAny_bind (wpAny_isInstance (T := "StopIteration") (b := true) ⟨o, ho, hcl⟩ isSubtype_stop ?_)
    exact wpAny_pure ⟨rfl, Inv.turnedL (t' := s.toks) (ch := [e, z, TI, TO, i1, i2]) I (fun c o hc q => hk c o (fun z => hc (by simp [z])) (fun z => hc (by simp [z])) (fun z => hc (by simp [z])) (fun z => hc (by simp [z])) q) hf⟩
  self := fun A i s Q E st h => let ⟨⟨_, he⟩, _⟩ := st; wpAny_pyIter_enum he h
end L2

/-! ## FzK6 -/
set_option Elab.async false
set_option linter.all false
set_option maxRecDepth 100000
set_option maxHeartbeats 4000000
set_option autoImplicit false
/-! FzK6: enumerate(zip(..)) made and walked. -/
namespace PySem
set_option maxHeartbeats 1000000 in
theorem fz_meets_enumZ (z TI TO : Addr) :
    Meets (Builtin.«enumerate.__new__» ⟨[.type "enumerate", .ref z], []⟩) (fun _ R s => IsZip s.heap z TI TO .none ∧
      R (.ok (.ret (.ref s.heap.objs.size))) { s with heap := s.heap.push { cls := .type "enumerate", data := .fields #[.none, .bool false, .ref z, rawInt 0, .none, .none] } }) :=
  .of_wp fun prog w A R s h => by
    obtain ⟨hp, g, d, tk, os⟩ := s; obtain ⟨hl, h⟩ := h
    have hsub := sub_enumerate
    have hL : IsZip (Shared.heap ⟨hp, g, d, tk, os⟩) z TI TO .none := hl
    wp_walk using AutoSeq1.wpAny_loadPart' hl
    refine wpAny_stack_any fun st => wpAny_pure ?_
    split
    · rename_i c _ _ _ _ _
      cases (c == Value.type "enumerate")
      · wp_walk using AutoSeq1.wpAny_loadPart' hl, wpAny_pyIter_zip hL
        exact ⟨_, rfl, h⟩
      · wp_walk using AutoSeq1.wpAny_loadPart' hl, wpAny_pyIter_zip hL
        exact ⟨_, rfl, h⟩
    · wp_walk using AutoSeq1.wpAny_loadPart' hl, wpAny_pyIter_zip hL
      exact ⟨_, rfl, h⟩
section
variable {prog : Program} {w : World} {A : Around} {E : Value → Shared → Prop} {s : Shared}
theorem fz_call_enumZ {z TI TO : Addr} {Q : Value → Shared → Prop} (hz : IsZip s.heap z TI TO .none)
    (h : ∀ h', IsEnum h' s.heap.objs.size z 0 .none → (∀ b o, s.heap.get? b = some o → h'.get? b = some o) → Q (.ref s.heap.objs.size) { s with heap := h' }) :
    wpAny (model prog w) A (call (.type "enumerate") [.ref z]) Q E s := by
  refine callType_new F.called_enumerate (by decide) (F.typeCall_enumerate_1 _) (F.newCall_enumerate_1 _) (fun obj => F.args_object_init_2 obj _) F.entry_enumerate_new
    (fz_meets_enumZ z TI TO) ⟨hz, ?_⟩
  have he : IsEnum (s.heap.push { cls := .type "enumerate", data := .fields #[.none, .bool false, .ref z, rawInt 0, .none, .none] }) s.heap.objs.size z 0 .none := Heap.get?_push_size _ rfl
  exact ⟨⟨_, he, rfl⟩, h _ he fun b o x => Heap.get?_push_of_some _ x⟩
end
end PySem
namespace L2
open PySem PySem.Spec PyProof.Rows
def iEnumZ (K : PySem.W.Frag) (ta : TA) : TI := fun σ H R => ta σ H fun vs H1 => ∃ a b xs ys, vs = [.ref a, .ref b] ∧ SqT K H1 a xs ∧ SqT K H1 b ys ∧ R (Itez K a b) H1
theorem pi_enumZ {X : Cx} {e1 e2 : Expr} {ta : TA} {p p2 pos pos2 tpos : Pos} {elts : List Expr} {kk : Nat} (hg : Gl X "enumerate") (hm : X.mg "enumerate" = none) (hg2 : Gl X "zip") (hm2 : X.mg "zip" = none) (ha : PA X [e1, e2] ta)
    (hs2 : starEach [e1, e2] X.env = (false, eval e1 X.env) :: starEach [e2] X.env := by rfl) (hpl : (backTo pos2 (starEach [e2] X.env)).any (·.1) = false := by rfl)
    (hs : starEach [.Call (.Name "zip" p2) [e1, e2] [] pos2] X.env = [(false, eval (.Call (.Name "zip" p2) [e1, e2] [] pos2) X.env)] := by rfl) :
    PI X (.Tuple elts kk tpos) (.Call (.Name "enumerate" p) [.Call (.Name "zip" p2) [e1, e2] [] pos2] [] pos) (iEnumZ X.K ta) := by
  refine ⟨fun pins s σ H R I h => ?_⟩
  refine Call_ (ld_blt I hg hm boot_enumerate (PyProof.Rows.callWith_type1 ?_ hs rfl))
  refine spliced_more (rest := []) ?_ hs
  refine Call_ (ld_blt I hg2 hm2 PyProof.Rows.boot_zip (PyProof.Rows.callWith_type1 (thn (ha.run pos2 pins s σ H _ I h) fun us s1 ⟨vs, H1, I1, r1, q1⟩ => ?_) hs2 hpl))
  obtain ⟨a, b, xs, ys, ex, hqx, hqy, q⟩ := q1
  subst ex
  cases r1 with
  | cons r rr =>
    cases rr with
    | cons r' rr =>
      cases rr
      cases r
      cases r'
      obtain ⟨its, rv, p1, _⟩ := I1.tuple hqx
      obtain ⟨its2, rv2, p2, _⟩ := I1.tuple hqy
      have p1 : s1.heap.IsTuple a its.toArray := p1
      have p2 : s1.heap.IsTuple b its2.toArray := p2
      have la : a < s1.heap.objs.size := by obtain ⟨_, q, _⟩ := p1; exact Heap.lt_size q
      have lb : b < s1.heap.objs.size := by obtain ⟨_, q, _⟩ := p2; exact Heap.lt_size q
      refine zip_begins2 (begins_tuple a its.toArray) (begins_tuple b its2.toArray) p1 p2 fun h' hz hTI hTO h1 h2 hsz hk => ?_
      have h1 : h'.IsTupleIter s1.heap.objs.size a 0 := ⟨_, h1, rfl, rfl⟩
      have h2 : h'.IsTupleIter (s1.heap.objs.size + 1) b 0 := ⟨_, h2, rfl, rfl⟩
      refine spliced_none ?_
      refine fz_call_enumZ (s := { s1 with heap := h' }) hz fun h3 he hk3 => wpAny_pyIter_enum he ?_
      have hsz : ({ s1 with heap := h' } : Shared).heap.objs.size = s1.heap.objs.size + 5 := hsz
      rw [hsz] at he ⊢
      have I2 : Inv X pins σ H1 { s1 with heap := h3 } := I1.kept (t' := s1.toks) fun c o q => hk3 c o (hk c o q)
      have S := zip_sep2 (N := s1.heap.objs.size) (fp1 := [a]) (fp2 := [b]) (fun c hc => by rw [List.mem_singleton.mp hc]; exact la) (fun c hc => by rw [List.mem_singleton.mp hc]; exact lb)
      have ne : ∀ k : Nat, k < 5 → s1.heap.objs.size + 5 ≠ s1.heap.objs.size + k := fun k hk => by omega
      refine ⟨s1.heap.objs.size + 5, [s1.heap.objs.size + 5, s1.heap.objs.size + 4, s1.heap.objs.size + 2, s1.heap.objs.size + 3, s1.heap.objs.size, s1.heap.objs.size + 1], _, _, H1, rfl, I2,
        turn_ez S (ne 4 (by decide)) (ne 3 (by decide)) (ne 0 (by decide)) (ne 1 (by decide)) (Nat.ne_of_gt (Nat.lt_of_lt_of_le la (Nat.le_add_right _ _))) (Nat.ne_of_gt (Nat.lt_of_lt_of_le lb (Nat.le_add_right _ _))) (ne 2 (by decide)),
        ⟨⟨.none, he⟩, hk3 _ _ hTI, h1.at fun o e => hk3 _ _ e, h2.at fun o e => hk3 _ _ e, .none, false, .none, .none, hk3 _ _ hz, .inl rfl, hk3 _ _ hTO⟩, fun c hcm => ?_, q⟩
      have e' : c = s1.heap.objs.size + 5 ∨ c = s1.heap.objs.size + 4 ∨ c = s1.heap.objs.size + 2 ∨ c = s1.heap.objs.size + 3 ∨ c = s1.heap.objs.size ∨ c = s1.heap.objs.size + 1 := by simpa using hcm
      have hle : s1.heap.objs.size ≤ c := by
        rcases e' with z | z | z | z | z | z
        · rw [z]; exact Nat.le_add_right _ _
        · rw [z]; exact Nat.le_add_right _ _
        · rw [z]; exact Nat.le_add_right _ _
        · rw [z]; exact Nat.le_add_right _ _
        · rw [z]; exact Nat.le_refl _
        · rw [z]; exact Nat.le_add_right _ _
      exact I1.fpOk hle (I1.hok.fresh hle)
end L2

/-! ## FzK7 -/
set_option Elab.async false
set_option linter.all false
set_option maxRecDepth 100000
set_option maxHeartbeats 4000000
set_option autoImplicit false
/-! FzK7: the rule for `for i, (x, y) in enumerate(zip(a, b))` over frozen tuples. -/
namespace Fz
open PySem L2
section
variable {B : Bg} {ε : Eps} {L L1 : Own} {tas : TA} {g : TG} {tc : TS} {D : Ends}
theorem x_forEZ {ds es : List PyData} (h : EA B tas ε L [.d (.tuple ds), .d (.tuple es)] L1) (hle : ds.length ≤ es.length) (I : V → V → Nat → Eps → Own → Prop) (h0 : ∀ v u, I v u 0 ε ((L1 ++ [.know v (.tuple ds)]) ++ [.know u (.tuple es)]))
    (hl : ∀ v u i ε' L', I v u i ε' L' → MO.know v (.tuple ds) ∈ L' ∧ MO.know u (.tuple es) ∈ L')
    (hs : ∀ v u i d e ε' L', ds[i]? = some d → es[i]? = some e → I v u i ε' L' → ∃ ε'', GT B g (.d (.tuple [.int (i : Int), .tuple [d, e]])) ε' ε'' ∧ Ho B (tc { D with nx := AbsP B (I v u (i + 1)), ct := AbsP B (I v u (i + 1)), bk := D.nx }) ε'' L')
    (hd : ∀ v u ε' L', I v u ds.length ε' L' → Ho B D.nx ε' L') : Ho B (tFor (iEnumZ B.K tas) g tc D) ε L := fun F σ H r =>
  h F σ H r _ fun vs0 F1 H1 _ r1 o1 => by
    match vs0, o1 with
    | [v, u], o =>
    have o' : Dq B.K F1 v (.tuple ds) := o.1
    have o2 : Dq B.K F1 u (.tuple es) := o.2.1
    have r2 := (r1.learn o').learn o2
    cases o' with
    | @tup p vs _ q1 q2 =>
      cases o2 with
      | @tup p' ws _ q3 q4 =>
        have back : ∀ {i : Nat} {ε' : Eps} {L' : Own} {F' : Hp} {σ' : St} {H' : Hp}, I (.ref p) (.ref p') i ε' L' → Rep B ε' L' F' σ' H' → (∃ ws, SqT B.K H' p ws ∧ DqAll B.K F' ws ds) ∧ ∃ ws, SqT B.K H' p' ws ∧ DqAll B.K F' ws es := fun hI r' => by
          have k : Dq B.K _ (.ref p) (.tuple ds) := r'.own _ (hl _ _ _ _ _ hI).1
          have k' : Dq B.K _ (.ref p') (.tuple es) := r'.own _ (hl _ _ _ _ _ hI).2
          cases k with
          | tup k1 k2 =>
            cases k' with
            | tup k3 k4 => exact ⟨⟨_, tq_sub r'.sub k1, k2⟩, _, tq_sub r'.sub k3, k4⟩
        refine ⟨p, p', vs, ws, rfl, tq_sub r1.sub q1, tq_sub r1.sub q3, ⟨fun i m σ' H' => m = ds.length - i ∧ i ≤ ds.length ∧ AbsP B (I (.ref p) (.ref p') i) σ' H', ⟨_, rfl, Nat.zero_le _, ε, _, F1, h0 _ _, r2⟩, ?_⟩⟩
        rintro i m σ' H' ⟨rfl, hi, ε', L', F', hI, r'⟩
        obtain ⟨⟨w1, k1, k2⟩, w2, k3, k4⟩ := back hI r'
        by_cases hlt : i < ds.length
        · obtain ⟨d, hdi⟩ : ∃ d, ds[i]? = some d := ⟨_, List.getElem?_eq_getElem hlt⟩
          obtain ⟨e, hei⟩ : ∃ e, es[i]? = some e := ⟨_, List.getElem?_eq_getElem (Nat.lt_of_lt_of_le hlt hle)⟩
          obtain ⟨x, e1, e2⟩ := dpa_get k2 hdi
          obtain ⟨y, e3, e4⟩ := dpa_get k4 hei
          obtain ⟨ε'', hg, hb⟩ := hs _ _ i d e ε' L' hdi hei hI
          refine .inr ⟨⟨w1, w2, x, y, k1, k3, e1, e3⟩, AbsP B (I (.ref p) (.ref p') (i + 1)), fun σ2 H2 hN => ⟨ds.length - (i + 1), by omega, rfl, hlt, hN⟩, fun z H2 hy => ?_⟩
          obtain ⟨T, T2, x', y', rfl, hT, hT2, rfl, hx, hyy⟩ := hy
          have ex : x' = x := Option.some.inj ((hx w1 k1).symm.trans e1)
          have ey : y' = y := Option.some.inj ((hyy w2 k3).symm.trans e3)
          subst ex ey
          have hF := sub_none r'.sub hT
          have ra := r'.grow (o := .tup [x', y']) hT
          have hF2 := sub_none ra.sub hT2
          have rb := ra.grow (o := .tup [.int (i : Nat), .ref T]) hT2
          refine hg L' _ σ' _ _ rb (.tup upd_same (.cons (.int _) (.cons (dp_sub (sub_fresh hF2) (.tup upd_same (.cons (dp_sub (sub_fresh hF) e2) (.cons (dp_sub (sub_fresh hF) e4) .nil)))) .nil))) _ fun σ3 r3 => hb _ σ3 _ r3
        · have ei : i = ds.length := by omega
          subst ei
          exact .inl ⟨⟨w1, w2, k1, k3, by rw [dpa_len k2]; exact Nat.le_refl _⟩, hd _ _ _ _ hI F' σ' H' r'⟩
end
end Fz

/-! ## FzZ1 -/
set_option Elab.async false
set_option linter.all false
set_option maxRecDepth 100000
set_option maxHeartbeats 2000000
set_option autoImplicit false
/-! FzZ1: in, str, bool, {}, of data. -/
namespace Fz
open PySem L2
section
variable {B : Bg} {ε : Eps} {L La Lb : Own} {te ta tb : TE} {a x y : AD}
/-! ### in -/
theorem inV_ints (i : Int) : ∀ ns : List Int, inV (.int i) (ns.map V.int) = ns.any fun n => decide (n = i)
  | [] => rfl
  | n :: ns => by
    have h := inV_ints i ns
    unfold inV at h ⊢
    rw [List.map_cons, List.any_cons, List.any_cons, h]
    show ((n == i) || _) = _
    by_cases e : n = i
    · subst e; simp
    · rw [decide_eq_false e, beq_eq_false_iff_ne.mpr e]
theorem flat_ints (ns : List Int) : (ns.map V.int).all flatV = true := List.all_eq_true.mpr fun v hv => by
  obtain ⟨n, _, rfl⟩ := List.mem_map.mp hv
  rfl
theorem ex_in {i : Int} {ns : List Int} (ha : EX B ta ε L (.d (.int i)) La) (hb : EX B tb ε La y Lb) (hy : IsL Lb y (ns.map PyData.int)) (neg : Bool) : EX B (tOp (rIn B.K neg) ta tb) ε L (.d (.bool (if neg then !ns.any (fun n => decide (n = i)) else ns.any fun n => decide (n = i)))) Lb := ex_op ha hb fun F σ H v w rp hv hw Q q => by
  obtain ⟨p, vs, e, h1, h2⟩ := hy.get rp hw
  rw [int_inv hv, e]
  refine ⟨p, vs, rfl, .inl h1, rfl, by rw [dpa_int_inv h2]; exact flat_ints ns, ?_⟩
  rw [dpa_int_inv h2, inV_ints]
  exact q _ F H (Sub.rfl' F) rp (.bl _)
theorem ex_inL {i : Int} {ns : List Int} (ha : EX B ta ε L (.d (.int i)) La) (hb : EX B tb ε La y Lb) (hy : IsL Lb y (ns.map PyData.int)) : EX B (tOp (rIn B.K false) ta tb) ε L (.d (.bool (ns.any fun n => decide (n = i)))) Lb := ex_in ha hb hy false
theorem ex_ninL {i : Int} {ns : List Int} (ha : EX B ta ε L (.d (.int i)) La) (hb : EX B tb ε La y Lb) (hy : IsL Lb y (ns.map PyData.int)) : EX B (tOp (rIn B.K true) ta tb) ε L (.d (.bool (!ns.any fun n => decide (n = i)))) Lb := ex_in ha hb hy true
/-! ### [i] of whatever -/
theorem ex_ixQT {ds : List PyData} {d : PyData} {i : Int} (ha : EX B ta ε L (.d (.tuple ds)) La) (hb : EX B tb ε La (.d (.int i)) Lb) (hi : atI ds i = some d) : EX B (tOp (rIx B.K) ta tb) ε L (.d d) Lb := ex_op ha hb fun F σ H v w rp hv hw Q q => by
  obtain ⟨p, vs, rfl, h1, h2⟩ := tup_inv hv
  obtain ⟨u, e1, e2⟩ := atI_dp h2 hi
  exact .inr (.inl ⟨p, vs, i, u, rfl, int_inv hw, tq_sub rp.sub h1, e1, q u F H (Sub.rfl' F) rp e2⟩)
theorem ex_ixQL {ds : List PyData} {d : PyData} {i : Int} (ha : EX B ta ε L x La) (hb : EX B tb ε La (.d (.int i)) Lb) (hx : IsL Lb x ds) (hi : atI ds i = some d) : EX B (tOp (rIx B.K) ta tb) ε L (.d d) Lb := ex_op ha hb fun F σ H v w rp hv hw Q q => by
  obtain ⟨p, vs, rfl, h1, h2⟩ := hx.get rp hv
  obtain ⟨u, e1, e2⟩ := atI_dp h2 hi
  exact .inl ⟨p, vs, i, u, rfl, int_inv hw, h1, e1, q u F H (Sub.rfl' F) rp e2⟩
/-! ### bool, {} -/
theorem ex_boolI {i : Int} (h : EX B te ε L (.d (.int i)) La) : EX B (tCB (fun xs H Q => (∃ i, xs = [.int i] ∧ Q (.bl (i != 0)) H) ∨ ∃ k, xs = [.bl k] ∧ Q (.bl k) H) (tCons te tNil)) ε L (.d (.bool (i != 0))) La := fun F σ H r Q q =>
  h F σ H r _ fun v F1 H1 s1 r1 o1 => .inl ⟨i, by rw [int_inv o1], q _ F1 H1 s1 r1 (.bl _)⟩
theorem ex_dnew : EX B tDNewK ε L (.d (.dict [])) L := fun F σ H r Q q p hp => by
  have hF := sub_none r.sub hp
  exact q _ _ _ (sub_fresh hF) (r.grow hp) (.dic upd_same rfl)
end
/-! ### str -/
def rStrD (K : PySem.W.Frag) : List V → Hp → VK → Prop := fun xs H Q => ∃ v d, xs = [v] ∧ Dq K H v d ∧ (∃ s : Str, (match d with | .int i => PyData.shown (.int i) = s | .tuple ds => PyData.shown (.tuple ds) = s | _ => False) ∧ d.showable = true ∧ repOk d = true ∧ d.depth ≤ 60 ∧ s.length ≤ sizeLine ∧ Q (.str s) H)
section
variable {X : Cx} {k : Nat}
theorem call_strD (hr : Room k X.A) (hG : X.A.guards = some []) : CallR X (.type "str") (rStrD X.K) := by
  intro pins s σ H xs us Q I r h
  obtain ⟨v, d, rfl, hd, z, hz, h1, h2, h3, h4, q⟩ := h
  obtain ⟨u, rfl, ru⟩ := vals1 r
  cases hd with
  | int i =>
    obtain ⟨t, rfl⟩ := ru
    subst hz
    rw [PyData.shown_int] at q
    exact PySem.P.str_of_int (by simpa [PyData.showable] using h1) ⟨.str _, H, I.tok _, ⟨_, rfl⟩, q⟩
  | @tup a vs ds g1 g2 =>
    subst hz
    have e : u = .ref a := ru
    subst e
    obtain ⟨as, rd, hn⟩ := dq_reads I (.tup g1 g2) (show RelV (.ref a) (.ref a) from rfl)
    refine str_of_reads rd h1 (fun hdd => hn ?_) hG (by have := hr.units; have := hr.un; omega) (fun _ _ e => e) (fun h' z tk hk => ⟨.str _, H, I.kept hk, ⟨z, rfl⟩, q⟩) h4
    unfold repOk at h2
    rw [hdd] at h2
    exact h2
  | non => exact absurd hz id
  | bl b => exact absurd hz id
  | str z => exact absurd hz id
  | lst _ _ => exact absurd hz id
  | dic _ _ => exact absurd hz id
  | dit _ _ => exact absurd hz id
end
section
variable {B : Bg} {ε : Eps} {L La : Own} {te : TE}
theorem ex_strT {ds : List PyData} (h : EX B te ε L (.d (.tuple ds)) La) (h1 : (PyData.tuple ds).showable = true) (h2 : repOk (.tuple ds) = true) (h3 : (PyData.tuple ds).depth ≤ 60) (h4 : (PyData.tuple ds).shown.length ≤ sizeLine) : EX B (tCB (rStrD B.K) (tCons te tNil)) ε L (.d (.str (PyData.tuple ds).shown)) La := fun F σ H r Q q =>
  h F σ H r _ fun v F1 H1 s1 r1 o1 => ⟨v, .tuple ds, rfl, dp_sub r1.sub o1, _, rfl, h1, h2, h3, h4, q _ F1 H1 s1 r1 (.str _)⟩
theorem ex_strI {i : Int} (h : EX B te ε L (.d (.int i)) La) (h1 : (PyData.int i).showable = true) (h4 : (PyData.int i).shown.length ≤ sizeLine) : EX B (tCB (rStrD B.K) (tCons te tNil)) ε L (.d (.str (PyData.int i).shown)) La := fun F σ H r Q q =>
  h F σ H r _ fun v F1 H1 s1 r1 o1 => ⟨v, .int i, rfl, dp_sub r1.sub o1, _, rfl, h1, rfl, Nat.zero_le _, h4, q _ F1 H1 s1 r1 (.str _)⟩
theorem ex_strS {i : Int} (h : EX B te ε L (.d (.int i)) La) (hz : i.natAbs.log2 < 1920) : EX B (tCB (fun xs H Q => ∃ i, xs = [.int i] ∧ i.natAbs.log2 < 1920 ∧ Q (.str (toString i)) H) (tCons te tNil)) ε L (.d (.str (Str.ofString (toString i)))) La := fun F σ H r Q q =>
  h F σ H r _ fun v F1 H1 s1 r1 o1 => ⟨i, by rw [int_inv o1], hz, q _ F1 H1 s1 r1 (.str _)⟩
end
theorem bulk_len : ∀ ds : List PyData, ds.length ≤ PyData.bulkAll ds
  | [] => Nat.zero_le _
  | d :: ds => by
    have := bulk_len ds
    show ds.length + 1 ≤ d.bulk + 1 + PyData.bulkAll ds
    omega
/-! ### a pick out of a list or a tuple -/
def seqQ (q : Bool) (xs : List PyData) : PyData := if q then .tuple xs else .list xs
def R_pickQ : Bag → List PyData → PyData → Bag → Prop := fun b ds d b' => ∃ (q : Bool) (xs : List PyData), xs ≠ [] ∧ xs.length ≤ 100000 ∧ ds = [seqQ q xs] ∧ d = xs.getD (drawV b xs.length).toNat .none ∧ b' = drawB b xs.length
abbrev S_pickQ (K : PySem.W.Frag) : Sp := spG K (fun y : Bool × List PyData => [seqQ y.1 y.2]) (fun y => y.2 ≠ [] ∧ y.2.length ≤ 100000) eD (fun y d => d ∈ y.2)
section
variable {P : Program} {w : World} {K : PySem.W.Frag} {mg : Str → Option Value} {base : Heap} {f : Addr} {fd : FuncData} {ps : List Str} {k : Nat}
theorem pickQ_wk (h : FnOk P w K mg base CX0 k f fd ps (spB K R_pickQ)) : FnOk P w K mg base CX0 k f fd ps (S_pickQ K) :=
  fn_wk h (spG_of fun y b ⟨h0, h1⟩ => by
    have hpos := List.length_pos_iff.mpr h0
    have hv := drawV_ok b (show (0 : Int) < (y.2.length : Int) by omega)
    have hlt : (drawV b y.2.length).toNat < y.2.length := by omega
    refine ⟨y.2.getD (drawV b y.2.length).toNat .none, drawB b y.2.length, ⟨y.1, y.2, h0, h1, rfl, rfl, rfl⟩, ?_⟩
    rw [List.getD_eq_getElem?_getD, List.getElem?_eq_getElem hlt]
    exact List.getElem_mem hlt)
end
section
variable {B : Bg} {ε : Eps} {L La : Own} {tas : TA} {E : XK} {pb pc : Addr} {α : Type} {e : α → PyData}
theorem wq_pick {κ : α → Own → Prop} (h : WA B tas ε L fun as L1 => ∃ (xs : List α) (b : Bag) (L2 : Bag → Own), as = [.v (.ref pb), .d (eL e xs)] ∧ (∀ b', Up L1 (b.at pb pc) (b'.at pb pc) (L2 b')) ∧ xs ≠ [] ∧ xs.length ≤ 100000 ∧ ∀ x b', x ∈ xs → κ x (L2 b')) : WV B e (tCall (S_pickQ B.K) [] E tas) ε L κ :=
  wv_as (e := eD) (w_callG (pb := pb) (pc := pc) fun F σ H r Q q => h F σ H r Q fun as L' vs F' H' ⟨xs, b, L2, ea, hup, h0, h1, k⟩ => q as L' vs F' H' ⟨(false, xs.map e), b, L2, ea, hup, ⟨by simpa using h0, by rw [List.length_map]; exact h1⟩, fun x b' hx => by
    obtain ⟨y, hy, rfl⟩ := List.mem_map.mp hx
    exact ⟨y, rfl, k y b' hy⟩⟩)
theorem wq_pckT {κ : α → Own → Prop} {xs : List α} {i : Nat} {te : TE} {b : Bag} {L2 : Bag → Own} (hb : ε[i]? = some (some (.v (.ref pb)))) (hn : EX B te ε L (.d (eT e xs)) La) (hup : ∀ b', Up La (b.at pb pc) (b'.at pb pc) (L2 b')) (h0 : xs ≠ []) (h1 : xs.length ≤ 100000) (k : ∀ x b', x ∈ xs → κ x (L2 b')) : WV B e (tCall (S_pickQ B.K) [] E (tCons (tVar i) (tCons te tNil))) ε L κ :=
  wv_as (e := eD) (w_callG (pb := pb) (pc := pc) (wa_x (ex_v hb) (wa_x hn (wa_nil ⟨(true, xs.map e), b, L2, rfl, hup, ⟨by simpa using h0, by rw [List.length_map]; exact h1⟩, fun x b' hx => by
    obtain ⟨y, hy, rfl⟩ := List.mem_map.mp hx
    exact ⟨y, rfl, k y b' hy⟩⟩))))
end
end Fz

/-! ## FzZ2 -/
set_option Elab.async false
set_option linter.all false
set_option maxRecDepth 100000
set_option maxHeartbeats 2000000
set_option autoImplicit false
/-! FzZ2: ranges with a step; what is indexed or repeated by what is drawn. -/
namespace Fz
open PySem L2
section
variable {B : Bg} {ε : Eps} {L L1 : Own} {ta tb te : TE} {tas : TA} {tc : TS} {D : Ends}
/-- over range(lo, hi, c) -/
theorem x_forR3 {j n : Nat} {lo hi c : Int} (h : EA B tas ε L [.d (.int lo), .d (.int hi), .d (.int c)] L1) (hn : RgC lo hi c n) (I : Nat → Eps → Own → Prop) (h0 : I 0 ε L1)
    (hs : ∀ (i : Nat) ε' L', i < n → I i ε' L' → Ho B (tc { D with nx := AbsP B (I (i + 1)), ct := AbsP B (I (i + 1)), bk := D.nx }) (ε'.set j (some (.d (.int (lo + (i : Int) * c))))) L')
    (hd : ∀ ε' L', I n ε' L' → Ho B D.nx ε' L') : Ho B (tFor (iRng3 tas) (gName j) tc D) ε L := fun F σ H r =>
  h F σ H r _ fun vs F1 H1 _ r1 o1 => by
    match vs, o1 with
    | [u, v, w], o =>
      have eu : u = .int lo := int_inv o.1
      have ev : v = .int hi := int_inv o.2.1
      have ew : w = .int c := int_inv o.2.2.1
      subst eu ev ew
      refine ⟨lo, hi, c, n, rfl, hn, for_rangeC (lo := lo) (c := c) (n := n) (fun i => AbsP B (I i)) ⟨ε, L1, F1, h0, r1⟩ (fun i σ' H' hi p => ?_) fun σ' H' p => ho_abs hd p⟩
      obtain ⟨ε', L', F', hI, r'⟩ := p
      exact hs i ε' L' hi hI F' _ H' (r'.slot (a := .d (.int (lo + (i : Int) * c))) (.int _))
theorem rg_two {a b : Int} (ha : 0 ≤ a ∧ a ≤ 1) (hb : 0 ≤ b ∧ b ≤ 8) : ∃ n, n ≤ 8 ∧ RgC a b 2 n := by
  have key : ∀ (x : Fin 2) (y : Fin 9), (Builtin.Range.small (x.val : Int) (y.val : Int) 2 = true ∧ Builtin.Range.rangeSize (x.val : Int) (y.val : Int) 2 = (((y.val + 1 - x.val) / 2 : Nat) : Int)) := by decide
  obtain ⟨m, rfl⟩ : ∃ m : Nat, a = (m : Int) := ⟨a.toNat, by omega⟩
  obtain ⟨k, rfl⟩ : ∃ k : Nat, b = (k : Int) := ⟨b.toNat, by omega⟩
  have h := key ⟨m, by omega⟩ ⟨k, by omega⟩
  exact ⟨(k + 1 - m) / 2, by omega, by decide, by decide, h.1, h.2⟩
theorem rx_ixT {ds : List PyData} {d : PyData} {i : Int} (hi : atI ds i = some d) : RX B (rIxT B.K) ε L (.d (.tuple ds)) (.d (.int i)) (.d d) L := fun F σ H v w rp hv hw Q q => by
  obtain ⟨p, vs, rfl, h1, h2⟩ := tup_inv hv
  obtain ⟨u, e1, e2⟩ := atI_dp h2 hi
  exact ⟨p, vs, i, u, rfl, int_inv hw, tq_sub rp.sub h1, e1, q u F H (Sub.rfl' F) rp e2⟩
theorem rx_rep1 {ds : List PyData} {n : Int} (hne : ds ≠ []) (hl : ds.length ≤ 1000) (hn : 1 ≤ n ∧ n ≤ 1000) : RX B (rRepT1 B.K) ε L (.d (.tuple ds)) (.d (.int n)) (.d (.tuple (List.replicate n.toNat ds).flatten)) L := fun F σ H v w rp hv hw Q q => by
  obtain ⟨p, vs, rfl, h1, h2⟩ := tup_inv hv
  have hne' : vs ≠ [] := fun e => by
    have := dpa_len h2
    rw [e] at this
    exact hne (List.eq_nil_of_length_eq_zero this.symm)
  refine ⟨p, n, vs, rfl, int_inv hw, tq_sub rp.sub h1, hne', ?_⟩
  by_cases c : n = 1
  · subst c
    refine .inl ⟨rfl, q _ F H (Sub.rfl' F) rp (.tup h1 ?_)⟩
    have e : (List.replicate (1 : Int).toNat ds).flatten = ds := by simp
    rw [e]; exact h2
  · refine .inr ⟨by omega, hn.2, by rw [dpa_len h2]; exact hl, fun n' hn' => ?_⟩
    have hF := sub_none rp.sub hn'
    refine q _ _ _ (sub_fresh hF) (rp.grow hn') (.tup upd_same (dpa_sub (sub_fresh hF) ?_))
    have : ∀ m : Nat, DqAll B.K F (List.replicate m vs).flatten (List.replicate m ds).flatten := fun m => by
      induction m with
      | zero => exact .nil
      | succ m ih => rw [List.replicate_succ, List.replicate_succ, List.flatten_cons, List.flatten_cons]; exact dpa_app h2 ih
    exact this _
end
end Fz

/-! ## FzZ3 -/
set_option Elab.async false
set_option linter.all false
set_option maxRecDepth 100000
set_option maxHeartbeats 2000000
set_option autoImplicit false
/-! FzZ3: repr of any data (the module's own dict apart), is True, list.count, dicts as data. -/
namespace Fz
open PySem L2
/-! ### repr -/
def rReprN (K : PySem.W.Frag) : List V → Hp → VK → Prop := fun xs H Q => ∃ v d, xs = [v] ∧ Dq K H v d ∧ d.showable = true ∧ d.depth ≤ 64 ∧ d.shown.length ≤ sizeLine ∧ Q (.str d.shown) H
section
variable {X : Cx} {k : Nat} {pins : List (Addr × Obj)} {σ : St} {H : Hp} {s : Shared}
/-- what is tracked is not the dict of modules -/
theorem not_mods (hN : X.base.NoSeer) (I : Inv X pins σ H s) {a : Addr} {o : HO} (h : H a = some o) : a ≠ sysModules := fun e => by
  obtain ⟨mm, ⟨ob, es, ep, ho, _⟩, _⟩ := hN.mods
  have := (I.bs _ _ ho).2
  rw [← e, h] at this
  cases this
mutual
theorem dq_readsN (hN : X.base.NoSeer) (I : Inv X pins σ H s) : ∀ {d : PyData} {v : V} {u : Value}, Dq X.K H v d → RelV v u → ∃ as, Reads s.heap u d as ∧ sysModules ∉ as
  | .none, _, _, h, r => by
    cases h
    cases r
    exact ⟨_, .none, fun z => nomatch z⟩
  | .bool b, _, _, h, r => by
    cases h
    cases r
    exact ⟨_, .bool b, fun z => nomatch z⟩
  | .int i, _, _, h, r => by
    cases h
    obtain ⟨t, rfl⟩ := r
    exact ⟨_, .int i t, fun z => nomatch z⟩
  | .str x, _, _, h, r => by
    cases h
    obtain ⟨t, rfl⟩ := r
    exact ⟨_, .str x t, fun z => nomatch z⟩
  | .list ds, _, _, h, r => by
    cases h with
    | lst hs ha =>
      cases r
      obtain ⟨its, rv, ⟨o, n, ho, hc, _, hd⟩, _⟩ := I.list (.inl (.inl hs))
      obtain ⟨as, hr, hn⟩ := dq_readsAllN hN I ha rv
      refine ⟨_, .list ho hc hd hr, fun z => ?_⟩
      rcases List.mem_cons.mp z with e | m
      · exact not_mods hN I hs e.symm
      · exact hn m
  | .tuple ds, _, _, h, r => by
    cases h with
    | tup hs ha =>
      cases r
      obtain ⟨its, rv, ⟨o, ho, hc, n, hd⟩, _⟩ := I.tuple (.inl (.inl hs))
      obtain ⟨as, hr, hn⟩ := dq_readsAllN hN I ha rv
      exact ⟨_, .tuple ho hc hd hr, hn⟩
  | .dict ps, _, _, h, r => by
    have h' := h
    obtain ⟨as, q1, q2⟩ := dq_reads I h r
    cases h' with
    | dic _ _ => exact ⟨as, q1, q2 rfl⟩
    | dit _ _ => exact ⟨as, q1, q2 rfl⟩
theorem dq_readsAllN (hN : X.base.NoSeer) (I : Inv X pins σ H s) : ∀ {ds : List PyData} {vs : List V} {us : List Value}, DqAll X.K H vs ds → Vals vs us → ∃ as, ReadsAll s.heap us ds as ∧ sysModules ∉ as
  | [], _, _, h, r => by
    cases h
    cases r
    exact ⟨_, .nil, fun z => nomatch z⟩
  | d :: ds, _, _, h, r => by
    cases h with
    | cons h1 h2 =>
      cases r with
      | cons r1 r2 =>
        obtain ⟨as, q1, n1⟩ := dq_readsN hN I h1 r1
        obtain ⟨bs, q2, n2⟩ := dq_readsAllN hN I h2 r2
        refine ⟨_, .cons q1 q2, fun m => ?_⟩
        rcases List.mem_append.mp m with m | m
        · exact n1 m
        · exact n2 m
end
theorem call_reprN (hr : Room k X.A) (hG : X.A.guards = some []) (hN : X.base.NoSeer) : CallR X (.builtin "repr") (rReprN X.K) := by
  intro pins s σ H xs us Q I r h
  obtain ⟨v, d, rfl, hd, h1, h3, h4, q⟩ := h
  obtain ⟨u, rfl, ru⟩ := vals1 r
  have fin : ∀ h' (z : Tok) (tk : Nat), (∀ b o, s.heap.get? b = some o → h'.get? b = some o) → EP X pins σ Q (.str d.shown z) { s with heap := h', toks := tk } := fun h' z tk hk =>
    ⟨.str d.shown, H, I.kept hk, ⟨z, rfl⟩, q⟩
  have big : ∀ a, u = .ref a → wpAny (model X.prog X.w) X.A (call (.builtin "repr") [u]) (EP X pins σ Q) X.xe s := fun a e => by
    subst e
    obtain ⟨as, rd, hn⟩ := dq_readsN hN I hd ru
    exact repr_of_reads' rd h1 (fun _ => hn) hG (by have := hr.units; have := hr.un; omega) (fun _ _ e => e) (fun h' z tk hk => fin h' z tk hk) h4
  cases hd with
  | non => cases ru; exact PySem.P.repr_of_none (fin s.heap _ _ fun _ _ e => e)
  | bl b => cases ru; exact PySem.P.repr_of_bool (fin s.heap _ _ fun _ _ e => e)
  | int i => obtain ⟨t, rfl⟩ := ru; exact PySem.P.repr_of_int (by simpa [PyData.showable] using h1) (fin s.heap _ _ fun _ _ e => e)
  | str z => obtain ⟨t, rfl⟩ := ru; exact PySem.P.repr_of_str (fin s.heap _ _ fun _ _ e => e) h4
  | @lst a _ _ _ _ => exact big a ru
  | @tup a _ _ _ _ => exact big a ru
  | @dic a _ _ _ _ => exact big a ru
  | @dit a _ _ _ _ => exact big a ru
/-! ### is True, is False -/
def tIsB (b : Bool) (ta : TE) : TE := fun σ H Q => ta σ H fun x H1 => Q (.bl (decide (x = .bl b))) H1
theorem RelV.bool_iff {x : V} {v : Value} {b : Bool} (r : RelV x v) : (v == Value.bool b) = decide (x = .bl b) := by
  cases x with
  | non => cases r; rfl
  | bl c => cases r; cases b <;> cases c <;> rfl
  | int _ => obtain ⟨t, rfl⟩ := r; rfl
  | str _ => obtain ⟨t, rfl⟩ := r; rfl
  | byt _ => obtain ⟨t, rfl⟩ := r; rfl
  | flt _ => obtain ⟨t, rfl⟩ := r; rfl
  | ref _ => cases r; rfl
  | ty _ => cases r; rfl
theorem is_bool_gen {M : Model} {A : Around} {E : Value → Shared → Prop} {Q : Value → Shared → Prop} {s : Shared} {x : V} {v : Value} {b : Bool} (r : RelV x v) (h : Q (.bool (v == .bool b)) s) : wpAny M A (compareOp .Is v (.bool b)) Q E s := by
  cases x with
  | non => cases r; exact wpAny_pure h
  | bl c => cases r; exact wpAny_pure h
  | int _ => obtain ⟨t, rfl⟩ := r; exact wpAny_pure h
  | str _ => obtain ⟨t, rfl⟩ := r; exact wpAny_pure h
  | byt _ => obtain ⟨t, rfl⟩ := r; exact wpAny_pure h
  | flt _ => obtain ⟨t, rfl⟩ := r; exact wpAny_pure h
  | ref _ => cases r; exact wpAny_pure h
  | ty _ => cases r; exact wpAny_pure h
theorem pc_isB {j : Nat} {pos' : Pos} {a : Expr} {ta : TE} {b : Bool} (ha : PE X a ta) : PC X .Is a (.Constant (.bool b) j pos') (tIsB b ta) := by
  refine ⟨fun pins s σ H Q I h => ?_⟩
  refine thn (ha.run pins s σ H _ I h) fun v s1 ⟨x, H1, I1, r1, q1⟩ => ?_
  exact PyProof.Rows.Constant_bool (is_bool_gen r1 ⟨.bl _, H1, I1, by rw [RelV.bool_iff r1]; rfl, q1⟩)
end
def isBD (b : Bool) : PyData → Bool
  | .bool c => decide (c = b)
  | _ => false
section
variable {B : Bg} {ε : Eps} {L La Lb : Own} {te ta tb to ti : TE} {x : AD} {d : PyData}
theorem ex_isB {b : Bool} (h : EX B te ε L (.d d) La) : EX B (tIsB b te) ε L (.d (.bool (isBD b d))) La := fun F σ H r Q q =>
  h F σ H r _ fun v F1 H1 s1 r1 o1 => by
    have e : decide (v = .bl b) = isBD b d := by
      have o' : Dq B.K F1 v d := o1
      cases o' with
      | bl c =>
        show decide (V.bl c = .bl b) = decide (c = b)
        by_cases h : c = b
        · subst h; simp
        · rw [decide_eq_false h, decide_eq_false fun z => h (V.bl.inj z)]
      | _ => exact decide_eq_false fun z => nomatch z
    show Q (.bl (decide (v = .bl b))) H1
    rw [e]
    exact q _ F1 H1 s1 r1 (.bl _)
theorem ex_repN (h : EX B te ε L (.d d) La) (h1 : d.showable = true) (h3 : d.depth ≤ 64) (h4 : d.shown.length ≤ sizeLine) : EX B (tCB (rReprN B.K) (tCons te tNil)) ε L (.d (.str d.shown)) La := fun F σ H r Q q =>
  h F σ H r _ fun v F1 H1 s1 r1 o1 => ⟨v, d, rfl, dp_sub r1.sub o1, h1, h3, h4, q _ F1 H1 s1 r1 (.str _)⟩
/-- xs.count(k), of ints -/
theorem ex_count {ns : List Int} {k : Int} (ho : EX B to ε L x La) (hxa : IsL La x (ns.map PyData.int)) (hi : EX B ti ε La (.d (.int k)) Lb) (hx : IsL Lb x (ns.map PyData.int)) : EX B (tBM B.K "list" (rCntI B.K) to (tCons ti tNil)) ε L (.d (.int (ns.count k : Nat))) Lb := fun F σ H r Q q =>
  ho F σ H r _ fun v F1 H1 s1 r1 o1 => by
    obtain ⟨p0, vs0, e0, g0, _⟩ := hxa.get r1 o1
    subst e0
    refine ⟨.inl ⟨rfl, _, g0⟩, hi F1 σ H1 r1 _ fun w F2 H2 s2 r2 o2 => ?_⟩
    obtain ⟨p, vs, e, g1, g2⟩ := hx.get r2 (o1.sub s2)
    cases e
    have e2 := dpa_int_inv g2
    subst e2
    exact ⟨p0, ns, k, rfl, by rw [int_inv o2], g1, q _ F2 H2 (s1.tr s2) r2 (.int _)⟩
/-- {k: v}, k a text, frozen -/
theorem Rep.frz {σ : L2.St} {F : Hp} {H : Hp} {p : Addr} {ds : List PyData} (r1 : Rep B ε (.lst p ds :: La) F σ H) (hp : p ∉ B.M) : ∃ F', Sub F F' ∧ Rep B ε La F' σ H ∧ Dq B.K F' (.ref p) (.list ds) := by
  have h : EX B (fun _ H Q => Q (.ref p) H) ε (.lst p ds :: La) (.d (.list ds)) La := ex_frz (fun F σ H r Q q => q p F H (Sub.rfl' F) hp r)
  obtain ⟨F', s, r', d⟩ := h F σ H r1 (fun v H' => ∃ F', Sub F F' ∧ Rep B ε La F' σ H' ∧ Dq B.K F' v (.list ds)) fun v F' H' s r' o => ⟨F', s, r', o⟩
  exact ⟨F', s, r', d⟩
/-- an owned list in a slot, from here on no longer changed -/
theorem ho_frz {P : L2.St → Hp → Prop} {i : Nat} {p : Addr} {ds : List PyData} {ε' : Eps} (hp : p ∉ B.M) (hi : ε[i]? = some (some (.v (.ref p)))) (hs : ε' = ε.set i (some (.d (.list ds)))) (h : Ho B P ε' La) : Ho B P ε (.lst p ds :: La) := fun F σ H r => by
  obtain ⟨F', s, r', d⟩ := r.frz hp
  have hi' := r'.sl i _ hi
  obtain ⟨sv, e1, y, e2, e3⟩ := hi'
  have e3 : y = .ref p := e3
  subst e3 e2
  have r2 := r'.slot (i := i) (a := .d (.list ds)) d
  have e : σ.set i (some (.ref p)) = σ := by
    apply List.ext_getElem?
    intro j
    by_cases c : i = j
    · subst c
      rw [List.getElem?_set_self (List.getElem?_eq_some_iff.mp e1).1, e1]
    · rw [List.getElem?_set_ne c]
  rw [e, ← hs] at r2
  exact h F' σ H r2
end
end Fz

/-! ## FzZ4 -/
set_option Elab.async false
set_option linter.all false
set_option maxRecDepth 100000
set_option maxHeartbeats 2000000
set_option autoImplicit false
/-! FzZ4: zip of two frozen lists in a for, of two frozen tuples in a comprehension. -/
namespace Fz
open PySem L2 RZ
section
variable {B : Bg} {ε : Eps} {L L1 La Lb : Own} {tas : TA} {g : TG} {tc : TS} {D : Ends} {te : TE} {tt : TT} {vs : List Nat}
theorem x_forZL {ds es : List PyData} (h : EA B tas ε L [.d (.list ds), .d (.list es)] L1) (hle : ds.length ≤ es.length) (I : V → V → Nat → Eps → Own → Prop) (h0 : ∀ v u, I v u 0 ε ((L1 ++ [.know v (.list ds)]) ++ [.know u (.list es)]))
    (hl : ∀ v u i ε' L', I v u i ε' L' → MO.know v (.list ds) ∈ L' ∧ MO.know u (.list es) ∈ L')
    (hs : ∀ v u i d e ε' L', ds[i]? = some d → es[i]? = some e → I v u i ε' L' → ∃ ε'', GT B g (.d (.tuple [d, e])) ε' ε'' ∧ Ho B (tc { D with nx := AbsP B (I v u (i + 1)), ct := AbsP B (I v u (i + 1)), bk := D.nx }) ε'' L')
    (hd : ∀ v u ε' L', I v u ds.length ε' L' → Ho B D.nx ε' L') : Ho B (tFor (iZipA B.K tas) g tc D) ε L := fun F σ H r =>
  h F σ H r _ fun vs0 F1 H1 _ r1 o1 => by
    match vs0, o1 with
    | [v, u], o =>
    have o' : Dq B.K F1 v (.list ds) := o.1
    have o2 : Dq B.K F1 u (.list es) := o.2.1
    have r2 := (r1.learn o').learn o2
    cases o' with
    | @lst p vs _ q1 q2 =>
      cases o2 with
      | @lst p' ws _ q3 q4 =>
        have back : ∀ {i : Nat} {ε' : Eps} {L' : Own} {F' : Hp} {σ' : L2.St} {H' : Hp}, I (.ref p) (.ref p') i ε' L' → Rep B ε' L' F' σ' H' → (∃ ws, SqL B.K H' p ws ∧ DqAll B.K F' ws ds) ∧ ∃ ws, SqL B.K H' p' ws ∧ DqAll B.K F' ws es := fun hI r' => by
          have k : Dq B.K _ (.ref p) (.list ds) := r'.own _ (hl _ _ _ _ _ hI).1
          have k' : Dq B.K _ (.ref p') (.list es) := r'.own _ (hl _ _ _ _ _ hI).2
          cases k with
          | lst k1 k2 =>
            cases k' with
            | lst k3 k4 => exact ⟨⟨_, .inl (.inl (r'.sub _ _ k1)), k2⟩, _, .inl (.inl (r'.sub _ _ k3)), k4⟩
        refine ⟨p, p', vs, ws, rfl, .inl ⟨.inl (.inl (r1.sub _ _ q1)), .inl (.inl (r1.sub _ _ q3)), ⟨fun i m σ' H' => m = ds.length - i ∧ i ≤ ds.length ∧ AbsP B (I (.ref p) (.ref p') i) σ' H', ⟨_, rfl, Nat.zero_le _, ε, _, F1, h0 _ _, r2⟩, ?_⟩⟩⟩
        rintro i m σ' H' ⟨rfl, hi, ε', L', F', hI, r'⟩
        obtain ⟨⟨w1, k1, k2⟩, w2, k3, k4⟩ := back hI r'
        by_cases hlt : i < ds.length
        · obtain ⟨d, hdi⟩ : ∃ d, ds[i]? = some d := ⟨_, List.getElem?_eq_getElem hlt⟩
          obtain ⟨e, hei⟩ : ∃ e, es[i]? = some e := ⟨_, List.getElem?_eq_getElem (Nat.lt_of_lt_of_le hlt hle)⟩
          obtain ⟨x, e1, e2⟩ := dpa_get k2 hdi
          obtain ⟨y, e3, e4⟩ := dpa_get k4 hei
          obtain ⟨ε'', hg, hb⟩ := hs _ _ i d e ε' L' hdi hei hI
          refine .inr ⟨⟨w1, w2, x, y, k1, k3, e1, e3⟩, AbsP B (I (.ref p) (.ref p') (i + 1)), fun σ2 H2 hN => ⟨ds.length - (i + 1), by omega, rfl, hlt, hN⟩, fun z H2 hy => ?_⟩
          obtain ⟨T, x', y', rfl, hT, rfl, hx, hyy⟩ := hy
          have ex : x' = x := Option.some.inj ((hx w1 k1).symm.trans e1)
          have ey : y' = y := Option.some.inj ((hyy w2 k3).symm.trans e3)
          subst ex ey
          have hF := sub_none r'.sub hT
          have ra := r'.grow (o := .tup [x', y']) hT
          refine hg L' _ σ' _ _ ra (.tup upd_same (.cons (dp_sub (sub_fresh hF) e2) (.cons (dp_sub (sub_fresh hF) e4) .nil))) _ fun σ3 r3 => hb _ σ3 _ r3
        · have ei : i = ds.length := by omega
          subst ei
          exact .inl ⟨⟨w1, w2, k1, k3, .inl (by rw [dpa_len k2]; exact Nat.le_refl _)⟩, hd _ _ _ _ hI F' σ' H' r'⟩
/-- one turn, the item's data said at the heap of the turn -/
theorem cturn_at {F1 F : Hp} {σ : L2.St} {I : Nat → List PyData → Own → Prop} {Dl : Addr} {i : Nat} {H : Hp} {d : PyData} {w : V} {acc : List PyData} {L' : Own} (hw : ∀ v σ H P, (g v (wipe σ vs) H P ↔ g v (wipe σ vs) H fun σ2 H2 => wipe σ2 vs = wipe σ vs ∧ P σ2 H2))
    (ct : CTurn B g tt te ε vs I i d) (s : Sub F1 F) (hI : I i acc L') (r : Rep B (wipeE ε vs) (L' ++ [.lst Dl acc]) F (wipe σ vs) H) (hd : Dq B.K F w d) :
    g w (wipe σ vs) H fun σ2 H2 => wipe σ2 vs = wipe σ vs ∧ tt σ2 H2 fun b H3 =>
      if b = true then te σ2 H3 fun y H4 => ∃ acc, H4 Dl = some (.lst acc) ∧ acc.length < sizeLine ∧ CW B ε vs F1 σ I Dl (i + 1) (upd H4 Dl (.lst (acc ++ [y]))) else CW B ε vs F1 σ I Dl (i + 1) H3 := by
  obtain ⟨hz, ε2, hg, b, L2, h1, h2, h3⟩ := ct acc L' hI
  refine (hw w σ H _).mp (hg _ F _ H w r hd _ fun σ2 r2 => ?_)
  refine h1 _ F σ2 H r2 _ fun F3 H3 s3 r3 => ?_
  cases b with
  | true =>
    obtain ⟨e, L3, h4, h5⟩ := h2 rfl
    show te σ2 H3 _
    refine h4 _ F3 σ2 H3 r3 _ fun y F4 H4 s4 r4 o4 => ?_
    obtain ⟨ws, k1, k2⟩ := r4.own _ (List.mem_append_right _ List.mem_cons_self)
    have hz2 : ws.length < sizeLine := by rw [dpa_len k2]; exact Evl.sz_lt hz
    refine ⟨ws, k1, hz2, acc ++ [e], L3, F4, (s.tr s3).tr s4, h5, ?_⟩
    have r5 : Rep B (wipeE ε vs) (L3 ++ [.lst Dl acc]) F4 (wipe σ vs) H4 := r4.reslot r ((s3).tr s4)
    have r6 := r5.chg (m' := .lst Dl (acc ++ [e])) (H' := upd H4 Dl (.lst (ws ++ [y]))) get_last rfl ⟨_, upd_same, dpa_app k2 (.cons o4 .nil)⟩ fun q o hq e => by
      rw [upd_ne (fun z => hq (by rw [z]; exact List.mem_cons_self))]; exact e
    rw [set_last] at r6
    exact r6
  | false =>
    exact ⟨acc, L2, F3, s.tr s3, h3 rfl, r3.reslot r s3⟩
theorem walk_zipT {K : PySem.W.Frag} {a b : Addr} {xs ys : List V} {n : Nat} (hn : n = min xs.length ys.length) : Walk (ItzT K a b) n (fun H => SqT K H a xs ∧ SqT K H b ys) (YPair (fun i => xs[i]?) (fun i => ys[i]?)) := by
  subst hn
  refine ⟨fun i _ hi q => ?_, fun _ q => ⟨xs, ys, q.1, q.2, by omega⟩, fun i H v H' _ q y => ?_⟩
  · have h1 : i < xs.length := by omega
    have h2 : i < ys.length := by omega
    exact ⟨xs, ys, xs[i], ys[i], q.1, q.2, by simp [h1], by simp [h2]⟩
  · obtain ⟨T, x, z, h1, h2, h3, h4, h5⟩ := y
    exact ⟨T, x, z, h1, h2, h3, h4 xs q.1, h5 ys q.2⟩
/-- over zip of two frozen tuples of one length -/
theorem en_lcZT {xs ys ds : List PyData} (h : EA B tas ε L [.d (.tuple xs), .d (.tuple ys)] La) (hlen : xs.length = ys.length) (I : Nat → List PyData → Own → Prop) (h0 : I 0 [] La)
    (hw : ∀ (v : V) (σ : L2.St) (H : Hp) (P : L2.St → Hp → Prop), (g v (wipe σ vs) H P ↔ g v (wipe σ vs) H fun σ2 H2 => wipe σ2 vs = wipe σ vs ∧ P σ2 H2))
    (hs : ∀ (i : Nat) d e, xs[i]? = some d → ys[i]? = some e → CTurn B g tt te ε vs I i (.tuple [d, e])) (hd : ∀ acc L', I xs.length acc L' → acc = ds ∧ L' = Lb) : EN B (tLc (iZipA B.K tas) g tt te vs) ε L ds Lb := fun F σ H r Q q =>
  h F σ H r _ fun ws F1 H1 s1 r1 o1 => by
    match ws, o1 with
    | [v, u], o =>
    have o' : Dq B.K F1 v (.tuple xs) := o.1
    have o2 : Dq B.K F1 u (.tuple ys) := o.2.1
    cases o' with
    | @tup p us _ q1 q2 =>
      cases o2 with
      | @tup p' us' _ q3 q4 =>
        have l1 := dpa_len q2
        have l2 := dpa_len q4
        refine ⟨p, p', us, us', rfl, .inr ⟨tq_sub r1.sub q1, tq_sub r1.sub q3, fun Dl hD => lc_it (walk_zipT (K := B.K) (a := p) (b := p') (xs := us) (ys := us') (n := xs.length) (by omega)) (CW B ε vs F1 σ I Dl) (cw_start r1 hD h0) (fun i H' _ c => ?_) (fun i x H' H'' hi c hy => ?_) fun H' c => cw_end s1 r1 hD c hd q⟩⟩
        · obtain ⟨acc, L', F', s, hI, r'⟩ := c
          exact ⟨tq_sub r'.sub (s _ _ q1), tq_sub r'.sub (s _ _ q3)⟩
        · obtain ⟨acc, L', F', s, hI, r'⟩ := c
          obtain ⟨T, x1, y1, rfl, hT, rfl, hx, hy⟩ := hy
          obtain ⟨w1, e1, e2⟩ := dpa_get q2 (List.getElem?_eq_getElem hi)
          obtain ⟨w2, e3, e4⟩ := dpa_get q4 (List.getElem?_eq_getElem (show i < ys.length by omega))
          have ex : x1 = w1 := Option.some.inj (hx.symm.trans e1)
          have ey : y1 = w2 := Option.some.inj (hy.symm.trans e3)
          subst ex ey
          have hF := sub_none r'.sub hT
          exact cturn_at hw (hs i _ _ (List.getElem?_eq_getElem hi) (List.getElem?_eq_getElem (show i < ys.length by omega))) (s.tr (sub_fresh hF)) hI (r'.grow (o := .tup [x1, y1]) hT) (.tup upd_same (.cons (dp_sub (s.tr (sub_fresh hF)) e2) (.cons (dp_sub (s.tr (sub_fresh hF)) e4) .nil)))
end
end Fz

/-! ## FzZ5 -/
set_option Elab.async false
set_option linter.all false
set_option maxRecDepth 100000
set_option maxHeartbeats 2000000
set_option autoImplicit false
/-! FzZ5: an owned list handed to a def that does not keep it. -/
namespace Fz
open PySem L2
def rmA (F : Hp) (p : Addr) : Hp := fun a => if a = p then none else F a
mutual
theorem dq_rm {K : PySem.W.Frag} {F : Hp} {p : Addr} {ws : List V} (hp : F p = some (.lst ws)) : ∀ {d : PyData} {v : V}, noLst d = true → Dq K F v d → Dq K (rmA F p) v d
  | .none, _, _, h => by cases h; exact .non
  | .bool _, _, _, h => by cases h; exact .bl _
  | .int _, _, _, h => by cases h; exact .int _
  | .str _, _, _, h => by cases h; exact .str _
  | .list ds, _, n, h => nomatch n
  | .tuple ds, _, n, h => by
    cases h with
    | @tup a xs _ q1 q2 =>
      have ne : a ≠ p := fun e => by rw [e, hp] at q1; cases q1
      exact .tup (by unfold rmA; rw [if_neg ne]; exact q1) (dqa_rm hp (show noLsts ds = true from n) q2)
  | .dict _, _, _, h => by
    cases h with
    | @dic a kvs _ q1 q2 =>
      have ne : a ≠ p := fun e => by rw [e, hp] at q1; cases q1
      exact .dic (by unfold rmA; rw [if_neg ne]; exact q1) q2
    | @dit a kvs _ q1 q2 =>
      have ne : a ≠ p := fun e => by rw [e, hp] at q1; cases q1
      exact .dit (by unfold rmA; rw [if_neg ne]; exact q1) q2
theorem dqa_rm {K : PySem.W.Frag} {F : Hp} {p : Addr} {ws : List V} (hp : F p = some (.lst ws)) : ∀ {ds : List PyData} {vs : List V}, noLsts ds = true → DqAll K F vs ds → DqAll K (rmA F p) vs ds
  | [], _, _, h => by cases h; exact .nil
  | d :: ds, _, n, h => by
    have n : (noLst d && noLsts ds) = true := n
    rw [Bool.and_eq_true] at n
    cases h with
    | cons a b => exact .cons (dq_rm hp n.1 a) (dqa_rm hp n.2 b)
end
section
variable {B : Bg} {ε : Eps} {L La : Own} {tas : TA} {α β : Type} {e : α → PyData} {a : β → List PyData} {Pre : β → Prop} {P2 : β → α → Prop} {E : XK} {κ : α → Own → Prop}
theorem w_callDL (h : WA B tas ε L fun as L1 => ∃ (y : β) (p : Addr) (ds : List PyData) (k : Nat), At L1 k (.lst p ds) ∧ (∀ K F vs, Dq K F (.ref p) (.list ds) → AdAll K F as vs → DqAll K F vs (a y)) ∧ Pre y ∧ ∀ x, P2 y x → noLst (e x) = true ∧ κ x L1) : WV B e (tCall (spD B.K a Pre e P2) [] E tas) ε L κ := fun F σ H r Q q =>
  h F σ H r _ fun as L1 vs F1 H1 ⟨y, p, ds, k, hk, hd, hy, kk⟩ s1 r1 o1 => by
    rw [List.append_nil]
    have hm := List.mem_of_getElem? hk.get
    obtain ⟨ws, g1, g2⟩ := r1.own _ hm
    have hF : F1 p = none := (r1.off p (mem_fps hm List.mem_cons_self)).1
    have sF : Sub F1 (upd F1 p (.lst ws)) := sub_fresh hF
    have sH : Sub (upd F1 p (.lst ws)) H1 := fun b o eb => by
      by_cases c : b = p
      · subst c; rw [upd_same] at eb; cases eb; exact g1
      · rw [upd_ne c] at eb; exact r1.sub b o eb
    have o2 : AdAll B.K (upd F1 p (.lst ws)) as vs := o1.sub sF
    refine ⟨upd F1 p (.lst ws), y, sH, hd B.K _ vs (.lst upd_same (dpa_sub sF g2)) o2, hy, fun x v F' H' hx n o => ?_⟩
    obtain ⟨n1, n2, n3, n4⟩ := n
    have hp' : F' p = some (.lst ws) := n1 _ _ upd_same
    obtain ⟨flat, kx⟩ := kk x hx
    have nx : NxM [] F1 H1 (rmA F' p) H' := by
      refine ⟨fun b o eb => ?_, n2, fun b o eb => ?_, fun b e1 e2 => ?_⟩
      · have ne : b ≠ p := fun z => by rw [z, hF] at eb; cases eb
        unfold rmA
        rw [if_neg ne]
        exact n1 b o (by rw [upd_ne ne]; exact eb)
      · unfold rmA at eb
        split at eb
        · cases eb
        · exact n3 b o eb
      · unfold rmA
        by_cases c : b = p
        · rw [if_pos c]; exact .inl rfl
        · rw [if_neg c]
          exact n4 b (by rw [upd_ne c]; exact e1) e2
    exact q x L1 v (rmA F' p) H' kx (s1.tr nx.1) (r1.call nx) (dq_rm hp' flat o)
end
end Fz

/-! ## FzZ6 -/
set_option Elab.async false
set_option linter.all false
set_option maxRecDepth 100000
set_option maxHeartbeats 2000000
set_option autoImplicit false
/-! FzZ6: enumerate of a frozen tuple in a comprehension. -/
namespace Fz
open PySem L2
section
variable {B : Bg} {ε : Eps} {L La Lb : Own} {tas : TA} {g : TG} {te : TE} {tt : TT} {vs : List Nat}
theorem walk_enumT {K : PySem.W.Frag} {a : Addr} {xs : List V} : Walk (Itet K a) xs.length (fun H => SqT K H a xs) (YPair (fun i => some (.int (i : Nat))) (fun i => xs[i]?)) := by
  refine ⟨fun i _ hi q => ⟨xs, xs[i], q, by simp [hi]⟩, fun _ q => ⟨xs, q, Nat.le_refl _⟩, fun i H v H' _ q y => ?_⟩
  obtain ⟨T, x, h1, h2, h3, h4⟩ := y
  exact ⟨T, .int (i : Nat), x, h1, h2, h3, rfl, h4 xs q⟩
theorem en_lcET {xs ds : List PyData} (h : EA B tas ε L [.d (.tuple xs)] La) (I : Nat → List PyData → Own → Prop) (h0 : I 0 [] La)
    (hw : ∀ (v : V) (σ : L2.St) (H : Hp) (P : L2.St → Hp → Prop), (g v (wipe σ vs) H P ↔ g v (wipe σ vs) H fun σ2 H2 => wipe σ2 vs = wipe σ vs ∧ P σ2 H2))
    (hs : ∀ (i : Nat) d, xs[i]? = some d → CTurn B g tt te ε vs I i (.tuple [.int (i : Int), d])) (hd : ∀ acc L', I xs.length acc L' → acc = ds ∧ L' = Lb) : EN B (tLc (iEnumT B.K tas) g tt te vs) ε L ds Lb := fun F σ H r Q q =>
  h F σ H r _ fun ws F1 H1 s1 r1 o1 => by
    match ws, o1 with
    | [v], o =>
    have o' : Dq B.K F1 v (.tuple xs) := o.1
    cases o' with
    | @tup p us _ q1 q2 =>
      have l1 := dpa_len q2
      refine ⟨p, us, rfl, tq_sub r1.sub q1, fun Dl hD => lc_it (walk_enumT (K := B.K) (a := p) (xs := us)) (CW B ε vs F1 σ I Dl) (cw_start r1 hD h0) (fun i H' _ c => ?_) (fun i x H' H'' hi c hy => ?_) fun H' c => cw_end s1 r1 hD (by rw [l1] at c; exact c) hd q⟩
      · obtain ⟨acc, L', F', s, hI, r'⟩ := c
        exact tq_sub r'.sub (s _ _ q1)
      · obtain ⟨acc, L', F', s, hI, r'⟩ := c
        obtain ⟨T, x1, y1, rfl, hT, rfl, hx, hy⟩ := hy
        cases hx
        have hi' : i < xs.length := by omega
        obtain ⟨w2, e3, e4⟩ := dpa_get q2 (List.getElem?_eq_getElem hi')
        have ey : y1 = w2 := Option.some.inj (hy.symm.trans e3)
        subst ey
        have hF := sub_none r'.sub hT
        exact cturn_at hw (hs i _ (List.getElem?_eq_getElem hi')) (s.tr (sub_fresh hF)) hI (r'.grow (o := .tup [.int (i : Nat), y1]) hT) (.tup upd_same (.cons (.int _) (.cons (dp_sub (s.tr (sub_fresh hF)) e4) .nil)))
end
/-! ### powers of great numbers -/
def CPowW (i j : Int) : Prop := 0 ≤ j ∧ (Builtin.Int.intBits i : Int) * j ≤ 2 ^ 27
theorem op_powW {X : Cx} : OpR X (binaryOp .Pow) (rI CPowW fun i j => .int (i ^ j.toNat)) := opI fun _ _ _ _ _ _ _ hc q => PyProof.Rows.pow_int hc.1 hc.2 q
theorem ex_powW {B : Bg} {ε : Eps} {L La Lb : Own} {ta tb : TE} {i j : Int} (ha : EX B ta ε L (.d (.int i)) La) (hb : EX B tb ε La (.d (.int j)) Lb) (hc : CPowW i j) : EX B (tOp (rI CPowW fun i j => .int (i ^ j.toNat)) ta tb) ε L (.d (.int (i ^ j.toNat))) Lb := ex_op ha hb (rx_I hc fun _ _ => .int _)
/-! ### a call of no arguments -/
theorem pe_callD0 {X : Cx} {k : Nat} {x : Str} {ps : List Str} {sp : Sp} {p pos : Pos} (C : Df X.prog X.w X.K X.mg X.base k x ps sp) (hr : Room k X.A) (hg : Gl X x) (hdb : (x == ("__debug__" : Str)) = false := by decide) : PE X (.Call (.Name x p) [] [] pos) (tCall sp [] E0 tNil) := by
  obtain ⟨f, fd, F, m, kp, b⟩ := C.ex
  exact pe_call0 F hr hg m kp b .nil pass0 hdb
end Fz

/-! ## K80N -/
set_option autoImplicit false
set_option linter.all false
/-! K80N: mirrors of the program's defs. -/
namespace K80
open PySem L2 Fz
theorem cmul {i j : Int} {a b : Nat} (ha : Bd a i) (hb : Bd b j) (h : a + b ≤ 900000) : CMulW i j :=
  wide_mul (a := a + 1) (b := b + 1) (ha.mono (Nat.le_succ a)) (hb.mono (Nat.le_succ b)) (Nat.succ_pos _) (Nat.succ_pos _) (by omega)
theorem cdiv {i j : Int} {b : Nat} (h : 0 < j) (hb : Bd b j) (h9 : b ≤ 8000) : CDivW i j := wide_div (b := b + 1) h (hb.mono (Nat.le_succ b)) (Nat.succ_pos _) (by omega)
def ti (l : List Int) : PyData := .tuple (l.map PyData.int)
def li (l : List Int) : PyData := .list (l.map PyData.int)
theorem at_ints {l : List Int} {i : Nat} (h : i < l.length) : atI (l.map PyData.int) (i : Int) = some (.int (l.getD i 0)) := by
  refine atI_nat ?_
  rw [List.getElem?_map, List.getElem?_eq_getElem h, List.getD_eq_getElem?_getD, List.getElem?_eq_getElem h]
  rfl
theorem at_intsZ {l : List Int} {j : Int} (h0 : 0 ≤ j) (h : j < l.length) : atI (l.map PyData.int) j = some (.int (l.getD j.toNat 0)) := by
  have e : j = ((j.toNat : Nat) : Int) := by omega
  rw [e]
  exact at_ints (by omega)
/-- a fraction in least terms -/
def frD (t b : Int) : PyData := .tuple [.int (t / (Int.gcd t b : Int)), .int (b / (Int.gcd t b : Int))]
def fallsN (l : List Int) : Nat := ((List.range (l.length - 1)).filter fun i => decide (l.getD (i + 1) 0 < l.getD i 0)).length
theorem fallsN_le (l : List Int) : fallsN l ≤ l.length - 1 := by
  unfold fallsN
  refine Nat.le_trans (List.length_filter_le _ _) ?_
  rw [List.length_range]; exact Nat.le_refl _
def stepRow (row : List Int) (many : Nat) : List Int := (List.range many).map fun d => (if d < many - 1 then row.getD d 0 * ((d : Int) + 1) else 0) + (if 0 < d then row.getD (d - 1) 0 * ((many : Int) - d) else 0)
def rowAt : Nat → List Int
  | 0 => [1]
  | k + 1 => stepRow (rowAt k) (k + 2)
theorem rowAt_len : ∀ k, (rowAt k).length = k + 1
  | 0 => rfl
  | k + 1 => by unfold rowAt stepRow; rw [List.length_map, List.length_range]
theorem getD_map_range {f : Nat → Int} {n i : Nat} (h : i < n) : ((List.range n).map f).getD i 0 = f i := by
  rw [List.getD_eq_getElem?_getD, List.getElem?_map, List.getElem?_range h]; rfl
theorem getD_out {l : List Int} {i : Nat} (h : l.length ≤ i) : l.getD i 0 = 0 := by
  rw [List.getD_eq_getElem?_getD, List.getElem?_eq_none h]; rfl
theorem rowAt_bd : ∀ k, k ≤ 100 → ∀ i, Bd (9 * k + 1) ((rowAt k).getD i 0)
  | 0, _, i => by
    unfold rowAt Bd
    cases i with
    | zero => decide
    | succ i => exact bd_zero 1
  | k + 1, hk, i => by
    by_cases hi : i < k + 2
    · unfold rowAt stepRow
      rw [getD_map_range hi]
      have ih := rowAt_bd k (by omega)
      have b1 : Bd (9 * k + 1 + 7) (if i < k + 2 - 1 then (rowAt k).getD i 0 * ((i : Int) + 1) else 0) := by
        split
        · exact (ih i).mul (Bd.of (n := 103) (by omega) (by omega) (by decide))
        · exact bd_zero _
      have b2 : Bd (9 * k + 1 + 7) (if 0 < i then (rowAt k).getD (i - 1) 0 * (((k + 2 : Nat) : Int) - i) else 0) := by
        split
        · exact (ih _).mul (Bd.of (n := 103) (by omega) (by omega) (by decide))
        · exact bd_zero _
      exact (b1.add b2).mono (by omega)
    · rw [getD_out (by rw [rowAt_len]; omega)]
      exact bd_zero _
def cofRow (n : Nat) : List Int := rowAt (n - 1)
/-- the differences of the first d numbers of falls, together -/
def farS (n : Nat) (p : Int) : Nat → Int
  | 0 => 0
  | d + 1 => farS n p d + (cofRow n).getD d 0 * (((dealtBy p n (d : Int) * (fac n : Int) - p ^ n).natAbs : Nat) : Int)
def farT (n : Nat) (p : Int) : Int := farS n p (cofRow n).length
theorem shift_bd {p : Int} (hp : Bd 410 p) {d : Int} (hd : 0 ≤ d ∧ d ≤ 60) : ∀ i : Nat, i < 64 → Bd 411 (p - d + i) := fun i hi => by
  have h2 : Bd 410 ((i : Int) - d) := (Bd.of (k := 7) (n := 127) (by omega) (by omega) (by decide)).mono (by decide)
  have e : p - d + i = p + ((i : Int) - d) := by omega
  rw [e]
  exact hp.add h2
theorem prod_bd {p : Int} (hp : Bd 410 p) {d : Int} (hd : 0 ≤ d ∧ d ≤ 60) {n : Nat} (hn : n ≤ 60) : Bd 25000 (prodF (p - d) n) := (prodF_bd (shift_bd hp hd) n (by omega)).mono (by omega)
theorem dealt_bd {p : Int} (hp : Bd 410 p) {d : Int} (hd : 0 ≤ d ∧ d ≤ 60) {n : Nat} (hn : n ≤ 60) : Bd 25000 (dealtBy p n d) := (prod_bd hp hd hn).div
theorem fac_bd' {n : Nat} (hn : n ≤ 60) : Bd 400 (fac n : Int) := (fac_bd n (by omega)).mono (by omega)
theorem pow_bd' {p : Int} (hp : Bd 410 p) {n : Nat} (hn : n ≤ 60) : Bd 25000 (p ^ n) := (hp.pow n).mono (by omega)
theorem diff_bd {p : Int} (hp : Bd 410 p) {d : Int} (hd : 0 ≤ d ∧ d ≤ 60) {n : Nat} (hn : n ≤ 60) : Bd 26000 (dealtBy p n d * (fac n : Int) - p ^ n) :=
  (((dealt_bd hp hd hn).mul (fac_bd' hn)).sub ((pow_bd' hp hn).mono (by decide))).mono (by decide)
theorem row_bd {n : Nat} (hn : n ≤ 60) (i : Nat) : Bd 600 ((cofRow n).getD i 0) := (rowAt_bd (n - 1) (by omega) i).mono (by omega)
theorem cof_len (n : Nat) : (cofRow n).length = n - 1 + 1 := rowAt_len _
theorem farS_bd {p : Int} (hp : Bd 410 p) {n : Nat} (hn : n ≤ 60) : ∀ d, d ≤ 60 → Bd (27000 + d) (farS n p d)
  | 0, _ => bd_zero _
  | d + 1, h => by
    unfold farS
    exact (farS_bd hp hn d (by omega)).add (((row_bd hn d).mul (diff_bd hp (d := (d : Int)) (by omega) hn).abs).mono (by omega))
theorem farT_bd {p : Int} (hp : Bd 410 p) {n : Nat} (hn : n ≤ 60) : Bd 28000 (farT n p) := (farS_bd hp hn _ (by rw [cof_len]; omega)).mono (by rw [cof_len]; omega)
end K80
namespace K80
open PySem L2 Fz
/-- the fraction's test is the test of what it comes from -/
theorem less_red {a b t l : Int} (hl : 0 < l) : (a * (l / (Int.gcd t l : Int)) < t / (Int.gcd t l : Int) * b) ↔ a * l < t * b := by
  have hg : (0 : Int) < (Int.gcd t l : Int) := by
    have : 0 < Int.gcd t l := Int.gcd_pos_of_ne_zero_right t (by omega)
    omega
  have e1 : l = l / (Int.gcd t l : Int) * (Int.gcd t l : Int) := (Int.ediv_mul_cancel (Int.gcd_dvd_right t l)).symm
  have e2 : t = t / (Int.gcd t l : Int) * (Int.gcd t l : Int) := (Int.ediv_mul_cancel (Int.gcd_dvd_left t l)).symm
  generalize l / (Int.gcd t l : Int) = l' at *
  generalize t / (Int.gcd t l : Int) = t' at *
  generalize (Int.gcd t l : Int) = g at *
  subst e1 e2
  rw [← Int.mul_assoc, show t' * g * b = t' * b * g by rw [Int.mul_assoc, Int.mul_comm g, Int.mul_assoc]]
  exact ⟨fun h => Int.mul_lt_mul_of_pos_right h hg, fun h => Int.lt_of_mul_lt_mul_right h (Int.le_of_lt hg)⟩
def farL (n : Nat) (p : Int) : Int := 2 * p ^ n * (fac n : Int)
theorem farL_pos {n : Nat} {p : Int} (h : 0 < p) : 0 < farL n p := by
  have h1 : 0 < p ^ n := Int.pow_pos h
  have h2 := fac_pos n
  unfold farL
  exact Int.mul_pos (Int.mul_pos (by decide) h1) (by omega)
theorem farL_bd {p : Int} (hp : Bd 410 p) {n : Nat} (hn : n ≤ 60) : Bd 28000 (farL n p) :=
  ((((Bd.of (k := 2) (x := 2) (n := 3) (by decide) (by decide) (by decide)).mul (pow_bd' hp hn)).mul (fac_bd' hn)).mono (by decide))
def fewT (n : Nat) (p a b : Int) (m : Nat) : Bool := decide (farT n (p ^ m) * b ≤ a * farL n (p ^ m))
def fewM (n : Nat) (p a b : Int) : Option Nat := (List.range 21).find? (fewT n p a b)
def optD : Option Nat → PyData
  | none => .none
  | some m => .int m
theorem find_at {f : Nat → Bool} {n i : Nat} (h : i < n) (h1 : f i = true) (h2 : ∀ j, j < i → f j = false) : (List.range n).find? f = some i := by
  induction n with
  | zero => omega
  | succ n ih =>
    rw [List.range_succ, List.find?_append]
    by_cases e : i < n
    · rw [ih e]; rfl
    · have ei : i = n := by omega
      subst ei
      have : (List.range i).find? f = none := List.find?_eq_none.mpr fun x hx => by
        rw [h2 x (List.mem_range.mp hx)]; exact Bool.false_ne_true
      rw [this]
      show [i].find? f = some i
      rw [List.find?_cons_of_pos h1]
theorem find_no {f : Nat → Bool} {n : Nat} (h2 : ∀ j, j < n → f j = false) : (List.range n).find? f = none := List.find?_eq_none.mpr fun x hx => by
  rw [h2 x (List.mem_range.mp hx)]; exact Bool.false_ne_true
end K80

/-! ## WU -/
/-! WU: means and parts, of any ring; polynomials with counted monomials. Plain mathematics. -/
set_option autoImplicit false
set_option linter.all false
namespace Means
structure Ops (R : Type) where
  int : Int → R
  add : R → R → R
  mul : R → R → R
  sub : R → R → R
def smR {R : Type} (o : Ops R) (f : Nat → R) : Nat → R
  | 0 => o.int 0
  | n + 1 => o.add (smR o f n) (f n)
/-- Pascal's numbers -/
def bc : Nat → Nat → Nat
  | _, 0 => 1
  | 0, _ + 1 => 0
  | n + 1, k + 1 => bc n k + bc n (k + 1)
/-- what t gaps take, of j things -/
def rowG {R : Type} (o : Ops R) (w : Nat → R) : Nat → Nat → R
  | 0, j => if j = 0 then o.int 1 else o.int 0
  | t + 1, j => smR o (fun i => o.mul (rowG o w t i) (w (j - i))) (j + 1)
inductive Kind where
  | all
  | rows
  | unc
deriving DecidableEq
def restS {R : Type} (o : Ops R) (k : Kind) (w : Nat → R) (size many : Nat) : R := match k with
  | .all => o.mul (o.int (bc (many - 1) (size - 1) : Nat)) (w (many - size))
  | .rows => w (many - size)
  | .unc => rowG o w size (many - size)
def nextN {R : Type} (o : Ops R) (k : Kind) (p w : Nat → R) (cnt many : Nat) : R := smR o (fun i => o.mul (p i) (restS o k w (i + 1) many)) cnt
def gt {R : Type} (o : Ops R) (l : List R) (i : Nat) : R := l.getD i (o.int 0)
/-- the means, the whole ahead -/
def wl {R : Type} (o : Ops R) (k : Kind) (p : Nat → R) : Nat → List R
  | 0 => [o.int 1]
  | n + 1 => wl o k p n ++ [nextN o k p (gt o (wl o k p n)) (n + 1) (n + 1)]
/-- the parts of the means w -/
def fl {R : Type} (o : Ops R) (k : Kind) (w : Nat → R) : Nat → List R
  | 0 => []
  | n + 1 => fl o k w n ++ [o.sub (w (n + 1)) (nextN o k (gt o (fl o k w n)) w n (n + 1))]
section
variable {R : Type} (o : Ops R) (k : Kind)
theorem wl_len (p : Nat → R) : ∀ n, (wl o k p n).length = n + 1
  | 0 => rfl
  | n + 1 => by show (wl o k p n ++ [_]).length = _; rw [List.length_append, wl_len p n]; rfl
theorem fl_len (w : Nat → R) : ∀ n, (fl o k w n).length = n
  | 0 => rfl
  | n + 1 => by show (fl o k w n ++ [_]).length = _; rw [List.length_append, fl_len w n]; rfl
theorem gt_old {l m : List R} {i : Nat} (h : i < l.length) : gt o (l ++ m) i = gt o l i := by
  unfold gt
  rw [List.getD_eq_getElem?_getD, List.getD_eq_getElem?_getD, List.getElem?_append_left h]
theorem gt_new {l : List R} {x : R} : gt o (l ++ [x]) l.length = x := by
  unfold gt
  rw [List.getD_eq_getElem?_getD, List.getElem?_append_right (Nat.le_refl _), Nat.sub_self]; rfl
theorem gt_at {l : List R} {i : Nat} (h : i < l.length) : l[i]? = some (gt o l i) := by
  unfold gt
  rw [List.getD_eq_getElem?_getD, List.getElem?_eq_getElem h]; rfl
theorem wl_old (p : Nat → R) {i : Nat} : ∀ {n m : Nat}, i ≤ n → n ≤ m → gt o (wl o k p m) i = gt o (wl o k p n) i
  | n, 0, hi, hm => by have : n = 0 := by omega
                       subst this; rfl
  | n, m + 1, hi, hm => by
    by_cases c : n = m + 1
    · subst c; rfl
    · rw [← wl_old p (m := m) hi (by omega)]
      exact gt_old o (by rw [wl_len]; omega)
theorem fl_old (w : Nat → R) {i : Nat} : ∀ {n m : Nat}, i < n → n ≤ m → gt o (fl o k w m) i = gt o (fl o k w n) i
  | n, 0, hi, hm => by omega
  | n, m + 1, hi, hm => by
    by_cases c : n = m + 1
    · subst c; rfl
    · rw [← fl_old w (m := m) hi (by omega)]
      exact gt_old o (by rw [fl_len]; omega)
theorem sm_congr {f g : Nat → R} : ∀ {n : Nat}, (∀ i, i < n → f i = g i) → smR o f n = smR o g n
  | 0, _ => rfl
  | n + 1, h => by
    show o.add _ _ = o.add _ _
    rw [sm_congr (n := n) fun i hi => h i (by omega), h n (by omega)]
theorem row_congr {w v : Nat → R} : ∀ (t j : Nat), (∀ i, i ≤ j → w i = v i) → rowG o w t j = rowG o v t j
  | 0, j, _ => rfl
  | t + 1, j, h => sm_congr o fun i hi => by rw [row_congr t i fun a ha => h a (by omega), h (j - i) (by omega)]
theorem rest_congr {w v : Nat → R} {size many : Nat} (h : ∀ i, i ≤ many - size → w i = v i) : restS o k w size many = restS o k v size many := by
  cases k with
  | all => show o.mul _ _ = o.mul _ _; rw [h _ (Nat.le_refl _)]
  | rows => exact h _ (Nat.le_refl _)
  | unc => exact row_congr o size _ h
theorem next_congr {p q w v : Nat → R} {cnt many : Nat} (hp : ∀ i, i < cnt → p i = q i) (hw : ∀ i, i < many → w i = v i) (hc : cnt ≤ many) : nextN o k p w cnt many = nextN o k q v cnt many :=
  sm_congr o fun i hi => by rw [hp i hi, rest_congr o k (w := w) (v := v) fun a ha => hw a (by omega)]
/-- the n-th mean -/
theorem wl_at (p : Nat → R) {i n : Nat} (hi : i < n) : gt o (wl o k p n) (i + 1) = nextN o k p (gt o (wl o k p n)) (i + 1) (i + 1) := by
  have h1 : gt o (wl o k p n) (i + 1) = gt o (wl o k p (i + 1)) (i + 1) := wl_old o k p (Nat.le_refl _) hi
  rw [h1]
  have h2 : gt o (wl o k p i ++ [nextN o k p (gt o (wl o k p i)) (i + 1) (i + 1)]) (i + 1) = nextN o k p (gt o (wl o k p i)) (i + 1) (i + 1) := by
    have := gt_new o (l := wl o k p i) (x := nextN o k p (gt o (wl o k p i)) (i + 1) (i + 1))
    rw [wl_len] at this
    exact this
  show gt o (wl o k p i ++ [_]) (i + 1) = _
  rw [h2]
  refine next_congr o k (fun _ _ => rfl) (fun a ha => (wl_old o k p (by omega) (by omega)).symm) (Nat.le_refl _)
theorem fl_at (w : Nat → R) {i n : Nat} (hi : i < n) : gt o (fl o k w n) i = o.sub (w (i + 1)) (nextN o k (gt o (fl o k w n)) w i (i + 1)) := by
  rw [fl_old o k w (n := i + 1) (Nat.lt_succ_self i) hi]
  have h2 : gt o (fl o k w i ++ [o.sub (w (i + 1)) (nextN o k (gt o (fl o k w i)) w i (i + 1))]) i = o.sub (w (i + 1)) (nextN o k (gt o (fl o k w i)) w i (i + 1)) := by
    have := gt_new o (l := fl o k w i) (x := o.sub (w (i + 1)) (nextN o k (gt o (fl o k w i)) w i (i + 1)))
    rw [fl_len] at this
    exact this
  show gt o (fl o k w i ++ [_]) i = _
  rw [h2]
  congr 1
  exact next_congr o k (fun a ha => (fl_old o k w ha (by omega)).symm) (fun _ _ => rfl) (by omega)
end
/-! ### one ring into another -/
structure Hom {R S : Type} (o : Ops R) (s : Ops S) (f : R → S) : Prop where
  int : ∀ i, f (o.int i) = s.int i
  add : ∀ a b, f (o.add a b) = s.add (f a) (f b)
  mul : ∀ a b, f (o.mul a b) = s.mul (f a) (f b)
  sub : ∀ a b, f (o.sub a b) = s.sub (f a) (f b)
section
variable {R S : Type} {o : Ops R} {s : Ops S} {f : R → S} (h : Hom o s f) (k : Kind)
include h
theorem hom_sm (g : Nat → R) : ∀ n, f (smR o g n) = smR s (fun i => f (g i)) n
  | 0 => h.int 0
  | n + 1 => by show f (o.add _ _) = s.add _ _; rw [h.add, hom_sm g n]
theorem hom_row (w : Nat → R) : ∀ t j, f (rowG o w t j) = rowG s (fun i => f (w i)) t j
  | 0, j => by
    show f (if j = 0 then o.int 1 else o.int 0) = if j = 0 then s.int 1 else s.int 0
    split <;> exact h.int _
  | t + 1, j => by
    show f (smR o _ _) = smR s _ _
    rw [hom_sm h]
    exact sm_congr s fun i _ => by rw [h.mul, hom_row w t i]
theorem hom_rest (w : Nat → R) (size many : Nat) : f (restS o k w size many) = restS s k (fun i => f (w i)) size many := by
  cases k with
  | all => show f (o.mul _ _) = s.mul _ _; rw [h.mul, h.int]
  | rows => rfl
  | unc => exact hom_row h w _ _
theorem hom_next (p w : Nat → R) (cnt many : Nat) : f (nextN o k p w cnt many) = nextN s k (fun i => f (p i)) (fun i => f (w i)) cnt many := by
  show f (smR o _ _) = smR s _ _
  rw [hom_sm h]
  exact sm_congr s fun i _ => by rw [h.mul, hom_rest h]
theorem hom_gt (l : List R) (i : Nat) : f (gt o l i) = gt s (l.map f) i := by
  unfold gt
  rw [List.getD_eq_getElem?_getD, List.getD_eq_getElem?_getD, List.getElem?_map]
  cases l[i]? with
  | none => exact h.int 0
  | some x => rfl
theorem hom_wl (p : Nat → R) : ∀ n, (wl o k p n).map f = wl s k (fun i => f (p i)) n
  | 0 => by show [f (o.int 1)] = [s.int 1]; rw [h.int]
  | n + 1 => by
    show (wl o k p n ++ [_]).map f = wl s k _ n ++ [_]
    rw [List.map_append, hom_wl p n, List.map_singleton, hom_next h]
    congr 2
    exact next_congr s k (fun _ _ => rfl) (fun i _ => by rw [hom_gt h, hom_wl p n]) (Nat.le_refl _)
theorem hom_fl (w : Nat → R) : ∀ n, (fl o k w n).map f = fl s k (fun i => f (w i)) n
  | 0 => rfl
  | n + 1 => by
    show (fl o k w n ++ [_]).map f = fl s k _ n ++ [_]
    rw [List.map_append, hom_fl w n, List.map_singleton, h.sub, hom_next h]
    congr 3
    exact next_congr s k (fun i _ => by rw [hom_gt h, hom_fl w n]) (fun _ _ => rfl) (by omega)
end
/-! ### polynomials -/
abbrev Mon := List Nat
abbrev Poly := List (Mon × Int)
def insS (a : Nat) : Mon → Mon
  | [] => [a]
  | b :: m => if b ≤ a then a :: b :: m else b :: insS a m
def mulM (a b : Mon) : Mon := a.foldr insS b
def insP (m : Mon) (c : Int) : Poly → Poly
  | [] => [(m, c)]
  | (n, d) :: p => if m = n then (n, d + c) :: p else (n, d) :: insP m c p
def addP (p q : Poly) : Poly := q.foldl (fun r x => insP x.1 x.2 r) p
def mulP (p q : Poly) : Poly := p.foldl (fun r x => q.foldl (fun r y => insP (mulM x.1 y.1) (x.2 * y.2) r) r) []
def negP (p : Poly) : Poly := p.map fun x => (x.1, -x.2)
def oP : Ops Poly := ⟨fun i => [([], i)], addP, mulP, fun p q => addP p (negP q)⟩
def oQ : Ops Rat := ⟨fun i => (i : Rat), (· + ·), (· * ·), (· - ·)⟩
def oZ : Ops Int := ⟨id, (· + ·), (· * ·), (· - ·)⟩
section
variable (x : Nat → Rat)
def evM : Mon → Rat
  | [] => 1
  | a :: m => x a * evM m
def evP : Poly → Rat
  | [] => 0
  | (m, c) :: p => (c : Rat) * evM x m + evP p
theorem ev_insS (a : Nat) : ∀ m, evM x (insS a m) = x a * evM x m
  | [] => rfl
  | b :: m => by
    unfold insS
    split
    · rfl
    · show x b * evM x (insS a m) = x a * (x b * evM x m)
      rw [ev_insS a m]; grind
theorem ev_mulM : ∀ a b, evM x (mulM a b) = evM x a * evM x b
  | [], b => by show evM x b = 1 * evM x b; grind
  | a :: m, b => by
    show evM x (insS a (mulM m b)) = x a * evM x m * evM x b
    rw [ev_insS, ev_mulM m b]; grind
theorem ev_insP (m : Mon) (c : Int) : ∀ p, evP x (insP m c p) = (c : Rat) * evM x m + evP x p
  | [] => rfl
  | (n, d) :: p => by
    unfold insP
    split
    · rename_i e
      subst e
      show ((d + c : Int) : Rat) * evM x m + evP x p = (c : Rat) * evM x m + ((d : Rat) * evM x m + evP x p)
      rw [Rat.intCast_add]; grind
    · show (d : Rat) * evM x n + evP x (insP m c p) = (c : Rat) * evM x m + ((d : Rat) * evM x n + evP x p)
      rw [ev_insP m c p]; grind
theorem ev_addP (p : Poly) : ∀ q r, evP x (q.foldl (fun r x => insP x.1 x.2 r) r) = evP x r + evP x q
  | [], r => by show evP x r = evP x r + 0; grind
  | (m, c) :: q, r => by
    show evP x (q.foldl _ (insP m c r)) = evP x r + ((c : Rat) * evM x m + evP x q)
    rw [ev_addP p q, ev_insP]; grind
theorem ev_mul1 (m : Mon) (c : Int) : ∀ q r, evP x (q.foldl (fun r y => insP (mulM m y.1) (c * y.2) r) r) = evP x r + (c : Rat) * evM x m * evP x q
  | [], r => by show evP x r = evP x r + (c : Rat) * evM x m * 0; grind
  | (n, d) :: q, r => by
    show evP x (q.foldl _ (insP (mulM m n) (c * d) r)) = evP x r + (c : Rat) * evM x m * ((d : Rat) * evM x n + evP x q)
    rw [ev_mul1 m c q, ev_insP, ev_mulM, Rat.intCast_mul]; grind
theorem ev_mulP (q : Poly) : ∀ p r, evP x (p.foldl (fun r x => q.foldl (fun r y => insP (mulM x.1 y.1) (x.2 * y.2) r) r) r) = evP x r + evP x p * evP x q
  | [], r => by show evP x r = evP x r + 0 * evP x q; grind
  | (m, c) :: p, r => by
    show evP x (p.foldl _ (q.foldl _ r)) = evP x r + ((c : Rat) * evM x m + evP x p) * evP x q
    rw [ev_mulP q p, ev_mul1]; grind
theorem ev_negP : ∀ p, evP x (negP p) = - evP x p
  | [] => by show (0 : Rat) = -0; grind
  | (m, c) :: p => by
    show ((-c : Int) : Rat) * evM x m + evP x (negP p) = -((c : Rat) * evM x m + evP x p)
    rw [ev_negP p, Rat.intCast_neg]; grind
theorem hom_ev : Hom oP oQ (evP x) where
  int := fun i => by show (i : Rat) * 1 + 0 = i; grind
  add := fun a b => by show evP x (addP a b) = evP x a + evP x b; exact ev_addP x a b a
  mul := fun a b => by
    show evP x (mulP a b) = evP x a * evP x b
    unfold mulP
    rw [ev_mulP]
    show 0 + _ = _
    grind
  sub := fun a b => by
    show evP x (addP a (negP b)) = evP x a - evP x b
    have := ev_addP x a (negP b) a
    unfold addP
    rw [this, ev_negP]; grind
theorem hom_cast : Hom oZ oQ (fun i : Int => (i : Rat)) := ⟨fun _ => rfl, fun a b => Rat.intCast_add a b, fun a b => Rat.intCast_mul a b, fun a b => Rat.intCast_sub a b⟩
theorem ev_zero : ∀ p : Poly, p.all (fun y => y.2 == 0) = true → evP x p = 0
  | [], _ => rfl
  | (m, c) :: p, h => by
    rw [List.all_cons, Bool.and_eq_true] at h
    have e : c = 0 := by simpa using h.1
    subst e
    show ((0 : Int) : Rat) * evM x m + evP x p = 0
    rw [ev_zero p h.2]
    show (0 : Rat) * evM x m + 0 = 0
    grind
end
/-- alike as polynomials -/
def alikeP (p q : Poly) : Bool := (addP p (negP q)).all fun y => y.2 == 0
theorem alike_ev {p q : Poly} (h : alikeP p q = true) (x : Nat → Rat) : evP x p = evP x q := by
  have h1 := ev_zero x _ h
  have h2 := (hom_ev x).sub p q
  have h3 : evP x (addP p (negP q)) = evP x p - evP x q := h2
  rw [h1] at h3
  grind
/-! ### the law's own tables -/
def fc : Nat → Nat
  | 0 => 1
  | n + 1 => fc n * (n + 1)
def rowsT (found : List (List Mon)) (j : Nat) : List Mon := (List.range j).flatMap fun s => ((found.getD (j - (s + 1)) []).filter fun rest => rest.isEmpty || decide (rest.headD 0 ≤ s + 1)).map fun rest => (s + 1) :: rest
def typesN : Nat → List (List Mon)
  | 0 => [[[]]]
  | j + 1 => typesN j ++ [rowsT (typesN j) (j + 1)]
def sameN (sz : Mon) : Nat → Nat
  | 0 => 1
  | j + 1 => sameN sz j * fc (sz.count (j + 1))
def signN (back : Bool) (many : Nat) : Int := if back && (many == 2 || many == 4 || many == 6 || many == 8) then -1 else 1
def sizesN (sz : Mon) (a : Nat) : Nat := sz.foldl (fun a s => a * fc s) a
def pairC (k : Kind) (back : Bool) (j : Nat) (sz : Mon) : Int := match k with
  | .rows => signN back sz.length * (fc sz.length : Int) / (sameN sz j : Int)
  | .unc => if back && decide (0 < j) then signN back sz.length * (fc (j + sz.length - 2) : Int) / ((fc (j - 1) : Int) * (sameN sz j : Int)) else (fc j : Int) / ((fc (j - sz.length + 1) : Int) * (sameN sz j : Int))
  | .all => signN back sz.length * (fc j : Int) / (sizesN sz (sameN sz j) : Int) * (if back && decide (0 < j) then (fc (sz.length - 1) : Int) else 1)
def numsAt (k : Kind) (back : Bool) (j : Nat) : Poly := ((typesN 8).getD j []).map fun sz => (sz, pairC k back j sz)
def varP (i : Nat) : Poly := [([i + 1], 1)]
def wholeP (i : Nat) : Poly := if i = 0 then [([], 1)] else [([i], 1)]
def checkA (k : Kind) : Bool := (List.range 9).all fun j => alikeP (gt oP (wl oP k varP 8) j) (numsAt k false j)
def checkB (k : Kind) : Bool := (List.range 8).all fun i => alikeP (gt oP (fl oP k wholeP 8) i) (numsAt k true (i + 1))
theorem checksA (k : Kind) : checkA k = true := by cases k <;> decide +kernel
theorem checksB (k : Kind) : checkB k = true := by cases k <;> decide +kernel
theorem means_table (k : Kind) (p : Nat → Rat) {j : Nat} (hj : j ≤ 8) : gt oQ (wl oQ k p 8) j = evP (fun i => p (i - 1)) (numsAt k false j) := by
  have h := List.all_eq_true.mp (checksA k) j (List.mem_range.mpr (by omega))
  have e := alike_ev h (fun i => p (i - 1))
  rw [← e, hom_gt (hom_ev _), hom_wl (hom_ev _)]
  congr 2
  funext i
  show p i = ((1 : Int) : Rat) * (p (i + 1 - 1) * 1) + 0
  rw [Nat.add_sub_cancel]; grind
theorem parts_table (k : Kind) (w : Nat → Rat) (h0 : w 0 = 1) {i : Nat} (hi : i < 8) : gt oQ (fl oQ k w 8) i = evP w (numsAt k true (i + 1)) := by
  have h := List.all_eq_true.mp (checksB k) i (List.mem_range.mpr hi)
  have e := alike_ev h w
  rw [← e, hom_gt (hom_ev _), hom_fl (hom_ev _)]
  congr 2
  funext i
  unfold wholeP
  split
  · rename_i c
    subst c
    show w 0 = ((1 : Int) : Rat) * 1 + 0
    rw [h0]; grind
  · show w i = ((1 : Int) : Rat) * (w i * 1) + 0
    grind
end Means

/-! ## K82H -/
set_option Elab.async false
set_option linter.all false
set_option maxRecDepth 100000
set_option maxHeartbeats 4000000
set_option autoImplicit false
namespace K82
open PySem L2 Fz
def topS (i : Nat) : Stmt := PySem.Challenge.pw_cutandjoin_k82_whole_means_undone.main.body.getD i (.Pass ⟨0, 0, 0, 0⟩)
abbrev s_is_integer : Stmt := topS 5
theorem sc_is_integer : FnScope ["value"] ["value"] (defScope s_is_integer) := ⟨rfl, rfl, rfl, by decide +kernel, rfl, by decide +kernel, by decide +kernel⟩
abbrev s_common_measure : Stmt := topS 7
theorem sc_common_measure : FnScope ["one", "other"] ["one", "other"] (defScope s_common_measure) := ⟨rfl, rfl, rfl, by decide +kernel, rfl, by decide +kernel, by decide +kernel⟩
abbrev s_fraction_of : Stmt := topS 8
theorem sc_fraction_of : FnScope ["top", "bottom", "common"] ["top", "bottom"] (defScope s_fraction_of) := ⟨rfl, rfl, rfl, by decide +kernel, rfl, by decide +kernel, by decide +kernel⟩
abbrev s_fraction_plus : Stmt := topS 9
theorem sc_fraction_plus : FnScope ["one", "other"] ["one", "other"] (defScope s_fraction_plus) := ⟨rfl, rfl, rfl, by decide +kernel, rfl, by decide +kernel, by decide +kernel⟩
abbrev s_fraction_less : Stmt := topS 10
theorem sc_fraction_less : FnScope ["one", "other"] ["one", "other"] (defScope s_fraction_less) := ⟨rfl, rfl, rfl, by decide +kernel, rfl, by decide +kernel, by decide +kernel⟩
abbrev s_fraction_times : Stmt := topS 11
theorem sc_fraction_times : FnScope ["one", "other"] ["one", "other"] (defScope s_fraction_times) := ⟨rfl, rfl, rfl, by decide +kernel, rfl, by decide +kernel, by decide +kernel⟩
abbrev s_fraction_sum : Stmt := topS 12
theorem sc_fraction_sum : FnScope ["some", "found", "own"] ["some"] (defScope s_fraction_sum) := ⟨rfl, rfl, rfl, by decide +kernel, rfl, by decide +kernel, by decide +kernel⟩
abbrev s_is_great_fraction : Stmt := topS 13
theorem sc_is_great_fraction : FnScope ["value", "item"] ["value"] (defScope s_is_great_fraction) := ⟨rfl, rfl, rfl, by decide +kernel, rfl, by decide +kernel, by decide +kernel⟩
abbrev s_is_fraction : Stmt := topS 14
theorem sc_is_fraction : FnScope ["value"] ["value"] (defScope s_is_fraction) := ⟨rfl, rfl, rfl, by decide +kernel, rfl, by decide +kernel, by decide +kernel⟩
abbrev s_chosen_count : Stmt := topS 16
theorem sc_chosen_count : FnScope ["many", "some", "found", "step"] ["many", "some"] (defScope s_chosen_count) := ⟨rfl, rfl, rfl, by decide +kernel, rfl, by decide +kernel, by decide +kernel⟩
abbrev s_means_error : Stmt := topS 18
theorem sc_means_error : FnScope ["value", "odd", "place", "item"] ["value"] (defScope s_means_error) := ⟨rfl, rfl, rfl, by decide +kernel, rfl, by decide +kernel, by decide +kernel⟩
abbrev s_gap_share : Stmt := topS 19
theorem sc_gap_share : FnScope ["wholes", "gaps", "rest", "row", "turn", "longer", "whole", "own"] ["wholes", "gaps", "rest"] (defScope s_gap_share) := ⟨rfl, rfl, rfl, by decide +kernel, rfl, by decide +kernel, by decide +kernel⟩
abbrev s_rest_share : Stmt := topS 20
theorem sc_rest_share : FnScope ["kind", "wholes", "size", "many", "rest"] ["kind", "wholes", "size", "many"] (defScope s_rest_share) := ⟨rfl, rfl, rfl, by decide +kernel, rfl, by decide +kernel, by decide +kernel⟩
abbrev s_next_mean : Stmt := topS 21
theorem sc_next_mean : FnScope ["kind", "parts", "wholes", "many", "found", "place", "part"] ["kind", "parts", "wholes", "many"] (defScope s_next_mean) := ⟨rfl, rfl, rfl, by decide +kernel, rfl, by decide +kernel, by decide +kernel⟩
abbrev s_means_of_parts : Stmt := topS 22
theorem sc_means_of_parts : FnScope ["kind", "parts", "wholes", "many"] ["kind", "parts"] (defScope s_means_of_parts) := ⟨rfl, rfl, rfl, by decide +kernel, rfl, by decide +kernel, by decide +kernel⟩
abbrev s_parts_of_means : Stmt := topS 23
theorem sc_parts_of_means : FnScope ["kind", "means", "wholes", "found", "many"] ["kind", "means"] (defScope s_parts_of_means) := ⟨rfl, rfl, rfl, by decide +kernel, rfl, by decide +kernel, by decide +kernel⟩
abbrev s_law_own_bag : Stmt := topS 25
theorem sc_law_own_bag : FnScope ["script", "cells", "mixed", "cell"] ["script"] (defScope s_law_own_bag) := ⟨rfl, rfl, rfl, by decide +kernel, rfl, by decide +kernel, by decide +kernel⟩
abbrev s_law_draw : Stmt := topS 26
theorem sc_law_draw : FnScope ["bag", "below", "cell", "found"] ["bag", "below"] (defScope s_law_draw) := ⟨rfl, rfl, rfl, by decide +kernel, rfl, by decide +kernel, by decide +kernel⟩
abbrev s_law_pick : Stmt := topS 27
theorem sc_law_pick : FnScope ["bag", "some"] ["bag", "some"] (defScope s_law_pick) := ⟨rfl, rfl, rfl, by decide +kernel, rfl, by decide +kernel, by decide +kernel⟩
abbrev s_law_same : Stmt := topS 28
theorem sc_law_same : FnScope ["told", "due", "one", "other"] ["told", "due"] (defScope s_law_same) := ⟨rfl, rfl, rfl, by decide +kernel, rfl, by decide +kernel, by decide +kernel⟩
abbrev s_law_fraction : Stmt := topS 29
theorem sc_law_fraction : FnScope ["above", "below", "one", "other"] ["above", "below"] (defScope s_law_fraction) := ⟨rfl, rfl, rfl, by decide +kernel, rfl, by decide +kernel, by decide +kernel⟩
abbrev s_law_great : Stmt := topS 30
theorem sc_law_great : FnScope ["bag", "below", "number", "turn"] ["bag", "below"] (defScope s_law_great) := ⟨rfl, rfl, rfl, by decide +kernel, rfl, by decide +kernel, by decide +kernel⟩
abbrev s_law_factorials : Stmt := topS 31
theorem sc_law_factorials : FnScope ["found", "number"] [] (defScope s_law_factorials) := ⟨rfl, rfl, rfl, by decide +kernel, rfl, by decide +kernel, by decide +kernel⟩
abbrev s_law_types : Stmt := topS 32
theorem sc_law_types : FnScope ["most", "found", "j", "rows", "size", "rest"] ["most"] (defScope s_law_types) := ⟨rfl, rfl, rfl, by decide +kernel, rfl, by decide +kernel, by decide +kernel⟩
abbrev s_law_numbers : Stmt := topS 33
theorem sc_law_numbers : FnScope ["kind", "is_back", "facts", "found", "j", "rows", "pairs", "sizes", "many", "same", "size", "sign"] ["kind", "is_back"] (defScope s_law_numbers) := ⟨rfl, rfl, rfl, by decide +kernel, rfl, by decide +kernel, by decide +kernel⟩
abbrev s_law_turned : Stmt := topS 34
theorem sc_law_turned : FnScope ["numbers", "own", "found", "j", "total", "common", "size", "number", "sizes", "turn", "below"] ["numbers", "own"] (defScope s_law_turned) := ⟨rfl, rfl, rfl, by decide +kernel, rfl, by decide +kernel, by decide +kernel⟩
abbrev s_law_is_let : Stmt := topS 35
theorem sc_law_is_let : FnScope ["row", "above", "below"] ["row"] (defScope s_law_is_let) := ⟨rfl, rfl, rfl, by decide +kernel, rfl, by decide +kernel, by decide +kernel⟩
abbrev s_law_row : Stmt := topS 36
theorem sc_law_row : FnScope ["bag", "n", "mode", "found", "turn", "edge", "above", "below"] ["bag", "n", "mode"] (defScope s_law_row) := ⟨rfl, rfl, rfl, by decide +kernel, rfl, by decide +kernel, by decide +kernel⟩
abbrev s_law_step : Stmt := topS 37
theorem sc_law_step : FnScope ["kind", "parts", "means", "facts", "j", "total", "power", "i", "ways", "much", "at"] ["kind", "parts", "means"] (defScope s_law_step) := ⟨rfl, rfl, rfl, by decide +kernel, rfl, by decide +kernel, by decide +kernel⟩
abbrev s_law_is_fraction : Stmt := topS 38
theorem sc_law_is_fraction : FnScope ["item", "number"] ["item"] (defScope s_law_is_fraction) := ⟨rfl, rfl, rfl, by decide +kernel, rfl, by decide +kernel, by decide +kernel⟩
abbrev s_law_word : Stmt := topS 39
theorem sc_law_word : FnScope ["value", "at", "item"] ["value"] (defScope s_law_word) := ⟨rfl, rfl, rfl, by decide +kernel, rfl, by decide +kernel, by decide +kernel⟩
abbrev s_law_odd : Stmt := topS 40
theorem sc_law_odd : FnScope ["bag", "item", "way", "above", "below", "times", "some"] ["bag", "item", "way"] (defScope s_law_odd) := ⟨rfl, rfl, rfl, by decide +kernel, rfl, by decide +kernel, by decide +kernel⟩
abbrev s_law_are_words_right : Stmt := topS 41
theorem sc_law_are_words_right : FnScope ["bag", "values", "some", "way", "dues", "kept", "value", "due", "again", "many", "row", "at", "later", "turn"] ["bag"] (defScope s_law_are_words_right) := ⟨rfl, rfl, rfl, by decide +kernel, rfl, by decide +kernel, by decide +kernel⟩
abbrev s_law_is_turned : Stmt := topS 42
theorem sc_law_is_turned : FnScope ["bag", "kind", "is_back", "own", "due", "is_named", "first", "told", "back"] ["bag", "kind", "is_back", "own", "due", "is_named"] (defScope s_law_is_turned) := ⟨rfl, rfl, rfl, by decide +kernel, rfl, by decide +kernel, by decide +kernel⟩
abbrev s_law_are_steps_kept : Stmt := topS 43
theorem sc_law_are_steps_kept : FnScope ["kind", "parts", "told", "means", "numbers", "j", "due", "above", "below"] ["kind", "parts"] (defScope s_law_are_steps_kept) := ⟨rfl, rfl, rfl, by decide +kernel, rfl, by decide +kernel, by decide +kernel⟩
abbrev s_law_all : Stmt := topS 44
theorem sc_law_all : FnScope ["script", "bag", "kinds", "great", "asked", "at", "kind", "is_back", "own", "due", "flip", "turned", "numbers", "modes", "mode", "n", "kept"] ["script"] (defScope s_law_all) := ⟨rfl, rfl, rfl, by decide +kernel, rfl, by decide +kernel, by decide +kernel⟩
abbrev s_law : Stmt := topS 45
theorem sc_law : FnScope ["script"] ["script"] (defScope s_law) := ⟨rfl, rfl, rfl, by decide +kernel, rfl, by decide +kernel, by decide +kernel⟩
/-- what the module and the built-ins give -/
structure Bt (P : Program) (mg : Str → Option Value) (base : Heap) : Prop where
  n_isinstance : mg "isinstance" = none
  n_int : mg "int" = none
  n_bool : mg "bool" = none
  n_abs : mg "abs" = none
  n_tuple : mg "tuple" = none
  n_len : mg "len" = none
  n_all : mg "all" = none
  n_range : mg "range" = none
  n_enumerate : mg "enumerate" = none
  n_list : mg "list" = none
  n_reversed : mg "reversed" = none
  n_str : mg "str" = none
  n_zip : mg "zip" = none
  n_sum : mg "sum" = none
  n_repr : mg "repr" = none
  c_MAX_NUMBER : ∃ t, mg "MAX_NUMBER" = some (.int 1000000000000000000000000000000 t)
  c_MAX_MEANS : ∃ t, mg "MAX_MEANS" = some (.int 8 t)
  hpl : base.NoSeer ∧ P.given.tree = none
end K82

/-! ## B1 -/
set_option Elab.async false
set_option linter.all false
set_option maxRecDepth 100000
set_option maxHeartbeats 4000000
set_option autoImplicit false
namespace K82
open PySem L2 Fz K80
variable {P : Program} {w : World} {K : PySem.W.Frag} {mg : Str → Option Value} {base : Heap} {f : Addr} {fd : FuncData}
abbrev iv (x : Int) : Option AD := some (.d (.int x))
def R_cm : List PyData → PyData → Prop := fun ds d => ∃ a b : Int, ds = [.int a, .int b] ∧ d = .int (Int.gcd a b)
theorem abs_if (a : Int) : (if a < 0 then -a else a) = (a.natAbs : Int) := by split <;> omega
theorem gcd_step {x y : Int} (hx : 0 ≤ x) (hy : 0 < y) : Int.gcd y (x % y) = Int.gcd x y := by
  obtain ⟨n, rfl⟩ := Int.eq_ofNat_of_zero_le hx
  obtain ⟨m, rfl⟩ := Int.eq_ofNat_of_zero_le (Int.le_of_lt hy)
  show Nat.gcd m (((n : Int) % (m : Int)).natAbs) = Nat.gcd n m
  have e : ((n : Int) % (m : Int)).natAbs = n % m := by omega
  rw [e, Nat.gcd_comm m, ← Nat.gcd_rec, Nat.gcd_comm]
theorem ok_common_measure (Fn : Fun K "common_measure" "common_measure" s_common_measure f fd) (T : Bt P mg base) : FnOk P w K mg base CX0 41 f fd ["one", "other"] (spR K R_cm) := by
  refine fn_data Fn sc_common_measure (by decide) (fun ds d ⟨a, b, h, _⟩ => by rw [h]; rfl) fun cdv A outer s H E hr => ⟨_, (pss_cons (ps_par (i := 0) (j := 1) (by rfl) sc_common_measure.nd rfl rfl (by decide) rfl rfl (pa_cons (pe_callB call_abs (by rfl) T.n_abs (by decide +kernel) (pa_cons (pv 0) pa_nil)) (pa_cons (pe_callB call_abs (by rfl) T.n_abs (by decide +kernel) (pa_cons (pv 1) pa_nil)) pa_nil)) (by rfl))
      (pss_cons (ps_while PassesOwn.never (pt_cmpR op_ne (pv 1) pe_int (nomark _)) (pss_one (ps_par (i := 0) (j := 1) (by rfl) sc_common_measure.nd rfl rfl (by decide) rfl rfl (pa_cons (pv 1) (pa_cons (pe_op op_mod (pv 0) (pv 1)) pa_nil)) (by rfl))))
      (pss_one (ps_ret (pv 0))))), ?_⟩
  rintro B Q ds d rfl hM ⟨a, b, rfl, rfl⟩ q
  refine x_seq (x_par (ea_cons (ex_abs (ex_v rfl)) (ea_cons (ex_abs (ex_v rfl)) ea_nil)) ?_)
  rw [abs_if, abs_if]
  refine x_seq (x_while (m0 := (b.natAbs : Int).toNat) (fun m ε L => ∃ x y : Int, 0 ≤ x ∧ 0 ≤ y ∧ Int.gcd x y = Int.gcd a b ∧ m = y.toNat ∧ ε = [iv x, iv y] ∧ L = []) ⟨a.natAbs, b.natAbs, by omega, by omega, by show Nat.gcd _ _ = _; simp [Int.gcd], rfl, rfl, rfl⟩ ?_)
  rintro m ε' L' ⟨x, y, hx, hy, hg, rfl, rfl, rfl⟩
  refine ⟨_, _, et_test (ex_neI (ex_v rfl) ex_cI), fun hb => ?_, fun hb => ?_⟩
  · have hy0 : y ≠ 0 := by simpa using hb
    refine x_par (ea_cons (ex_v rfl) (ea_cons (ex_mod (ex_v rfl) (ex_v rfl) (by omega)) ea_nil)) ?_
    refine x_abs ⟨(x % y).toNat, ?_, y, x % y, hy, Int.emod_nonneg _ hy0, ?_, rfl, rfl, rfl⟩ (Wk.refl _)
    · have := Int.emod_lt_of_pos x (show 0 < y by omega)
      have := Int.emod_nonneg x hy0
      omega
    · rw [gcd_step hx (by omega), hg]
  · have hy0 : y = 0 := by simpa using hb
    subst hy0
    refine x_ret (ex_v rfl) fun v F σ H r o => q v F H (hM ▸ r.nx) ?_
    rw [← hg, Int.gcd_zero_right]
    have : (x.natAbs : Int) = x := by omega
    rw [this]; exact o
def R_frac : List PyData → PyData → Prop := fun ds d => ∃ t b : Int, ds = [.int t, .int b] ∧ 0 < b ∧ d = frD t b
theorem gcd_pos {t b : Int} (h : 0 < b) : (0 : Int) < (Int.gcd t b : Int) := by
  have : 0 < Int.gcd t b := Int.gcd_pos_of_ne_zero_right t (by omega)
  omega
theorem ok_fraction_of (Fn : Fun K "fraction_of" "fraction_of" s_fraction_of f fd) (T : Bt P mg base) (C_common_measure : Df P w K mg base 41 "common_measure" ["one", "other"] (spR K R_cm)) :
    FnOk P w K mg base CX0 42 f fd ["top", "bottom"] (spR K R_frac) := by
  refine fn_data Fn sc_fraction_of (by decide) (fun ds d ⟨a, b, h, _⟩ => by rw [h]; rfl) fun cdv A outer s H E hr => ⟨_, (pss_cons (ps_set (i := 2) sc_fraction_of.nd rfl (.inl rfl) (pe_ifExp (pt_cmpR op_gt (pv 1) pe_int (nomark _)) (pe_callD C_common_measure (hr.mono (by decide)) (by rfl) (pa_cons (pv 0) (pa_cons (pv 1) pa_nil))) (pe_un un_neg (pe_callD C_common_measure (hr.mono (by decide)) (by rfl) (pa_cons (pv 0) (pa_cons (pv 1) pa_nil))))))
      (pss_one (ps_ret (pe_tup (pa_cons (pe_op (op_fdivP hr T.hpl) (pv 0) (pv 2)) (pa_cons (pe_op (op_fdivP hr T.hpl) (pv 1) (pv 2)) pa_nil)))))), ?_⟩
  rintro B Q ds d rfl hM ⟨t, b, rfl, hb, rfl⟩ q
  have hg := gcd_pos (t := t) hb
  refine x_seq (x_set (a := .d (.int (Int.gcd t b : Int))) (ex_if (et_test (ex_gt (ex_v rfl) ex_cI)) (fun _ => ex_call (ds := [.int t, .int b]) (ea_cons (ex_v rfl) (ea_cons (ex_v rfl) ea_nil)) ⟨t, b, rfl, rfl⟩) (fun h => absurd hb (by simpa using h))) ?_)
  exact x_ret (ex_tup (ds := [.int _, .int _]) (ea_cons (ex_fdivP (ex_v rfl) (ex_v rfl) hg) (ea_cons (ex_fdivP (ex_v rfl) (ex_v rfl) hg) ea_nil)) (Nat.le_of_ble_eq_true rfl)) fun v F σ H r o => q v F H (hM ▸ r.nx) o
/-! ### fractions -/
def frQ (q : Rat) : PyData := .tuple [.int q.num, .int (q.den : Int)]
theorem frQ_of {t b : Int} (hb : 0 < b) : frD t b = frQ (Rat.divInt t b) := by
  unfold frD frQ
  rw [Rat.num_divInt, Rat.den_divInt, if_neg (by omega)]
  have e1 : b.sign = 1 := Int.sign_eq_one_of_pos hb
  rw [e1, Int.one_mul, Int.gcd_comm b t]
  have e2 : ((b.natAbs / Int.gcd t b : Nat) : Int) = b / (Int.gcd t b : Int) := by
    rw [Int.natCast_ediv]
    have : (b.natAbs : Int) = b := by omega
    rw [this]
  rw [e2]
theorem den_pos (q : Rat) : 0 < (q.den : Int) := by have := q.den_nz; omega
structure Sz (q : Rat) : Prop where
  n : Bd 100000 q.num
  d : Bd 100000 (q.den : Int)
theorem plus_div (a b : Rat) : Rat.divInt (a.num * b.den + b.num * a.den) (a.den * b.den) = a + b := by
  have h := Rat.divInt_add_divInt a.num b.num (d₁ := a.den) (d₂ := b.den) (by have := a.den_nz; omega) (by have := b.den_nz; omega)
  rw [Rat.num_divInt_den, Rat.num_divInt_den] at h
  exact h.symm
theorem less_div (a b : Rat) : Rat.divInt (a.num * b.den - b.num * a.den) (a.den * b.den) = a - b := by
  have h := Rat.divInt_sub_divInt a.num b.num (d₁ := a.den) (d₂ := b.den) (by have := a.den_nz; omega) (by have := b.den_nz; omega)
  rw [Rat.num_divInt_den, Rat.num_divInt_den] at h
  exact h.symm
theorem times_div (a b : Rat) : Rat.divInt (a.num * b.num) (a.den * b.den) = a * b := by
  have h := Rat.divInt_mul_divInt a.num b.num (d₁ := a.den) (d₂ := b.den)
  rw [Rat.num_divInt_den, Rat.num_divInt_den] at h
  exact h.symm
abbrev S_common_measure (K : PySem.W.Frag) : Sp := spR K R_cm
abbrev S_fraction_of (K : PySem.W.Frag) : Sp := spD K (fun y : Int × Int => [.int y.1, .int y.2]) (fun y => 0 < y.2) frQ (fun y x => x = Rat.divInt y.1 y.2)
abbrev S_law_fraction (K : PySem.W.Frag) : Sp := S_fraction_of K
theorem okd_common_measure (Fn : Fun K "common_measure" "common_measure" s_common_measure f fd) (T : Bt P mg base) : FnOk P w K mg base CX0 41 f fd ["one", "other"] (S_common_measure K) := ok_common_measure Fn T
theorem okd_fraction_of (Fn : Fun K "fraction_of" "fraction_of" s_fraction_of f fd) (T : Bt P mg base) (C_common_measure : Df P w K mg base 41 "common_measure" ["one", "other"] (spR K R_cm)) : FnOk P w K mg base CX0 42 f fd ["top", "bottom"] (S_fraction_of K) :=
  fn_wk (ok_fraction_of Fn T C_common_measure) (spD_of fun y h => ⟨_, ⟨y.1, y.2, rfl, h, (frQ_of h).symm⟩, rfl⟩)
abbrev S_fraction_plus (K : PySem.W.Frag) : Sp := spD K (fun y : Rat × Rat => [frQ y.1, frQ y.2]) (fun y => Sz y.1 ∧ Sz y.2) frQ (fun y x => x = y.1 + y.2)
abbrev S_fraction_less (K : PySem.W.Frag) : Sp := spD K (fun y : Rat × Rat => [frQ y.1, frQ y.2]) (fun y => Sz y.1 ∧ Sz y.2) frQ (fun y x => x = y.1 - y.2)
abbrev S_fraction_times (K : PySem.W.Frag) : Sp := spD K (fun y : Rat × Rat => [frQ y.1, frQ y.2]) (fun y => Sz y.1 ∧ Sz y.2) frQ (fun y x => x = y.1 * y.2)
section
variable {B : Bg} {ε : Eps} {L La Lb : Own} {te ta tb : TE} {E : XK} {q r : Rat} {t b : Int}
theorem ex_num (h : EX B te ε L (.d (frQ q)) La) : EX B (tOp (rIxT B.K) te (tC (.int 0))) ε L (.d (.int q.num)) La := ex_ixT (ds := [.int q.num, .int (q.den : Int)]) h ex_cI rfl
theorem ex_den (h : EX B te ε L (.d (frQ q)) La) : EX B (tOp (rIxT B.K) te (tC (.int 1))) ε L (.d (.int (q.den : Int))) La := ex_ixT (ds := [.int q.num, .int (q.den : Int)]) h ex_cI rfl
theorem ex_fracof (h : EX B ta ε L (.d (.int t)) La) (h2 : EX B tb ε La (.d (.int b)) Lb) (hb : 0 < b) : EX B (tCall (S_fraction_of B.K) [] E (tCons ta (tCons tb tNil))) ε L (.d (frQ (Rat.divInt t b))) Lb :=
  ex_of (e := frQ) fun κ k => w_callD (wa_x h (wa_x h2 (wa_nil ⟨(t, b), rfl, hb, fun x hx => hx ▸ k⟩)))
end
theorem okd_fraction_plus (Fn : Fun K "fraction_plus" "fraction_plus" s_fraction_plus f fd) (T : Bt P mg base) (D_fraction_of : Df P w K mg base 42 "fraction_of" ["top", "bottom"] (S_fraction_of K)) : FnOk P w K mg base CX0 43 f fd ["one", "other"] (S_fraction_plus K) := by
  refine fn_D Fn sc_fraction_plus (by decide) (fun _ => rfl) fun cdv A outer s H E hr => ⟨_, (pss_one (ps_ret (pe_callD D_fraction_of (hr.mono (by decide)) (by rfl) (pa_cons (pe_op op_add (pe_op op_mulW (pe_ix (r := rIxT K) ix_tup (pv 0) pe_int (fun _ _ => rfl)) (pe_ix (r := rIxT K) ix_tup (pv 1) pe_int (fun _ _ => rfl))) (pe_op op_mulW (pe_ix (r := rIxT K) ix_tup (pv 1) pe_int (fun _ _ => rfl)) (pe_ix (r := rIxT K) ix_tup (pv 0) pe_int (fun _ _ => rfl)))) (pa_cons (pe_op op_mulW (pe_ix (r := rIxT K) ix_tup (pv 0) pe_int (fun _ _ => rfl)) (pe_ix (r := rIxT K) ix_tup (pv 1) pe_int (fun _ _ => rfl))) pa_nil))))), ?_⟩
  rintro B Q ⟨a, b⟩ rfl ⟨sa, sb⟩ q
  dsimp only at sa sb q
  show Ho B _ [some (.d (frQ a)), some (.d (frQ b))] []
  exact x_retD q (wv_of (ex_fracof (ex_add (ex_mul (ex_num (ex_v rfl)) (ex_den (ex_v rfl)) (cmul sa.n sb.d (by decide))) (ex_mul (ex_num (ex_v rfl)) (ex_den (ex_v rfl)) (cmul sb.n sa.d (by decide)))) (ex_mul (ex_den (ex_v rfl)) (ex_den (ex_v rfl)) (cmul sa.d sb.d (by decide))) (Int.mul_pos (den_pos a) (den_pos b))) (plus_div a b))
theorem okd_fraction_less (Fn : Fun K "fraction_less" "fraction_less" s_fraction_less f fd) (T : Bt P mg base) (D_fraction_of : Df P w K mg base 42 "fraction_of" ["top", "bottom"] (S_fraction_of K)) : FnOk P w K mg base CX0 43 f fd ["one", "other"] (S_fraction_less K) := by
  refine fn_D Fn sc_fraction_less (by decide) (fun _ => rfl) fun cdv A outer s H E hr => ⟨_, (pss_one (ps_ret (pe_callD D_fraction_of (hr.mono (by decide)) (by rfl) (pa_cons (pe_op op_sub (pe_op op_mulW (pe_ix (r := rIxT K) ix_tup (pv 0) pe_int (fun _ _ => rfl)) (pe_ix (r := rIxT K) ix_tup (pv 1) pe_int (fun _ _ => rfl))) (pe_op op_mulW (pe_ix (r := rIxT K) ix_tup (pv 1) pe_int (fun _ _ => rfl)) (pe_ix (r := rIxT K) ix_tup (pv 0) pe_int (fun _ _ => rfl)))) (pa_cons (pe_op op_mulW (pe_ix (r := rIxT K) ix_tup (pv 0) pe_int (fun _ _ => rfl)) (pe_ix (r := rIxT K) ix_tup (pv 1) pe_int (fun _ _ => rfl))) pa_nil))))), ?_⟩
  rintro B Q ⟨a, b⟩ rfl ⟨sa, sb⟩ q
  dsimp only at sa sb q
  show Ho B _ [some (.d (frQ a)), some (.d (frQ b))] []
  exact x_retD q (wv_of (ex_fracof (ex_sub (ex_mul (ex_num (ex_v rfl)) (ex_den (ex_v rfl)) (cmul sa.n sb.d (by decide))) (ex_mul (ex_num (ex_v rfl)) (ex_den (ex_v rfl)) (cmul sb.n sa.d (by decide)))) (ex_mul (ex_den (ex_v rfl)) (ex_den (ex_v rfl)) (cmul sa.d sb.d (by decide))) (Int.mul_pos (den_pos a) (den_pos b))) (less_div a b))
theorem okd_fraction_times (Fn : Fun K "fraction_times" "fraction_times" s_fraction_times f fd) (T : Bt P mg base) (D_fraction_of : Df P w K mg base 42 "fraction_of" ["top", "bottom"] (S_fraction_of K)) : FnOk P w K mg base CX0 43 f fd ["one", "other"] (S_fraction_times K) := by
  refine fn_D Fn sc_fraction_times (by decide) (fun _ => rfl) fun cdv A outer s H E hr => ⟨_, (pss_one (ps_ret (pe_callD D_fraction_of (hr.mono (by decide)) (by rfl) (pa_cons (pe_op op_mulW (pe_ix (r := rIxT K) ix_tup (pv 0) pe_int (fun _ _ => rfl)) (pe_ix (r := rIxT K) ix_tup (pv 1) pe_int (fun _ _ => rfl))) (pa_cons (pe_op op_mulW (pe_ix (r := rIxT K) ix_tup (pv 0) pe_int (fun _ _ => rfl)) (pe_ix (r := rIxT K) ix_tup (pv 1) pe_int (fun _ _ => rfl))) pa_nil))))), ?_⟩
  rintro B Q ⟨a, b⟩ rfl ⟨sa, sb⟩ q
  dsimp only at sa sb q
  show Ho B _ [some (.d (frQ a)), some (.d (frQ b))] []
  exact x_retD q (wv_of (ex_fracof (ex_mul (ex_num (ex_v rfl)) (ex_num (ex_v rfl)) (cmul sa.n sb.n (by decide))) (ex_mul (ex_den (ex_v rfl)) (ex_den (ex_v rfl)) (cmul sa.d sb.d (by decide))) (Int.mul_pos (den_pos a) (den_pos b))) (times_div a b))
end K82

/-! ## WV -/
/-! WV: how great means and parts become. Plain mathematics. -/
set_option autoImplicit false
set_option linter.all false
namespace Means
/-- q times L ^ n is a whole number of at most c -/
def Gz (L n c : Nat) (q : Rat) : Prop := ∃ z : Int, q * ((L ^ n : Nat) : Rat) = (z : Rat) ∧ z.natAbs ≤ c
section
variable {L n m c d : Nat} {q r : Rat}
theorem Gz.mono (h : Gz L n c q) (hc : c ≤ d) : Gz L n d q := let ⟨z, a, b⟩ := h; ⟨z, a, Nat.le_trans b hc⟩
theorem Gz.add (h : Gz L n c q) (h2 : Gz L n d r) : Gz L n (c + d) (q + r) := by
  obtain ⟨z, a, b⟩ := h
  obtain ⟨y, e, f⟩ := h2
  refine ⟨z + y, ?_, by omega⟩
  rw [Rat.intCast_add, ← a, ← e]; grind
theorem Gz.sub (h : Gz L n c q) (h2 : Gz L n d r) : Gz L n (c + d) (q - r) := by
  obtain ⟨z, a, b⟩ := h
  obtain ⟨y, e, f⟩ := h2
  refine ⟨z - y, ?_, by omega⟩
  rw [Rat.intCast_sub, ← a, ← e]; grind
theorem Gz.mul (h : Gz L n c q) (h2 : Gz L m d r) : Gz L (n + m) (c * d) (q * r) := by
  obtain ⟨z, a, b⟩ := h
  obtain ⟨y, e, f⟩ := h2
  refine ⟨z * y, ?_, by rw [Int.natAbs_mul]; exact Nat.mul_le_mul b f⟩
  rw [Rat.intCast_mul, ← a, ← e, Nat.pow_add, Rat.natCast_mul]; grind
theorem gz_int (i : Int) : Gz L 0 i.natAbs (i : Rat) := ⟨i, by rw [Nat.pow_zero]; show (i : Rat) * ((1 : Nat) : Rat) = i; grind, Nat.le_refl _⟩
theorem gz_zero : Gz L n 0 0 := ⟨0, by show (0 : Rat) * _ = ((0 : Int) : Rat); grind, Nat.le_refl _⟩
theorem Gz.up (h : Gz L n c q) (k : Nat) : Gz L (n + k) (c * L ^ k) q := by
  obtain ⟨z, a, b⟩ := h
  refine ⟨z * ((L ^ k : Nat) : Int), ?_, by rw [Int.natAbs_mul, Int.natAbs_natCast]; exact Nat.mul_le_mul_right _ b⟩
  rw [Rat.intCast_mul, ← a, Nat.pow_add, Rat.natCast_mul, Rat.intCast_natCast]; grind
theorem Gz.size (h : Gz L n c q) (hL : 0 < L) : q.num.natAbs ≤ c ∧ q.den ≤ L ^ n := by
  obtain ⟨z, a, b⟩ := h
  have hp : 0 < L ^ n := Nat.pow_pos hL
  have hp2 : ((L ^ n : Nat) : Rat) ≠ 0 := fun e => by
    have : ((L ^ n : Nat) : Rat) = ((0 : Nat) : Rat) := e
    have := Rat.natCast_inj.mp this
    omega
  have hq : q = Rat.divInt z ((L ^ n : Nat) : Int) := by
    rw [Rat.divInt_eq_div, ← a]
    show q = q * ((L ^ n : Nat) : Rat) / (((L ^ n : Nat) : Int) : Rat)
    rw [Rat.intCast_natCast]
    grind
  rw [hq, Rat.num_divInt, Rat.den_divInt, if_neg (by omega)]
  have e1 : (((L ^ n : Nat) : Int)).sign = 1 := Int.sign_eq_one_of_pos (by omega)
  rw [e1, Int.one_mul]
  constructor
  · have : (z / (Int.gcd ((L ^ n : Nat) : Int) z : Int)).natAbs ≤ z.natAbs := by
      exact Int.natAbs_ediv_le_natAbs z _
    omega
  · have : (((L ^ n : Nat) : Int)).natAbs = L ^ n := Int.natAbs_natCast _
    rw [this]
    exact Nat.div_le_self _ _
end
theorem sm_gz {L n c : Nat} {f : Nat → Rat} : ∀ {m : Nat}, (∀ i, i < m → Gz L n c (f i)) → Gz L n (m * c) (smR oQ f m)
  | 0, _ => by rw [Nat.zero_mul]; exact gz_zero
  | m + 1, h => by
    rw [Nat.succ_mul]
    exact (sm_gz (m := m) fun i hi => h i (by omega)).add (h m (by omega))
section
variable {L A : Nat} {w : Nat → Rat}
theorem row_gz (hw : ∀ i, i ≤ 8 → Gz L i (A ^ i) (w i)) : ∀ t j, j ≤ 8 → Gz L j (9 ^ t * A ^ j) (rowG oQ w t j)
  | 0, j, _ => by
    show Gz L j _ (if j = 0 then ((1 : Int) : Rat) else ((0 : Int) : Rat))
    split
    · rename_i e
      subst e
      exact (gz_int 1).mono (by simp)
    · exact gz_zero.mono (Nat.zero_le _)
  | t + 1, j, hj => by
    have h := sm_gz (L := L) (n := j) (c := 9 ^ t * A ^ j) (f := fun i => rowG oQ w t i * w (j - i)) (m := j + 1) fun i hi => by
      have h1 := (row_gz hw t i (by omega)).mul (hw (j - i) (by omega))
      have e : i + (j - i) = j := by omega
      rw [e, Nat.mul_assoc, ← Nat.pow_add, e] at h1
      exact h1
    refine h.mono ?_
    rw [Nat.pow_succ, Nat.mul_comm (9 ^ t) 9, Nat.mul_assoc]
    exact Nat.mul_le_mul_right _ (by omega)
theorem bc_le : ∀ n k, bc n k ≤ 2 ^ n
  | n, 0 => by cases n <;> exact Nat.pow_pos (by decide)
  | 0, k + 1 => Nat.zero_le _
  | n + 1, k + 1 => by
    show bc n k + bc n (k + 1) ≤ _
    have := bc_le n k
    have := bc_le n (k + 1)
    rw [Nat.pow_succ]; omega
theorem rest_gz (hw : ∀ i, i ≤ 8 → Gz L i (A ^ i) (w i)) (k : Kind) {size many : Nat} (hm : many ≤ 8) (hs : size ≤ 8) : Gz L (many - size) (9 ^ 8 * A ^ (many - size)) (restS oQ k w size many) := by
  cases k with
  | all =>
    have h := (gz_int (L := L) ((bc (many - 1) (size - 1) : Nat) : Int)).mul (hw (many - size) (by omega))
    rw [Nat.zero_add, Int.natAbs_natCast] at h
    refine h.mono (Nat.mul_le_mul_right _ ?_)
    have h1 := bc_le (many - 1) (size - 1)
    have h2 : 2 ^ (many - 1) ≤ 2 ^ 8 := Nat.pow_le_pow_right (by decide) (by omega)
    have h3 : 2 ^ 8 ≤ 9 ^ 8 := by decide
    omega
  | rows => exact (hw _ (by omega)).mono (Nat.le_mul_of_pos_left _ (by decide))
  | unc => exact (row_gz hw size _ (by omega)).mono (Nat.mul_le_mul_right _ (Nat.pow_le_pow_right (by decide) hs))
/-- the terms of a next mean, and what is summed on the way -/
theorem term_gz {p : Nat → Rat} {C : Nat → Nat} (hw : ∀ i, i ≤ 8 → Gz L i (A ^ i) (w i)) (k : Kind) {many i : Nat} (hm : many ≤ 8) (hi : i < many) (hp : Gz L (i + 1) (C i) (p i)) : Gz L many (C i * (9 ^ 8 * A ^ (many - (i + 1)))) (p i * restS oQ k w (i + 1) many) := by
  have h := hp.mul (rest_gz hw k (size := i + 1) hm (by omega))
  have e : i + 1 + (many - (i + 1)) = many := by omega
  rw [e] at h
  exact h
end
/-- all of a bounded list of means -/
theorem means_gz {L T X : Nat} (hX : 2 ^ 30 * T ≤ X) {p : Nat → Rat} {n : Nat} (hn : n ≤ 8) (hp : ∀ i, i < n → Gz L (i + 1) (T ^ (i + 1)) (p i)) (k : Kind) : ∀ j, j ≤ n → Gz L j (X ^ j) (gt oQ (wl oQ k p n) j) := by
  have hT : T ≤ X := by omega
  intro j
  induction j using Nat.strongRecOn with
  | _ j ih =>
    intro hj
    cases j with
    | zero =>
      have : gt oQ (wl oQ k p n) 0 = ((1 : Int) : Rat) := by rw [wl_old oQ k p (n := 0) (Nat.le_refl _) (Nat.zero_le _)]; rfl
      rw [this]
      exact (gz_int 1).mono (by simp)
    | succ j =>
      rw [wl_at oQ k p (by omega)]
      rw [next_congr oQ k (p := p) (q := p) (w := gt oQ (wl oQ k p n)) (v := fun i => if i ≤ j then gt oQ (wl oQ k p n) i else 0) (fun _ _ => rfl) (fun i hi => by rw [if_pos (by omega)]) (Nat.le_refl _)]
      have hw : ∀ i, i ≤ 8 → Gz L i (X ^ i) ((fun i => if i ≤ j then gt oQ (wl oQ k p n) i else 0) i) := fun i _ => by
        dsimp only
        split
        · exact ih i (by omega) (by omega)
        · exact gz_zero.mono (Nat.zero_le _)
      have h := sm_gz (L := L) (n := j + 1) (c := T * (9 ^ 8 * X ^ j)) (f := fun i => p i * restS oQ k (fun i => if i ≤ j then gt oQ (wl oQ k p n) i else 0) (i + 1) (j + 1)) (m := j + 1) fun i hi => by
        refine (term_gz (C := fun i => T ^ (i + 1)) hw k (by omega) hi (hp i (by omega))).mono ?_
        have e : X ^ j = X ^ i * X ^ (j + 1 - (i + 1)) := by rw [← Nat.pow_add]; congr 1; omega
        rw [e, Nat.pow_succ, Nat.mul_comm (T ^ i) T, Nat.mul_assoc]
        refine Nat.mul_le_mul_left _ ?_
        rw [Nat.mul_left_comm]
        refine Nat.mul_le_mul_left _ (Nat.mul_le_mul_right _ (Nat.pow_le_pow_left hT i))
      refine h.mono ?_
      have h8 : (j + 1) * (T * (9 ^ 8 * X ^ j)) ≤ 8 * (T * (9 ^ 8 * X ^ j)) := Nat.mul_le_mul_right _ (by omega)
      refine Nat.le_trans h8 ?_
      have eX : X ^ (j + 1) = X * X ^ j := by rw [Nat.pow_succ, Nat.mul_comm]
      rw [eX]
      have e : 8 * (T * (9 ^ 8 * X ^ j)) = (8 * 9 ^ 8 * T) * X ^ j := by simp only [Nat.mul_assoc, Nat.mul_left_comm, Nat.mul_comm]
      rw [e]
      refine Nat.mul_le_mul_right _ (Nat.le_trans (Nat.mul_le_mul_right _ ?_) hX)
      decide
theorem parts_gz {L T X : Nat} (hX : 2 ^ 30 * T ≤ X) {w : Nat → Rat} {n : Nat} (hn : n ≤ 8) (hw0 : ∀ i, i ≤ 8 → Gz L i (T ^ i) (w i)) (k : Kind) : ∀ j, j < n → Gz L (j + 1) (X ^ (j + 1)) (gt oQ (fl oQ k w n) j) := by
  have hT : T ≤ X := by omega
  intro j
  induction j using Nat.strongRecOn with
  | _ j ih =>
    intro hj
    rw [fl_at oQ k w hj]
    have h := sm_gz (L := L) (n := j + 1) (c := T * (9 ^ 8 * X ^ j)) (f := fun i => gt oQ (fl oQ k w n) i * restS oQ k w (i + 1) (j + 1)) (m := j) fun i hi => by
      refine (term_gz (C := fun i => X ^ (i + 1)) hw0 k (by omega) (by omega) (ih i (by omega) (by omega))).mono ?_
      have e : j + 1 - (i + 1) = (j - i - 1) + 1 := by omega
      have e2 : X ^ j = X ^ (i + 1) * X ^ (j - i - 1) := by rw [← Nat.pow_add]; congr 1; omega
      rw [e, Nat.pow_succ, e2]
      have h1 : T ^ (j - i - 1) ≤ X ^ (j - i - 1) := Nat.pow_le_pow_left hT _
      calc X ^ (i + 1) * (9 ^ 8 * (T ^ (j - i - 1) * T)) = T * (9 ^ 8 * (X ^ (i + 1) * T ^ (j - i - 1))) := by simp only [Nat.mul_assoc, Nat.mul_left_comm, Nat.mul_comm]
        _ ≤ T * (9 ^ 8 * (X ^ (i + 1) * X ^ (j - i - 1))) := Nat.mul_le_mul_left _ (Nat.mul_le_mul_left _ (Nat.mul_le_mul_left _ h1))
    have h2 := (hw0 (j + 1) (by omega)).sub h
    refine h2.mono ?_
    have h8 : j * (T * (9 ^ 8 * X ^ j)) ≤ 8 * (T * (9 ^ 8 * X ^ j)) := Nat.mul_le_mul_right _ (by omega)
    have e : 8 * (T * (9 ^ 8 * X ^ j)) = (8 * 9 ^ 8 * T) * X ^ j := by simp only [Nat.mul_assoc, Nat.mul_left_comm, Nat.mul_comm]
    have hTj : T ^ (j + 1) ≤ T * X ^ j := by
      rw [Nat.pow_succ, Nat.mul_comm]
      exact Nat.mul_le_mul_left _ (Nat.pow_le_pow_left hT j)
    have e3 : T * X ^ j + (8 * 9 ^ 8 * T) * X ^ j = ((1 + 8 * 9 ^ 8) * T) * X ^ j := by
      rw [Nat.add_mul, Nat.one_mul, Nat.add_mul]
    have h9 : ((1 + 8 * 9 ^ 8) * T) * X ^ j ≤ X * X ^ j := Nat.mul_le_mul_right _ (Nat.le_trans (Nat.mul_le_mul_right _ (by decide)) hX)
    have eX : X ^ (j + 1) = X * X ^ j := by rw [Nat.pow_succ, Nat.mul_comm]
    rw [eX]
    omega
theorem dvd_gz {L M : Nat} {q : Rat} (hd : q.den ∣ L) (hn : q.num.natAbs ≤ M) (hM : 1 ≤ M) (i : Nat) : Gz L (i + 1) ((M * L) ^ (i + 1)) q := by
  obtain ⟨k, hk⟩ := hd
  have h1 : Gz L 1 (M * L) q := by
    refine ⟨q.num * (k : Int), ?_, ?_⟩
    · rw [Nat.pow_one, hk, Rat.intCast_mul, Rat.natCast_mul, Rat.intCast_natCast]
      have e : q * (q.den : Rat) = (q.num : Rat) := by
        have := Rat.num_divInt_den q
        rw [Rat.divInt_eq_div] at this
        have hz : (q.den : Rat) ≠ 0 := fun e => by
          have : ((q.den : Nat) : Rat) = ((0 : Nat) : Rat) := e
          exact q.den_nz (Rat.natCast_inj.mp this)
        rw [Rat.intCast_natCast] at this
        grind
      grind
    · rw [Int.natAbs_mul, Int.natAbs_natCast]
      have : k ≤ L := by
        rw [hk]
        exact Nat.le_mul_of_pos_left _ (Nat.pos_of_ne_zero q.den_nz)
      exact Nat.mul_le_mul hn this
  have h2 := h1.up i
  rw [Nat.add_comm 1 i] at h2
  refine h2.mono ?_
  rw [Nat.pow_succ, Nat.mul_comm ((M * L) ^ i)]
  exact Nat.mul_le_mul_left _ (Nat.pow_le_pow_left (Nat.le_mul_of_pos_left _ hM) i)
def prodD : List Rat → Nat
  | [] => 1
  | q :: l => q.den * prodD l
theorem prodD_pos : ∀ l, 0 < prodD l
  | [] => by decide
  | q :: l => Nat.mul_pos (Nat.pos_of_ne_zero q.den_nz) (prodD_pos l)
theorem prodD_le {M : Nat} : ∀ l : List Rat, (∀ q ∈ l, q.den ≤ M) → prodD l ≤ M ^ l.length
  | [], _ => Nat.le_refl _
  | q :: l, h => by
    rw [List.length_cons, Nat.pow_succ, Nat.mul_comm]
    exact Nat.mul_le_mul (h q List.mem_cons_self) (prodD_le l fun r hr => h r (List.mem_cons_of_mem _ hr))
theorem prodD_dvd : ∀ {l : List Rat} {q : Rat}, q ∈ l → q.den ∣ prodD l
  | a :: l, q, h => by
    rcases List.mem_cons.mp h with e | h
    · rw [e]; exact Nat.dvd_mul_right _ _
    · exact Nat.dvd_trans (prodD_dvd h) (Nat.dvd_mul_left _ _)
/-- numbers that may be handed in: up to eight -/
def Lt (M : Nat) (q : Rat) : Prop := q.num.natAbs ≤ M ∧ q.den ≤ M
structure Env (L T X : Nat) : Prop where
  pos : 0 < L
  x : 2 ^ 30 * T ≤ X
  c : 2 ^ 40 * X ^ 8 < 2 ^ 100000
  l : L ^ 8 < 2 ^ 100000
  x1 : 1 ≤ X
theorem env_of {l : List Rat} (hl : l.length ≤ 8) (h : ∀ q ∈ l, Lt (2 ^ 101) q) : ∃ L T X, Env L T X ∧ ∀ i, i < l.length → Gz L (i + 1) (T ^ (i + 1)) (gt oQ l i) := by
  have h1 : prodD l ≤ (2 ^ 101) ^ 8 := Nat.le_trans (prodD_le l fun q hq => (h q hq).2) (Nat.pow_le_pow_right (by decide) hl)
  rw [← Nat.pow_mul] at h1
  have hT : 2 ^ 101 * prodD l ≤ 2 ^ 909 := by
    have : 2 ^ 101 * prodD l ≤ 2 ^ 101 * 2 ^ (101 * 8) := Nat.mul_le_mul_left _ h1
    rw [← Nat.pow_add] at this
    exact this
  have hX : 2 ^ 30 * (2 ^ 101 * prodD l) ≤ 2 ^ 939 := by
    have : 2 ^ 30 * (2 ^ 101 * prodD l) ≤ 2 ^ 30 * 2 ^ 909 := Nat.mul_le_mul_left _ hT
    rw [← Nat.pow_add] at this
    exact this
  refine ⟨prodD l, 2 ^ 101 * prodD l, 2 ^ 939, ⟨prodD_pos l, hX, ?_, ?_, Nat.pow_pos (by decide)⟩, fun i hi => ?_⟩
  · rw [← Nat.pow_mul, ← Nat.pow_add]
    exact Nat.pow_lt_pow_right (by decide) (by decide)
  · have := Nat.pow_le_pow_left h1 8
    rw [← Nat.pow_mul] at this
    exact Nat.lt_of_le_of_lt this (Nat.pow_lt_pow_right (by decide) (by decide))
  · have hm : gt oQ l i ∈ l := by
      have := gt_at oQ (l := l) hi
      exact List.mem_of_getElem? this
    exact dvd_gz (prodD_dvd hm) (h _ hm).1 (Nat.pow_pos (by decide)) i
theorem bc_step : ∀ n k : Nat, n ≤ 8 → k < n → bc n k * (n - k) / (k + 1) = bc n (k + 1) := by
  have key : ∀ (n : Fin 9) (k : Fin 9), k.val < n.val → bc n.val k.val * (n.val - k.val) / (k.val + 1) = bc n.val (k.val + 1) := by decide
  exact fun n k hn hk => key ⟨n, by omega⟩ ⟨k, by omega⟩ hk
end Means

/-! ## B2 -/
set_option Elab.async false
set_option linter.all false
set_option maxRecDepth 100000
set_option maxHeartbeats 4000000
set_option autoImplicit false
namespace K82
open PySem L2 Fz K80 Means
variable {P : Program} {w : World} {K : PySem.W.Frag} {mg : Str → Option Value} {base : Heap} {f : Addr} {fd : FuncData}
abbrev dv (d : PyData) : Option AD := some (.d d)
abbrev rv (q : Rat) : Option AD := some (.d (frQ q))
abbrev lref (p : Addr) : Option AD := some (.v (.ref p))
theorem _root_.Means.Gz.sz {L T X n c : Nat} {q : Rat} (h : Gz L n c q) (e : Env L T X) (hn : n ≤ 8) (hc : c ≤ 2 ^ 40 * X ^ 8) : Sz q := by
  obtain ⟨h1, h2⟩ := h.size e.pos
  have h3 : L ^ n ≤ L ^ 8 := Nat.pow_le_pow_right e.pos hn
  have := e.c
  have := e.l
  refine ⟨?_, ?_⟩
  · unfold Bd; omega
  · unfold Bd; rw [Int.natAbs_natCast]; omega
section
variable {B : Bg} {ε : Eps} {L La Lb : Own} {te ta tb : TE} {E : XK} {q r : Rat}
theorem ex_plus (h : EX B ta ε L (.d (frQ q)) La) (h2 : EX B tb ε La (.d (frQ r)) Lb) (hs : Sz q ∧ Sz r) : EX B (tCall (S_fraction_plus B.K) [] E (tCons ta (tCons tb tNil))) ε L (.d (frQ (q + r))) Lb :=
  ex_of (e := frQ) fun κ k => w_callD (wa_x h (wa_x h2 (wa_nil ⟨(q, r), rfl, hs, fun x hx => hx ▸ k⟩)))
theorem ex_less (h : EX B ta ε L (.d (frQ q)) La) (h2 : EX B tb ε La (.d (frQ r)) Lb) (hs : Sz q ∧ Sz r) : EX B (tCall (S_fraction_less B.K) [] E (tCons ta (tCons tb tNil))) ε L (.d (frQ (q - r))) Lb :=
  ex_of (e := frQ) fun κ k => w_callD (wa_x h (wa_x h2 (wa_nil ⟨(q, r), rfl, hs, fun x hx => hx ▸ k⟩)))
theorem ex_times (h : EX B ta ε L (.d (frQ q)) La) (h2 : EX B tb ε La (.d (frQ r)) Lb) (hs : Sz q ∧ Sz r) : EX B (tCall (S_fraction_times B.K) [] E (tCons ta (tCons tb tNil))) ε L (.d (frQ (q * r))) Lb :=
  ex_of (e := frQ) fun κ k => w_callD (wa_x h (wa_x h2 (wa_nil ⟨(q, r), rfl, hs, fun x hx => hx ▸ k⟩)))
end
theorem frQ_int (i : Int) : frQ (i : Rat) = .tuple [.int i, .int 1] := by
  unfold frQ
  rw [Rat.num_intCast, Rat.den_intCast]; rfl
theorem ex_frI {B : Bg} {ε : Eps} {L : Own} {ta : TE} {La : Own} {i : Int} (h : EX B ta ε L (.d (.int i)) La) : EX B (tTup (tCons ta (tCons (tC (.int 1)) tNil))) ε L (.d (frQ (i : Rat))) La := ex_is (ex_tup (ds := [.int i, .int 1]) (ea_cons h (ea_cons ex_cI ea_nil)) (Nat.le_of_ble_eq_true rfl)) (by rw [frQ_int])
theorem map_at {α : Type} {e : α → PyData} {l : List α} {n : Nat} {d : PyData} (h : (l.map e)[n]? = some d) : ∃ a, l[n]? = some a ∧ d = e a := by
  rw [List.getElem?_map] at h
  cases hp : l[n]? with
  | none => rw [hp] at h; cases h
  | some a => rw [hp] at h; cases h; exact ⟨a, rfl, rfl⟩
theorem filter_yes {α : Type} (l : List α) : l.filter (fun _ => true) = l := List.filter_eq_self.mpr fun _ _ => rfl
theorem gt_some {l : List Rat} {i : Nat} {a : Rat} (h : l[i]? = some a) : gt oQ l i = a := by
  unfold gt
  rw [List.getD_eq_getElem?_getD, h]; rfl
structure SumOk (l : List Rat) : Prop where
  len : l.length ≤ 1000
  part : ∀ i, i ≤ l.length → Sz (smR oQ (gt oQ l) i)
  each : ∀ q ∈ l, Sz q
abbrev S_fraction_sum (K : PySem.W.Frag) : Sp := spD K (fun l : List Rat => [eL frQ l]) SumOk frQ (fun l x => x = smR oQ (gt oQ l) l.length)
theorem okd_fraction_sum (Fn : Fun K "fraction_sum" "fraction_sum" s_fraction_sum f fd) (T : Bt P mg base) (D_fraction_plus : Df P w K mg base 43 "fraction_plus" ["one", "other"] (S_fraction_plus K)) : FnOk P w K mg base CX0 44 f fd ["some"] (S_fraction_sum K) := by
  refine fn_D Fn sc_fraction_sum (by decide) (fun _ => rfl) fun cdv A outer s H E hr => ⟨_, (pss_cons (ps_set (i := 1) sc_fraction_sum.nd rfl (.inl rfl) (pe_tup (pa_cons pe_int (pa_cons pe_int pa_nil))))
      (pss_cons (ps_for PassesOwn.never rfl (pi_list (pv 0)) (pg_name (i := 2) sc_fraction_sum.nd rfl (Or.inl rfl)) (pss_one (ps_set (i := 1) sc_fraction_sum.nd rfl (.inl rfl) (pe_callD D_fraction_plus (hr.mono (by decide)) (by rfl) (pa_cons (pv 1) (pa_cons (pv 2) pa_nil))))))
      (pss_one (ps_ret (pv 1))))), ?_⟩
  rintro B Q l rfl hl q
  show Ho B _ [dv (eL frQ l), none, none] []
  refine x_seq (x_set (a := .d (frQ ((0 : Int) : Rat))) (ex_frI ex_cI) ?_)
  refine x_sq (x_forL (ds := l.map frQ) (ex_v rfl) (fun v i ε L => ε = [dv (eL frQ l), rv (smR oQ (gt oQ l) i), none] ∧ L = [.know v (.list (l.map frQ))]) (fun v => ⟨rfl, rfl⟩) (fun v i ε' L' ⟨_, h⟩ => by rw [h]; simp) ?_ ?_)
  · rintro v i d ε' L' hd ⟨rfl, rfl⟩
    obtain ⟨a, ha, rfl⟩ := map_at hd
    have hi := (List.getElem?_eq_some_iff.mp ha).1
    refine ⟨_, gt_name, x_set (a := .d (frQ (smR oQ (gt oQ l) (i + 1)))) (ex_is (ex_plus (ex_v rfl) (ex_v rfl) ⟨hl.part i (by omega), hl.each a (List.mem_of_getElem? ha)⟩) ?_) (nxt (x_end ⟨rfl, rfl⟩))⟩
    show AD.d (frQ (smR oQ (gt oQ l) i + a)) = AD.d (frQ (smR oQ (gt oQ l) i + gt oQ l i))
    rw [gt_some ha]
  · rintro v ε' L' ⟨rfl, rfl⟩
    rw [List.length_map]
    exact nxt (x_retD q (wv_of (ex_v rfl) rfl))
abbrev S_chosen_count (K : PySem.W.Frag) : Sp := spD K (fun y : Nat × Nat => [.int (y.1 : Int), .int (y.2 : Int)]) (fun y => y.1 ≤ 8 ∧ y.2 ≤ y.1) PyData.int (fun y x => x = (bc y.1 y.2 : Int))
theorem bc_bd {n k : Nat} (hn : n ≤ 8) : Bd 20 (bc n k : Int) := by
  have h1 := bc_le n k
  have h2 : 2 ^ n ≤ 2 ^ 8 := Nat.pow_le_pow_right (by decide) hn
  unfold Bd
  rw [Int.natAbs_natCast]
  exact Nat.lt_of_le_of_lt (Nat.le_trans h1 h2) (by decide)
theorem okd_chosen_count (Fn : Fun K "chosen_count" "chosen_count" s_chosen_count f fd) (T : Bt P mg base)  : FnOk P w K mg base CX0 41 f fd ["many", "some"] (S_chosen_count K) := by
  refine fn_D Fn sc_chosen_count (by decide) (fun _ => rfl) fun cdv A outer s H E hr => ⟨_, (pss_cons (ps_set (i := 2) sc_chosen_count.nd rfl (.inl rfl) pe_int)
      (pss_cons (ps_for PassesOwn.never rfl (pi_range1 (by rfl) T.n_range (pa_cons (pv 1) pa_nil)) (pg_name (i := 3) sc_chosen_count.nd rfl (Or.inl rfl)) (pss_one (ps_set (i := 2) sc_chosen_count.nd rfl (.inl rfl) (pe_op op_fdivW (pe_op op_mulW (pv 2) (pe_op op_sub (pv 0) (pv 3))) (pe_op op_add (pv 3) pe_int)))))
      (pss_one (ps_ret (pv 2))))), ?_⟩
  rintro B Q ⟨n, k⟩ rfl ⟨hn, hk⟩ q
  dsimp only at hn hk q
  show Ho B _ [iv (n : Int), iv (k : Int), none, none] []
  refine x_seq (x_set (a := .d (.int 1)) ex_cI ?_)
  refine x_sq (x_forR1 (n := (k : Int)) (ea_cons (ex_v rfl) ea_nil) (by omega) (fun i ε L => ε = [iv (n : Int), iv (k : Int), iv (bc n i : Int), none] ∧ L = []) ⟨by cases n <;> rfl, rfl⟩ ?_ ?_)
  · rintro i ε' L' hi ⟨rfl, rfl⟩
    have hi : i < k := by omega
    have hb := bc_bd (k := i) hn
    refine x_set (a := .d (.int (bc n (i + 1) : Int))) (ex_int (ex_fdiv (ex_mul (ex_v rfl) (ex_sub (ex_v rfl) (ex_v rfl)) (cmul hb (Bd.of (k := 10) (n := 1000) (by omega) (by omega) (by decide)) (by decide))) (ex_add (ex_v rfl) ex_cI) (cdiv (b := 10) (by omega) (Bd.of (n := 1000) (by omega) (by omega) (by decide)) (by decide))) ?_) (nxt (x_end ⟨rfl, rfl⟩))
    rw [← bc_step n i hn (by omega)]
    have e : ((n : Int) - (i : Int)) = ((n - i : Nat) : Int) := by omega
    rw [e]
    simp
  · rintro ε' L' ⟨rfl, rfl⟩
    exact nxt (x_retD q (wv_of (x := (bc n k : Int)) (ex_v rfl) rfl))
end K82

/-! ## B3 -/
set_option Elab.async false
set_option linter.all false
set_option maxRecDepth 100000
set_option maxHeartbeats 4000000
set_option autoImplicit false
namespace K82
open PySem L2 Fz K80 Means
variable {P : Program} {w : World} {K : PySem.W.Frag} {mg : Str → Option Value} {base : Heap} {f : Addr} {fd : FuncData}
theorem gt_map {f : Nat → Rat} {n i : Nat} (h : i < n) : gt oQ ((List.range n).map f) i = f i := by
  unfold gt
  rw [List.getD_eq_getElem?_getD, List.getElem?_map, List.getElem?_range h]; rfl
theorem gt_out {l : List Rat} {i : Nat} (h : l.length ≤ i) : gt oQ l i = 0 := by
  unfold gt
  rw [List.getD_eq_getElem?_getD, List.getElem?_eq_none h]; rfl
def WOk (L X : Nat) (ws : List Rat) : Prop := ∀ i, i ≤ 8 → Gz L i (X ^ i) (gt oQ ws i)
theorem pow_le8 {X j : Nat} (h : 1 ≤ X) (hj : j ≤ 8) : X ^ j ≤ X ^ 8 := Nat.pow_le_pow_right h hj
theorem pow9 {t : Nat} (h : t ≤ 8) : 9 ^ t ≤ 9 ^ 8 := Nat.pow_le_pow_right (by decide) h
theorem big_le {c m X : Nat} (hc : c ≤ 2 ^ 40) (hm : m ≤ X) : c * m ≤ 2 ^ 40 * X := Nat.mul_le_mul hc hm
section
variable {B : Bg} {ε : Eps} {L La Lb Lc : Own} {te ta tb tc : TE} {E : XK} {l : List Rat} {x : AD}
theorem ex_fsum (h : EX B te ε L (.d (eL frQ l)) La) (hl : SumOk l) : EX B (tCall (S_fraction_sum B.K) [] E (tCons te tNil)) ε L (.d (frQ (smR oQ (gt oQ l) l.length))) La :=
  ex_of (e := frQ) fun κ k => w_callD (wa_x h (wa_nil ⟨l, rfl, hl, fun x hx => hx ▸ k⟩))
end
theorem row0 (w : Nat → Rat) : ∀ n, (List.range (n + 1)).map (rowG oQ w 0) = ((1 : Int) : Rat) :: List.replicate n ((0 : Int) : Rat)
  | 0 => rfl
  | n + 1 => by
    rw [List.range_succ, List.map_append, row0 w n, List.map_singleton]
    have e : rowG oQ w 0 (n + 1) = ((0 : Int) : Rat) := if_neg (by omega)
    rw [e, List.cons_append, List.replicate_succ' (n := n)]
theorem rep1 {α : Type} (x : α) : ∀ n, (List.replicate n [x]).flatten = List.replicate n x
  | 0 => rfl
  | n + 1 => by rw [List.replicate_succ, List.replicate_succ, List.flatten_cons, rep1 x n]; rfl
structure GapOk (y : List Rat × Nat × Nat) : Prop where
  ex : ∃ L T X, Env L T X ∧ WOk L X y.1
  gaps : y.2.1 ≤ 8
  rest : y.2.2 ≤ 8
  len : y.2.2 < y.1.length
abbrev S_gap_share (K : PySem.W.Frag) : Sp := spD K (fun y : List Rat × Nat × Nat => [eL frQ y.1, .int (y.2.1 : Int), .int (y.2.2 : Int)]) GapOk frQ (fun y x => x = rowG oQ (gt oQ y.1) y.2.1 y.2.2)
theorem okd_gap_share (Fn : Fun K "gap_share" "gap_share" s_gap_share f fd) (T : Bt P mg base) (D_fraction_sum : Df P w K mg base 44 "fraction_sum" ["some"] (S_fraction_sum K)) (D_fraction_times : Df P w K mg base 43 "fraction_times" ["one", "other"] (S_fraction_times K)) : FnOk P w K mg base CX0 45 f fd ["wholes", "gaps", "rest"] (S_gap_share K) := by
  refine fn_D Fn sc_gap_share (by decide) (fun _ => rfl) fun cdv A outer s H E hr => ⟨_, (pss_cons (ps_set (i := 3) sc_gap_share.nd rfl (.inr rfl) (pe_op op_cat (pe_lst (pa_cons (pe_tup (pa_cons pe_int (pa_cons pe_int pa_nil))) pa_nil)) (pe_op op_rep (pe_lst (pa_cons (pe_tup (pa_cons pe_int (pa_cons pe_int pa_nil))) pa_nil)) (pv 2))))
      (pss_cons (ps_for PassesOwn.never rfl (pi_range1 (by rfl) T.n_range (pa_cons (pv 1) pa_nil)) (pg_name (i := 4) sc_gap_share.nd rfl (Or.inl rfl)) (pss_cons (ps_set (i := 5) sc_gap_share.nd rfl (.inl rfl) (pe_lst pa_nil))
      (pss_cons (ps_for PassesOwn.never rfl (pi_range1 (by rfl) T.n_range (pa_cons (pe_op op_add (pv 2) pe_int) pa_nil)) (pg_name (i := 6) sc_gap_share.nd rfl (Or.inr rfl)) (pss_one (ps_expr (pe_bm PySem.F.plainAttrs_list PySem.F.slot_list_append PySem.F.type_list_append mt_append (pv 5) (pa_cons (pe_callD D_fraction_sum (hr.mono (by decide)) (by rfl) (pa_cons (pe_lc (own := [("own", 7)]) rfl sc_gap_share.nd (pi_range1 (by rfl) T.n_range (pa_cons (pe_op op_add (pv 6) pe_int) pa_nil)) (blkOk_by (own := [("own", 7)]) (N := ["wholes", "gaps", "rest", "row", "turn", "longer", "whole", "own"]) (sc := defScope s_gap_share) (by decide +kernel)) (fun _ _ _ _ _ => (pg_name (i := 7) sc_gap_share.nd rfl (Or.inl rfl))) (fun _ _ _ _ _ => pts_nil) (fun _ _ _ _ _ => (pe_callD D_fraction_times (hr.mono (by decide)) (by rfl) (pa_cons (pe_ix (r := rIxL K) ix_list (pv 3) (pv 7) (fun _ _ => rfl)) (pa_cons (pe_ix (r := rIxL K) ix_list (pv 0) (pe_op op_sub (pv 6) (pv 7)) (fun _ _ => rfl)) pa_nil))))) pa_nil)) pa_nil)))))
      (pss_one (ps_set (i := 3) sc_gap_share.nd rfl (.inr rfl) (pe_callTy (r := rListOf K) call_list_of (by rfl) T.n_list (by decide +kernel) (pa_cons (pv 5) pa_nil)))))))
      (pss_one (ps_ret (pe_ix (r := rIxL K) ix_list (pv 3) (pv 2) (fun _ _ => rfl)))))), ?_⟩
  rintro B Q ⟨ws, gaps, rest⟩ rfl ⟨⟨L, T, X, he, hw⟩, hg, hr, hlen⟩ q
  dsimp only at hw hg hr hlen q
  show Ho B _ [dv (eL frQ ws), iv (gaps : Int), iv (rest : Int), none, none, none, none, none] []
  have hrow := row_gz (A := X) hw
  have sz8 : ∀ {c j : Nat} {z : Rat}, Gz L j (c * X ^ j) z → j ≤ 8 → c ≤ 2 ^ 40 → Sz z := fun h hj hc => h.sz he hj (big_le hc (pow_le8 he.x1 hj))
  have rsz : ∀ t j, t ≤ 8 → j ≤ 8 → Sz (rowG oQ (gt oQ ws) t j) := fun t j ht hj => sz8 (hrow t j hj) hj (Nat.le_trans (pow9 ht) (by decide))
  have wsz : ∀ j, j ≤ 8 → Sz (gt oQ ws j) := fun j hj => sz8 (c := 1) (by rw [Nat.one_mul]; exact hw j hj) hj (by decide)
  refine x_seq (x_set (a := .d (eL frQ ((List.range (rest + 1)).map (rowG oQ (gt oQ ws) 0)))) (ex_is (ex_frz (en_cat (ds := [frQ ((1 : Int) : Rat)]) (es := (List.replicate rest [frQ ((0 : Int) : Rat)]).flatten) (ex_frz (en_lst (ds := [frQ ((1 : Int) : Rat)]) (ea_cons (ex_frI ex_cI) ea_nil) (Nat.le_of_ble_eq_true rfl))) (ex_frz (en_repL (ds := [frQ ((0 : Int) : Rat)]) (n := rest) (ex_frz (en_lst (ds := [frQ ((0 : Int) : Rat)]) (ea_cons (ex_frI ex_cI) ea_nil) (Nat.le_of_ble_eq_true rfl))) (ex_v rfl) .d (by show 1 * rest ≤ 100000; omega) (by omega))) .d .d (by rw [rep1, List.length_replicate]; show 1 + rest ≤ 100000; omega))) (by rw [row0, rep1]; unfold eL; rw [List.map_cons, List.map_replicate]; rfl)) ?_)
  refine x_sq (x_forR1 (n := (gaps : Int)) (ea_cons (ex_v rfl) ea_nil) (by omega) (fun t ε L => ε = [dv (eL frQ ws), iv (gaps : Int), iv (rest : Int), dv (eL frQ ((List.range (rest + 1)).map (rowG oQ (gt oQ ws) t))), none, none, none, none] ∧ L = []) ⟨rfl, rfl⟩ ?_ ?_)
  · rintro t ε' L' ht ⟨rfl, rfl⟩
    have ht : t < gaps := by omega
    refine x_seq (x_setN (en_lst (ds := []) ea_nil (Nat.zero_le _)) fun p hp => ?_)
    refine x_sq (x_forR1 (n := (rest : Int) + 1) (ea_cons (ex_add (ex_v rfl) ex_cI) ea_nil) (by omega) (fun i ε L => ε = [dv (eL frQ ws), iv (gaps : Int), iv (rest : Int), dv (eL frQ ((List.range (rest + 1)).map (rowG oQ (gt oQ ws) t))), iv (t : Int), lref p, none, none] ∧ L = [.lst p ((List.range i).map fun j => frQ (rowG oQ (gt oQ ws) (t + 1) j))]) ⟨rfl, rfl⟩ ?_ ?_)
    · rintro i ε' L' hi ⟨rfl, rfl⟩
      have hi : i ≤ rest := by omega
      have term : ∀ o, o < i + 1 → Gz L i (9 ^ t * X ^ i) (rowG oQ (gt oQ ws) t o * gt oQ ws (i - o)) := fun o ho => by
        have h1 := (hrow t o (by omega)).mul (hw (i - o) (by omega))
        have e : o + (i - o) = i := by omega
        rw [e, Nat.mul_assoc, ← Nat.pow_add, e] at h1
        exact h1
      have hsum : SumOk ((List.range (i + 1)).map fun o => rowG oQ (gt oQ ws) t o * gt oQ ws (i - o)) := by
        refine ⟨by rw [List.length_map, List.length_range]; omega, fun m hm => ?_, fun z hz => ?_⟩
        · rw [List.length_map, List.length_range] at hm
          have h := sm_gz (L := L) (n := i) (c := 9 ^ t * X ^ i) (f := gt oQ ((List.range (i + 1)).map fun o => rowG oQ (gt oQ ws) t o * gt oQ ws (i - o))) (m := m) fun o ho => by
            rw [gt_map (by omega)]; exact term o (by omega)
          rw [← Nat.mul_assoc] at h
          exact sz8 h (by omega) (Nat.le_trans (Nat.mul_le_mul (show m ≤ 9 by omega) (pow9 (show t ≤ 8 by omega))) (by decide))
        · obtain ⟨o, ho, rfl⟩ := List.mem_map.mp hz
          exact sz8 (term o (List.mem_range.mp ho)) (by omega) (Nat.le_trans (pow9 (by omega)) (by decide))
      refine x_appW (e := frQ) (ex_v rfl) ⟨_, _, .z⟩ (wv_of (x := rowG oQ (gt oQ ws) (t + 1) i) (ex_is (ex_fsum (ex_is (ex_frz (en_lcR1P (n := (i : Int) + 1) (fun _ => true) (fun o => frQ (rowG oQ (gt oQ ws) t o * gt oQ ws (i - o))) (ea_cons (ex_add (ex_v rfl) ex_cI) ea_nil) (by omega) (by simp) (fun o m ho => et_yes) (fun o m ho _ => ?_))) ?_) hsum) ?_) ⟨_, _, .z, by rw [List.length_map, List.length_range]; omega, nxt (x_end ⟨rfl, ?_⟩)⟩)
      · have ho : o ≤ i := by omega
        exact ex_times (ex_atl (e := frQ) (xs := (List.range (rest + 1)).map (rowG oQ (gt oQ ws) t)) (n := o) (ex_v rfl) (ex_v rfl) .d rfl (by rw [List.getElem?_map, List.getElem?_range (by omega)]; rfl)) (ex_atl (e := frQ) (xs := ws) (n := i - o) (ex_v rfl) (ex_sub (ex_v rfl) (ex_v rfl)) .d (by omega) (gt_at oQ (by omega))) ⟨rsz t o (by omega) (by omega), wsz _ (by omega)⟩
      · have e : ((i : Int) + 1).toNat = i + 1 := by omega
        rw [filter_yes, e]
        unfold eL
        rw [List.map_map]; rfl
      · rw [List.length_map, List.length_range]
        refine congrArg (fun z => AD.d (frQ z)) ?_
        exact sm_congr oQ fun o ho => gt_map ho
      · rw [List.range_succ, List.map_append]; rfl
    · rintro ε' L' ⟨rfl, rfl⟩
      have e : ((rest : Int) + 1).toNat = rest + 1 := by omega
      rw [e]
      refine nxt (x_set (a := .d (eL frQ ((List.range (rest + 1)).map (rowG oQ (gt oQ ws) (t + 1))))) (ex_is (ex_frz (en_list (ds := (List.range (rest + 1)).map fun j => frQ (rowG oQ (gt oQ ws) (t + 1) j)) (ex_v rfl) (.o (k := 0) rfl))) (by unfold eL; rw [List.map_map]; rfl)) ?_)
      exact nxt (ho_off hp (x_end ⟨rfl, rfl⟩))
  · rintro ε' L' ⟨rfl, rfl⟩
    rw [Int.toNat_natCast]
    exact nxt (x_retD q (wv_of (x := rowG oQ (gt oQ ws) gaps rest) (ex_atl (e := frQ) (xs := (List.range (rest + 1)).map (rowG oQ (gt oQ ws) gaps)) (n := rest) (ex_v rfl) (ex_v rfl) .d rfl (by rw [List.getElem?_map, List.getElem?_range (by omega)]; rfl)) rfl))
end K82

/-! ## B4 -/
set_option Elab.async false
set_option linter.all false
set_option maxRecDepth 100000
set_option maxHeartbeats 4000000
set_option autoImplicit false
namespace K82
open PySem L2 Fz K80 Means
variable {P : Program} {w : World} {K : PySem.W.Frag} {mg : Str → Option Value} {base : Heap} {f : Addr} {fd : FuncData}
def kS : Means.Kind → Str
  | .all => "all"
  | .rows => "rows"
  | .unc => "uncrossed"
def eK (k : Means.Kind) : PyData := .str (kS k)
abbrev kv (k : Means.Kind) : Option AD := dv (eK k)
structure RestOk (y : Means.Kind × List Rat × Nat × Nat) : Prop where
  ex : ∃ L T X, Env L T X ∧ WOk L X y.2.1
  size : 1 ≤ y.2.2.1 ∧ y.2.2.1 ≤ y.2.2.2
  many : y.2.2.2 ≤ 8
  len : y.2.2.2 - y.2.2.1 < y.2.1.length
abbrev S_rest_share (K : PySem.W.Frag) : Sp := spD K (fun y : Means.Kind × List Rat × Nat × Nat => [eK y.1, eL frQ y.2.1, .int (y.2.2.1 : Int), .int (y.2.2.2 : Int)]) RestOk frQ (fun y x => x = restS oQ y.1 (gt oQ y.2.1) y.2.2.1 y.2.2.2)
section
variable {B : Bg} {ε : Eps} {L La Lb Lc : Own} {te ta tb tc : TE} {E : XK}
theorem ex_kind {k : Means.Kind} {s : Str} (h : EX B te ε L (.d (eK k)) La) : EX B (tOp rEq te (tC (.str s))) ε L (.d (.bool (decide (kS k = s)))) La := ex_eqS h ex_cS
theorem ex_gap {ws : List Rat} {g r : Nat} (h : EX B ta ε L (.d (eL frQ ws)) La) (h2 : EX B tb ε La (.d (.int (g : Int))) Lb) (h3 : EX B tc ε Lb (.d (.int (r : Int))) Lc) (hg : GapOk (ws, g, r)) : EX B (tCall (S_gap_share B.K) [] E (tCons ta (tCons tb (tCons tc tNil)))) ε L (.d (frQ (rowG oQ (gt oQ ws) g r))) Lc :=
  ex_of (e := frQ) fun κ k => w_callD (wa_x h (wa_x h2 (wa_x h3 (wa_nil ⟨(ws, g, r), rfl, hg, fun x hx => hx ▸ k⟩))))
theorem ex_chosen {n k : Nat} {a b : Int} (h : EX B ta ε L (.d (.int a)) La) (h2 : EX B tb ε La (.d (.int b)) Lb) (ha : a = (n : Int)) (hb : b = (k : Int)) (hg : n ≤ 8 ∧ k ≤ n) : EX B (tCall (S_chosen_count B.K) [] E (tCons ta (tCons tb tNil))) ε L (.d (.int (bc n k : Int))) Lb := by
  subst ha hb
  exact ex_of (e := PyData.int) fun κ kk => w_callD (wa_x h (wa_x h2 (wa_nil ⟨(n, k), rfl, hg, fun x hx => hx ▸ kk⟩)))
end
theorem sz_int {i : Int} (h : Bd 90000 i) : Sz (i : Rat) := ⟨by rw [Rat.num_intCast]; exact h.mono (by decide), by rw [Rat.den_intCast]; exact (bd_one 10).mono (by decide)⟩
theorem okd_rest_share (Fn : Fun K "rest_share" "rest_share" s_rest_share f fd) (T : Bt P mg base) (D_fraction_times : Df P w K mg base 43 "fraction_times" ["one", "other"] (S_fraction_times K)) (D_gap_share : Df P w K mg base 45 "gap_share" ["wholes", "gaps", "rest"] (S_gap_share K)) (D_chosen_count : Df P w K mg base 41 "chosen_count" ["many", "some"] (S_chosen_count K)) : FnOk P w K mg base CX0 46 f fd ["kind", "wholes", "size", "many"] (S_rest_share K) := by
  refine fn_D Fn sc_rest_share (by decide) (fun _ => rfl) fun cdv A outer s H E hr => ⟨_, (pss_cons (ps_set (i := 4) sc_rest_share.nd rfl (.inl rfl) (pe_op op_sub (pv 3) (pv 2)))
      (pss_cons (ps_if (pt_cmpR op_eq (pv 0) pe_str (nomark _)) (pss_one (ps_ret (pe_callD D_fraction_times (hr.mono (by decide)) (by rfl) (pa_cons (pe_tup (pa_cons (pe_callD D_chosen_count (hr.mono (by decide)) (by rfl) (pa_cons (pe_op op_sub (pv 3) pe_int) (pa_cons (pe_op op_sub (pv 2) pe_int) pa_nil))) (pa_cons pe_int pa_nil))) (pa_cons (pe_ix (r := rIxL K) ix_list (pv 1) (pv 4) (fun _ _ => rfl)) pa_nil))))) pss_nil)
      (pss_one (ps_ret (pe_ifExp (pt_cmpR op_eq (pv 0) pe_str (nomark _)) (pe_ix (r := rIxL K) ix_list (pv 1) (pv 4) (fun _ _ => rfl)) (pe_callD D_gap_share (hr.mono (by decide)) (by rfl) (pa_cons (pv 1) (pa_cons (pv 2) (pa_cons (pv 4) pa_nil))))))))), ?_⟩
  rintro B Q ⟨k, ws, size, many⟩ rfl ⟨⟨L, T, X, he, hw⟩, hs, hm, hlen⟩ q
  dsimp only at hw hs hm hlen q
  show Ho B _ [kv k, dv (eL frQ ws), iv (size : Int), iv (many : Int), none] []
  refine x_seq (x_set (a := .d (.int ((many - size : Nat) : Int))) (ex_int (ex_sub (ex_v rfl) (ex_v rfl)) (by omega)) ?_)
  have wat : ∀ {ε : Eps} {L : Own}, ε[1]? = some (dv (eL frQ ws)) → ε[4]? = some (iv ((many - size : Nat) : Int)) → EX B (tOp (rIxL B.K) (tVar 1) (tVar 4)) ε L (.d (frQ (gt oQ ws (many - size)))) L := fun h h2 => ex_atl (e := frQ) (xs := ws) (n := many - size) (ex_v h) (ex_v h2) .d rfl (gt_at oQ hlen)
  have wsz : Sz (gt oQ ws (many - size)) := (hw _ (by omega)).sz he (by omega) (Nat.le_trans (pow_le8 he.x1 (by omega)) (Nat.le_mul_of_pos_left _ (by decide)))
  refine x_sq (x_if (et_test (ex_kind (ex_v rfl))) (fun hb => ?_) fun hb => ?_)
  · have hk : k = .all := by
      cases k with
      | all => rfl
      | rows => exact absurd (of_decide_eq_true hb) (by decide)
      | unc => exact absurd (of_decide_eq_true hb) (by decide)
    subst hk
    exact x_retD q (wv_of (ex_of (e := frQ) fun κ kk => w_callD (wa_x (ex_frI (ex_chosen (n := many - 1) (k := size - 1) (ex_sub (ex_v rfl) ex_cI) (ex_sub (ex_v rfl) ex_cI) (by omega) (by omega) ⟨by omega, by omega⟩)) (wa_x (wat rfl rfl) (wa_nil ⟨(((bc (many - 1) (size - 1) : Nat) : Int), gt oQ ws (many - size)), rfl, ⟨sz_int ((bc_bd (by omega)).mono (by decide)), wsz⟩, fun x hx => hx ▸ kk⟩)))) rfl)
  · refine x_next (nxt (x_retD q (wv_of (L' := []) (x := restS oQ k (gt oQ ws) size many) (ex_if (et_test (ex_kind (ex_v rfl))) (fun h => ?_) fun h => ?_) rfl)))
    · have hk : k = .rows := by
        cases k with
        | all => exact absurd (of_decide_eq_true h) (by decide)
        | rows => rfl
        | unc => exact absurd (of_decide_eq_true h) (by decide)
      subst hk
      exact wat rfl rfl
    · have hk : k = .unc := by
        cases k with
        | all => exact absurd (of_decide_eq_false hb) (fun z => z rfl)
        | rows => exact absurd (of_decide_eq_false h) (fun z => z rfl)
        | unc => rfl
      subst hk
      exact ex_gap (ex_v rfl) (ex_v rfl) (ex_v rfl) ⟨⟨L, T, X, he, hw⟩, by show size ≤ 8; omega, by show many - size ≤ 8; omega, hlen⟩
structure NextOk (y : Means.Kind × List Rat × List Rat × Nat) : Prop where
  ex : ∃ L T X, Env L T X ∧ WOk L X y.2.2.1 ∧ ∀ i, i < 8 → Gz L (i + 1) (X ^ (i + 1)) (gt oQ y.2.1 i)
  many : 1 ≤ y.2.2.2 ∧ y.2.2.2 ≤ 8
  len : y.2.2.2 ≤ y.2.2.1.length
  plen : y.2.1.length ≤ 8
theorem ex_rest {B : Bg} {ε : Eps} {L La Lb Lc Ld : Own} {ta tb tc td : TE} {E : XK} {k : Means.Kind} {ws : List Rat} {s m : Nat} {a b : Int} (h : EX B ta ε L (.d (eK k)) La) (h2 : EX B tb ε La (.d (eL frQ ws)) Lb) (h3 : EX B tc ε Lb (.d (.int a)) Lc) (h4 : EX B td ε Lc (.d (.int b)) Ld) (ha : a = (s : Int)) (hb : b = (m : Int)) (hg : RestOk (k, ws, s, m)) : EX B (tCall (S_rest_share B.K) [] E (tCons ta (tCons tb (tCons tc (tCons td tNil))))) ε L (.d (frQ (restS oQ k (gt oQ ws) s m))) Ld := by
  subst ha hb
  exact ex_of (e := frQ) fun κ kk => w_callD (wa_x h (wa_x h2 (wa_x h3 (wa_x h4 (wa_nil ⟨(k, ws, s, m), rfl, hg, fun x hx => hx ▸ kk⟩)))))
abbrev S_next_mean (K : PySem.W.Frag) : Sp := spD K (fun y : Means.Kind × List Rat × List Rat × Nat => [eK y.1, eT frQ y.2.1, eL frQ y.2.2.1, .int (y.2.2.2 : Int)]) NextOk frQ (fun y x => x = nextN oQ y.1 (gt oQ y.2.1) (gt oQ y.2.2.1) (min y.2.1.length y.2.2.2) y.2.2.2)
abbrev S_next_meanL (K : PySem.W.Frag) : Sp := spD K (fun y : Means.Kind × List Rat × List Rat × Nat => [eK y.1, eL frQ y.2.1, eL frQ y.2.2.1, .int (y.2.2.2 : Int)]) NextOk frQ (fun y x => x = nextN oQ y.1 (gt oQ y.2.1) (gt oQ y.2.2.1) (min y.2.1.length y.2.2.2) y.2.2.2)
/-- what a turn of a next mean needs -/
theorem next_sz {k : Means.Kind} {ps ws : List Rat} {many : Nat} (h : NextOk (k, ps, ws, many)) {i : Nat} (hi : i < many) : Sz (smR oQ (fun i => gt oQ ps i * restS oQ k (gt oQ ws) (i + 1) many) i) ∧ Sz (gt oQ ps i) ∧ Sz (restS oQ k (gt oQ ws) (i + 1) many) ∧ Sz (gt oQ ps i * restS oQ k (gt oQ ws) (i + 1) many) := by
  obtain ⟨⟨L, T, X, he, hw, hp⟩, hm, hl, hpl⟩ := h
  dsimp only at hw hp hm
  have t : ∀ i, i < many → Gz L many (9 ^ 8 * X ^ many) (gt oQ ps i * restS oQ k (gt oQ ws) (i + 1) many) := fun i hi => by
    have h1 := term_gz (C := fun i => X ^ (i + 1)) hw k (by omega) hi (hp i (by omega))
    have e : X ^ many = X ^ (i + 1) * X ^ (many - (i + 1)) := by rw [← Nat.pow_add]; congr 1; omega
    rw [e, Nat.mul_left_comm]
    exact h1
  have le : ∀ {c j : Nat}, c ≤ 2 ^ 40 → j ≤ 8 → c * X ^ j ≤ 2 ^ 40 * X ^ 8 := fun hc hj => big_le hc (pow_le8 he.x1 hj)
  refine ⟨?_, ?_, ?_, ?_⟩
  · have h := sm_gz (L := L) (n := many) (c := 9 ^ 8 * X ^ many) (f := fun i => gt oQ ps i * restS oQ k (gt oQ ws) (i + 1) many) (m := i) fun j hj => t j (by omega)
    rw [← Nat.mul_assoc] at h
    exact h.sz he (by omega) (le (Nat.le_trans (Nat.mul_le_mul_right _ (show i ≤ 8 by omega)) (by decide)) (by omega))
  · exact (hp i (by omega)).sz he (by omega) (Nat.le_trans (pow_le8 he.x1 (by omega)) (Nat.le_mul_of_pos_left _ (by decide)))
  · exact (rest_gz hw k (size := i + 1) (by omega) (by omega)).sz he (by omega) (le (by decide) (by omega))
  · exact (t i hi).sz he (by omega) (le (by decide) (by omega))
theorem cut_fr (ps : List Rat) (m : Nat) : cutD (ps.map frQ) none (some (m : Int)) = (ps.take m).map frQ := by
  have := cut_to frQ ps (i := (m : Int)) (by omega)
  rw [Int.toNat_natCast] at this
  exact this
theorem okd_next_mean (Fn : Fun K "next_mean" "next_mean" s_next_mean f fd) (T : Bt P mg base) (D_fraction_plus : Df P w K mg base 43 "fraction_plus" ["one", "other"] (S_fraction_plus K)) (D_fraction_times : Df P w K mg base 43 "fraction_times" ["one", "other"] (S_fraction_times K)) (D_rest_share : Df P w K mg base 46 "rest_share" ["kind", "wholes", "size", "many"] (S_rest_share K)) : FnOk P w K mg base CX0 47 f fd ["kind", "parts", "wholes", "many"] (S_next_mean K) := by
  refine fn_D Fn sc_next_mean (by decide) (fun _ => rfl) fun cdv A outer s H E hr => ⟨_, (pss_cons (ps_set (i := 4) sc_next_mean.nd rfl (.inl rfl) (pe_tup (pa_cons pe_int (pa_cons pe_int pa_nil))))
      (pss_cons (ps_for PassesOwn.never rfl (pi_enumT (by rfl) T.n_enumerate (pa_cons (pe_slice (r := rSlA K) sl_tupA (pv 1) po_none (po_some (pv 3))) pa_nil)) (pg_tup rfl (pgs_cons (pg_name (i := 5) sc_next_mean.nd rfl (Or.inl rfl)) (pgs_cons (pg_name (i := 6) sc_next_mean.nd rfl (Or.inl rfl)) pgs_nil))) (pss_one (ps_set (i := 4) sc_next_mean.nd rfl (.inl rfl) (pe_callD D_fraction_plus (hr.mono (by decide)) (by rfl) (pa_cons (pv 4) (pa_cons (pe_callD D_fraction_times (hr.mono (by decide)) (by rfl) (pa_cons (pv 6) (pa_cons (pe_callD D_rest_share (hr.mono (by decide)) (by rfl) (pa_cons (pv 0) (pa_cons (pv 2) (pa_cons (pe_op op_add (pv 5) pe_int) (pa_cons (pv 3) pa_nil))))) pa_nil))) pa_nil))))))
      (pss_one (ps_ret (pv 4))))), ?_⟩
  rintro B Q ⟨k, ps, ws, many⟩ rfl hok q
  have hm := hok.many
  have hl := hok.len
  have hpl := hok.plen
  obtain ⟨L, T, X, he, hw, hp⟩ := hok.ex
  dsimp only at hm hl hpl hw hp q
  show Ho B _ [kv k, dv (eT frQ ps), dv (eL frQ ws), iv (many : Int), none, none, none] []
  refine x_seq (x_set (a := .d (frQ ((0 : Int) : Rat))) (ex_frI ex_cI) ?_)
  refine x_sq (x_forET (ds := (ps.take many).map frQ) (ea_cons (ex_is (ex_take (e := frQ) (xs := ps) (ex_v rfl) (ex_v rfl) (by omega)) (by rw [Int.toNat_natCast]; rfl)) ea_nil) (fun v i ε L => ε = [kv k, dv (eT frQ ps), dv (eL frQ ws), iv (many : Int), rv (smR oQ (fun i => gt oQ ps i * restS oQ k (gt oQ ws) (i + 1) many) i), none, none] ∧ L = [.know v (.tuple ((ps.take many).map frQ))]) (fun v => ⟨rfl, rfl⟩) (fun v i ε' L' ⟨_, h⟩ => by rw [h]; simp) ?_ ?_)
  · rintro v i d ε' L' hd ⟨rfl, rfl⟩
    obtain ⟨a, ha, rfl⟩ := map_at hd
    have hi := (List.getElem?_eq_some_iff.mp ha).1
    rw [List.length_take] at hi
    rw [List.getElem?_take_of_lt (by omega)] at ha
    have hg := gt_some ha
    obtain ⟨s1, s2, s3, s4⟩ := next_sz hok (i := i) (by omega)
    subst hg
    refine ⟨_, gt_tup2 (d := .int (i : Int)) (e := frQ (gt oQ ps i)), x_set (a := .d (frQ (smR oQ (fun i => gt oQ ps i * restS oQ k (gt oQ ws) (i + 1) many) (i + 1)))) (ex_plus (ex_v rfl) (ex_times (ex_v rfl) (ex_rest (s := i + 1) (m := many) (ex_v rfl) (ex_v rfl) (ex_add (ex_v rfl) ex_cI) (ex_v rfl) rfl rfl ⟨⟨L, T, X, he, hw⟩, ⟨by show 1 ≤ i + 1; omega, by show i + 1 ≤ many; omega⟩, by show many ≤ 8; omega, by show many - (i + 1) < ws.length; omega⟩) ⟨s2, s3⟩) ⟨s1, s4⟩) (nxt (x_end ⟨rfl, rfl⟩))⟩
  · rintro v ε' L' ⟨rfl, rfl⟩
    rw [List.length_map, List.length_take, Nat.min_comm]
    exact nxt (x_retD q (wv_of (ex_v rfl) rfl))
theorem okd_next_meanL (Fn : Fun K "next_mean" "next_mean" s_next_mean f fd) (T : Bt P mg base) (D_fraction_plus : Df P w K mg base 43 "fraction_plus" ["one", "other"] (S_fraction_plus K)) (D_fraction_times : Df P w K mg base 43 "fraction_times" ["one", "other"] (S_fraction_times K)) (D_rest_share : Df P w K mg base 46 "rest_share" ["kind", "wholes", "size", "many"] (S_rest_share K)) : FnOk P w K mg base CX0 47 f fd ["kind", "parts", "wholes", "many"] (S_next_meanL K) := by
  refine fn_D Fn sc_next_mean (by decide) (fun _ => rfl) fun cdv A outer s H E hr => ⟨_, (pss_cons (ps_set (i := 4) sc_next_mean.nd rfl (.inl rfl) (pe_tup (pa_cons pe_int (pa_cons pe_int pa_nil))))
      (pss_cons (ps_for PassesOwn.never rfl (pi_enum (by rfl) T.n_enumerate (pa_cons (pe_slice (r := rSlL K) sl_list (pv 1) po_none (po_some (pv 3))) pa_nil)) (pg_tup rfl (pgs_cons (pg_name (i := 5) sc_next_mean.nd rfl (Or.inl rfl)) (pgs_cons (pg_name (i := 6) sc_next_mean.nd rfl (Or.inl rfl)) pgs_nil))) (pss_one (ps_set (i := 4) sc_next_mean.nd rfl (.inl rfl) (pe_callD D_fraction_plus (hr.mono (by decide)) (by rfl) (pa_cons (pv 4) (pa_cons (pe_callD D_fraction_times (hr.mono (by decide)) (by rfl) (pa_cons (pv 6) (pa_cons (pe_callD D_rest_share (hr.mono (by decide)) (by rfl) (pa_cons (pv 0) (pa_cons (pv 2) (pa_cons (pe_op op_add (pv 5) pe_int) (pa_cons (pv 3) pa_nil))))) pa_nil))) pa_nil))))))
      (pss_one (ps_ret (pv 4))))), ?_⟩
  rintro B Q ⟨k, ps, ws, many⟩ rfl hok q
  have hm := hok.many
  have hl := hok.len
  have hpl := hok.plen
  obtain ⟨L, T, X, he, hw, hp⟩ := hok.ex
  dsimp only at hm hl hpl hw hp q
  show Ho B _ [kv k, dv (eL frQ ps), dv (eL frQ ws), iv (many : Int), none, none, none] []
  refine x_seq (x_set (a := .d (frQ ((0 : Int) : Rat))) (ex_frI ex_cI) ?_)
  refine x_sq (x_forE (ds := (ps.take many).map frQ) (ea_cons (ex_frz (en_is (en_take (e := frQ) (xs := ps) (ex_v rfl) (ex_v rfl) .d (by omega)) (by rw [Int.toNat_natCast]))) ea_nil) (fun v i ε L => ε = [kv k, dv (eL frQ ps), dv (eL frQ ws), iv (many : Int), rv (smR oQ (fun i => gt oQ ps i * restS oQ k (gt oQ ws) (i + 1) many) i), none, none] ∧ L = [.know v (.list ((ps.take many).map frQ))]) (fun v => ⟨rfl, rfl⟩) (fun v i ε' L' ⟨_, h⟩ => by rw [h]; simp) ?_ ?_)
  · rintro v i d ε' L' hd ⟨rfl, rfl⟩
    obtain ⟨a, ha, rfl⟩ := map_at hd
    have hi := (List.getElem?_eq_some_iff.mp ha).1
    rw [List.length_take] at hi
    rw [List.getElem?_take_of_lt (by omega)] at ha
    have hg := gt_some ha
    obtain ⟨s1, s2, s3, s4⟩ := next_sz hok (i := i) (by omega)
    subst hg
    refine ⟨_, gt_tup2 (d := .int (i : Int)) (e := frQ (gt oQ ps i)), x_set (a := .d (frQ (smR oQ (fun i => gt oQ ps i * restS oQ k (gt oQ ws) (i + 1) many) (i + 1)))) (ex_plus (ex_v rfl) (ex_times (ex_v rfl) (ex_rest (s := i + 1) (m := many) (ex_v rfl) (ex_v rfl) (ex_add (ex_v rfl) ex_cI) (ex_v rfl) rfl rfl ⟨⟨L, T, X, he, hw⟩, ⟨by show 1 ≤ i + 1; omega, by show i + 1 ≤ many; omega⟩, by show many ≤ 8; omega, by show many - (i + 1) < ws.length; omega⟩) ⟨s2, s3⟩) ⟨s1, s4⟩) (nxt (x_end ⟨rfl, rfl⟩))⟩
  · rintro v ε' L' ⟨rfl, rfl⟩
    rw [List.length_map, List.length_take, Nat.min_comm]
    exact nxt (x_retD q (wv_of (ex_v rfl) rfl))
end K82

/-! ## B5 -/
set_option Elab.async false
set_option linter.all false
set_option maxRecDepth 100000
set_option maxHeartbeats 4000000
set_option autoImplicit false
namespace K82
open PySem L2 Fz K80 Means
variable {P : Program} {w : World} {K : PySem.W.Frag} {mg : Str → Option Value} {base : Heap} {f : Addr} {fd : FuncData}
structure RowL (ps : List Rat) : Prop where
  len : ps.length ≤ 8
  all : ∀ q ∈ ps, Lt (2 ^ 101) q
def meansL (k : Means.Kind) (ps : List Rat) : List Rat := (wl oQ k (gt oQ ps) ps.length).drop 1
def partsL (k : Means.Kind) (ms : List Rat) : List Rat := fl oQ k (gt oQ (((1 : Int) : Rat) :: ms)) ms.length
theorem up_gz {L T X : Nat} (he : Env L T X) {l : List Rat} (h : ∀ i, i < l.length → Gz L (i + 1) (T ^ (i + 1)) (gt oQ l i)) (i : Nat) : Gz L (i + 1) (X ^ (i + 1)) (gt oQ l i) := by
  by_cases c : i < l.length
  · exact (h i c).mono (Nat.pow_le_pow_left (by have := he.x; omega) _)
  · rw [gt_out (by omega)]
    exact gz_zero.mono (Nat.zero_le _)
abbrev S_means_of_parts (K : PySem.W.Frag) : Sp := spD K (fun y : Means.Kind × List Rat => [eK y.1, eT frQ y.2]) (fun y => RowL y.2) (eT frQ) (fun y x => x = meansL y.1 y.2)
abbrev S_parts_of_means (K : PySem.W.Frag) : Sp := spD K (fun y : Means.Kind × List Rat => [eK y.1, eT frQ y.2]) (fun y => RowL y.2) (eT frQ) (fun y x => x = partsL y.1 y.2)
theorem wl_ok {L T X : Nat} (he : Env L T X) {ps : List Rat} (hl : ps.length ≤ 8) (hp : ∀ i, i < ps.length → Gz L (i + 1) (T ^ (i + 1)) (gt oQ ps i)) (k : Means.Kind) {i : Nat} (hi : i ≤ ps.length) : WOk L X (wl oQ k (gt oQ ps) i) := fun j hj => by
  by_cases c : j ≤ i
  · rw [← wl_old oQ k (gt oQ ps) c hi]
    exact means_gz he.x hl hp k j (by omega)
  · rw [gt_out (by rw [wl_len]; omega)]
    exact gz_zero.mono (Nat.zero_le _)
theorem one_ok {L T X : Nat} (he : Env L T X) {ms : List Rat} (hp : ∀ i, i < ms.length → Gz L (i + 1) (T ^ (i + 1)) (gt oQ ms i)) : ∀ i, i ≤ 8 → Gz L i (T ^ i) (gt oQ (((1 : Int) : Rat) :: ms) i)
  | 0, _ => (gz_int 1).mono (by simp)
  | j + 1, _ => by
    show Gz L (j + 1) _ (gt oQ ms j)
    by_cases c : j < ms.length
    · exact hp j c
    · rw [gt_out (by omega)]
      exact gz_zero.mono (Nat.zero_le _)
theorem one_okX {L T X : Nat} (he : Env L T X) {ms : List Rat} (hp : ∀ i, i < ms.length → Gz L (i + 1) (T ^ (i + 1)) (gt oQ ms i)) : WOk L X (((1 : Int) : Rat) :: ms) := fun i hi => (one_ok he hp i hi).mono (Nat.pow_le_pow_left (by have := he.x; omega) _)
theorem okd_means_of_parts (Fn : Fun K "means_of_parts" "means_of_parts" s_means_of_parts f fd) (T : Bt P mg base) (D_next_mean : Df P w K mg base 47 "next_mean" ["kind", "parts", "wholes", "many"] (S_next_mean K)) : FnOk P w K mg base CX0 48 f fd ["kind", "parts"] (S_means_of_parts K) := by
  refine fn_D Fn sc_means_of_parts (by decide) (fun _ => rfl) fun cdv A outer s H E hr => ⟨_, (pss_cons (ps_set (i := 2) sc_means_of_parts.nd rfl (.inl rfl) (pe_lst (pa_cons (pe_tup (pa_cons pe_int (pa_cons pe_int pa_nil))) pa_nil)))
      (pss_cons (ps_for PassesOwn.never rfl (pi_range2 (by rfl) T.n_range (pa_cons pe_int (pa_cons (pe_op op_add (pe_callB (r := Evl.rLenS K) call_len_seq (by rfl) T.n_len (by decide +kernel) (pa_cons (pv 1) pa_nil)) pe_int) pa_nil))) (pg_name (i := 3) sc_means_of_parts.nd rfl (Or.inl rfl)) (pss_one (ps_expr (pe_bm PySem.F.plainAttrs_list PySem.F.slot_list_append PySem.F.type_list_append mt_append (pv 2) (pa_cons (pe_callD D_next_mean (hr.mono (by decide)) (by rfl) (pa_cons (pv 0) (pa_cons (pv 1) (pa_cons (pv 2) (pa_cons (pv 3) pa_nil))))) pa_nil)))))
      (pss_one (ps_ret (pe_tupleOf (by rfl) T.n_tuple (pe_slice (r := rSlL K) sl_list (pv 2) (po_some pe_int) po_none)))))), ?_⟩
  rintro B Q ⟨k, ps⟩ rfl ⟨hl, hall⟩ q
  dsimp only at hl hall q
  obtain ⟨L, T, X, he, hp⟩ := env_of hl hall
  show Ho B _ [kv k, dv (eT frQ ps), none, none] []
  refine x_seq (x_setN (en_lst (ds := [frQ ((1 : Int) : Rat)]) (ea_cons (ex_frI ex_cI) ea_nil) (Nat.le_of_ble_eq_true rfl)) fun p hpp => ?_)
  refine x_sq (x_forR2 (lo := 1) (n := (ps.length : Int) + 1) (ea_cons ex_cI (ea_cons (ex_add (ex_len (e := frQ) (xs := ps) (ex_v rfl)) ex_cI) ea_nil)) (by omega) (fun i ε L => ε = [kv k, dv (eT frQ ps), lref p, none] ∧ L = [.lst p ((wl oQ k (gt oQ ps) i).map frQ)]) ⟨rfl, rfl⟩ ?_ ?_)
  · rintro i ε' L' hi ⟨rfl, rfl⟩
    have hi : i < ps.length := by omega
    refine x_appW (e := frQ) (ex_v rfl) ⟨_, _, .z⟩ (w_callDL (wa_x (ex_v rfl) (wa_x (ex_v rfl) (wa_x (a := .v (.ref p)) (ex_v rfl) (wa_x (ex_v rfl) (wa_nil ⟨(k, ps, wl oQ k (gt oQ ps) i, i + 1), p, (wl oQ k (gt oQ ps) i).map frQ, 0, .z, (fun K F vs hd ha => ?_), ⟨⟨L, T, X, he, wl_ok he hl hp k (by omega), fun j _ => up_gz he hp j⟩, ⟨by show 1 ≤ i + 1; omega, by show i + 1 ≤ 8; omega⟩, by show i + 1 ≤ (wl oQ k (gt oQ ps) i).length; rw [wl_len]; exact Nat.le_refl _, hl⟩, fun x hx => ⟨rfl, _, _, .z, by rw [List.length_map, wl_len]; omega, nxt (x_end ⟨rfl, ?_⟩)⟩⟩))))))
    · have e : (1 : Int) + (i : Int) = ((i + 1 : Nat) : Int) := by omega
      rw [e] at ha
      match vs, ha with
      | [a, b, c, d], ha => exact .cons ha.1 (.cons ha.2.1 (.cons (by rw [show c = V.ref p from ha.2.2.1]; exact hd) (.cons ha.2.2.2.1 .nil)))
    · rw [hx]
      have e : min ps.length (i + 1) = i + 1 := by omega
      show [MO.lst p ((wl oQ k (gt oQ ps) i).map frQ ++ [frQ (nextN oQ k (gt oQ ps) (gt oQ (wl oQ k (gt oQ ps) i)) (min ps.length (i + 1)) (i + 1))])] = [MO.lst p ((wl oQ k (gt oQ ps) i ++ [nextN oQ k (gt oQ ps) (gt oQ (wl oQ k (gt oQ ps) i)) (i + 1) (i + 1)]).map frQ)]
      rw [e, List.map_append]; rfl
  · rintro ε' L' ⟨rfl, rfl⟩
    have e : ((ps.length : Int) + 1 - 1).toNat = ps.length := by omega
    rw [e]
    exact nxt (x_retD q (wv_of (x := meansL k ps) (ex_is (ex_tupL (ds := (meansL k ps).map frQ) (ex_frz (en_from (e := frQ) (xs := wl oQ k (gt oQ ps) ps.length) (ex_v rfl) ex_cI (.o (k := 0) rfl) (by omega))) .d) rfl) rfl))
theorem okd_parts_of_means (Fn : Fun K "parts_of_means" "parts_of_means" s_parts_of_means f fd) (T : Bt P mg base) (D_fraction_less : Df P w K mg base 43 "fraction_less" ["one", "other"] (S_fraction_less K)) (D_next_meanL : Df P w K mg base 47 "next_mean" ["kind", "parts", "wholes", "many"] (S_next_meanL K)) : FnOk P w K mg base CX0 48 f fd ["kind", "means"] (S_parts_of_means K) := by
  refine fn_D Fn sc_parts_of_means (by decide) (fun _ => rfl) fun cdv A outer s H E hr => ⟨_, (pss_cons (ps_par (i := 2) (j := 3) (by rfl) sc_parts_of_means.nd rfl rfl (by decide) rfl rfl (pa_cons (pe_op op_cat (pe_lst (pa_cons (pe_tup (pa_cons pe_int (pa_cons pe_int pa_nil))) pa_nil)) (pe_callTy (r := rListOf K) call_list_of (by rfl) T.n_list (by decide +kernel) (pa_cons (pv 1) pa_nil))) (pa_cons (pe_lst pa_nil) pa_nil)) (by rfl))
      (pss_cons (ps_for PassesOwn.never rfl (pi_range2 (by rfl) T.n_range (pa_cons pe_int (pa_cons (pe_op op_add (pe_callB (r := Evl.rLenS K) call_len_seq (by rfl) T.n_len (by decide +kernel) (pa_cons (pv 1) pa_nil)) pe_int) pa_nil))) (pg_name (i := 4) sc_parts_of_means.nd rfl (Or.inl rfl)) (pss_one (ps_expr (pe_bm PySem.F.plainAttrs_list PySem.F.slot_list_append PySem.F.type_list_append mt_append (pv 3) (pa_cons (pe_callD D_fraction_less (hr.mono (by decide)) (by rfl) (pa_cons (pe_ix (r := rIxL K) ix_list (pv 2) (pv 4) (fun _ _ => rfl)) (pa_cons (pe_callD D_next_meanL (hr.mono (by decide)) (by rfl) (pa_cons (pv 0) (pa_cons (pv 3) (pa_cons (pv 2) (pa_cons (pv 4) pa_nil))))) pa_nil))) pa_nil)))))
      (pss_one (ps_ret (pe_tupleOf (by rfl) T.n_tuple (pv 3)))))), ?_⟩
  rintro B Q ⟨k, ms⟩ rfl ⟨hl, hall⟩ q
  dsimp only at hl hall q
  obtain ⟨L, T, X, he, hp⟩ := env_of hl hall
  show Ho B _ [kv k, dv (eT frQ ms), none, none, none] []
  refine x_seq (x_parN (a := .d (eL frQ (((1 : Int) : Rat) :: ms))) (ex_is (ex_frz (en_cat (ds := [frQ ((1 : Int) : Rat)]) (es := ms.map frQ) (ex_frz (en_lst (ds := [frQ ((1 : Int) : Rat)]) (ea_cons (ex_frI ex_cI) ea_nil) (Nat.le_of_ble_eq_true rfl))) (ex_frz (en_listT (ds := ms.map frQ) (ex_v rfl))) .d .d (by rw [List.length_map]; show 1 + _ ≤ 100000; omega))) rfl) (en_lst (ds := []) ea_nil (Nat.zero_le _)) fun p hpp => ?_)
  refine x_sq (x_forR2 (lo := 1) (n := (ms.length : Int) + 1) (ea_cons ex_cI (ea_cons (ex_add (ex_len (e := frQ) (xs := ms) (ex_v rfl)) ex_cI) ea_nil)) (by omega) (fun i ε L => ε = [kv k, dv (eT frQ ms), dv (eL frQ (((1 : Int) : Rat) :: ms)), lref p, none] ∧ L = [.lst p ((fl oQ k (gt oQ (((1 : Int) : Rat) :: ms)) i).map frQ)]) ⟨rfl, rfl⟩ ?_ ?_)
  · rintro i ε' L' hi ⟨rfl, rfl⟩
    have hi : i < ms.length := by omega
    have hok : NextOk (k, fl oQ k (gt oQ (((1 : Int) : Rat) :: ms)) i, ((1 : Int) : Rat) :: ms, i + 1) := by
      refine ⟨⟨L, T, X, he, one_okX he hp, fun j hj => ?_⟩, ⟨by show 1 ≤ i + 1; omega, by show i + 1 ≤ 8; omega⟩, by show i + 1 ≤ ms.length + 1; omega, by show (fl oQ k _ i).length ≤ 8; rw [fl_len]; omega⟩
      dsimp only
      by_cases c : j < i
      · exact parts_gz he.x (by omega) (one_ok he hp) k j c
      · rw [gt_out (by rw [fl_len]; omega)]
        exact gz_zero.mono (Nat.zero_le _)
    have hsz := (next_sz hok (i := i) (by omega)).1
    have wsz : Sz (gt oQ (((1 : Int) : Rat) :: ms) (i + 1)) := (one_okX he hp (i + 1) (by omega)).sz he (by omega) (Nat.le_trans (pow_le8 he.x1 (by omega)) (Nat.le_mul_of_pos_left _ (by decide)))
    refine x_appW (e := frQ) (ex_v rfl) ⟨_, _, .z⟩ (w_callD (wa_x (ex_atl (e := frQ) (xs := ((1 : Int) : Rat) :: ms) (n := i + 1) (ex_v rfl) (ex_v rfl) .d (by omega) (gt_at oQ (by show i + 1 < ms.length + 1; omega))) (wa_v (e := frQ) (w_callDL (wa_x (ex_v rfl) (wa_x (a := .v (.ref p)) (ex_v rfl) (wa_x (ex_v rfl) (wa_x (ex_v rfl) (wa_nil ⟨(k, fl oQ k (gt oQ (((1 : Int) : Rat) :: ms)) i, ((1 : Int) : Rat) :: ms, i + 1), p, (fl oQ k (gt oQ (((1 : Int) : Rat) :: ms)) i).map frQ, 0, .z, (fun K F vs hd ha => ?_), hok, fun x hx => ⟨rfl, wa_nil ⟨(gt oQ (((1 : Int) : Rat) :: ms) (i + 1), x), rfl, ⟨wsz, ?_⟩, fun z hz => ⟨_, _, .z, by rw [List.length_map, fl_len]; omega, nxt (x_end ⟨rfl, ?_⟩)⟩⟩⟩⟩)))))))))
    · have e : (1 : Int) + (i : Int) = ((i + 1 : Nat) : Int) := by omega
      rw [e] at ha
      match vs, ha with
      | [a, b, c, d], ha => exact .cons ha.1 (.cons (by rw [show b = V.ref p from ha.2.1]; exact hd) (.cons ha.2.2.1 (.cons ha.2.2.2.1 .nil)))
    · show Sz x
      rw [hx]
      show Sz (nextN oQ k (gt oQ (fl oQ k _ i)) (gt oQ _) (min (fl oQ k _ i).length (i + 1)) (i + 1))
      have e : min (fl oQ k (gt oQ (((1 : Int) : Rat) :: ms)) i).length (i + 1) = i := by rw [fl_len]; omega
      rw [e]
      exact hsz
    · have e : min (fl oQ k (gt oQ (((1 : Int) : Rat) :: ms)) i).length (i + 1) = i := by rw [fl_len]; omega
      have hx' : x = nextN oQ k (gt oQ (fl oQ k (gt oQ (((1 : Int) : Rat) :: ms)) i)) (gt oQ (((1 : Int) : Rat) :: ms)) i (i + 1) := by
        rw [hx]
        show nextN oQ k _ _ (min (fl oQ k _ i).length (i + 1)) (i + 1) = _
        rw [e]
      have hz' : z = gt oQ (((1 : Int) : Rat) :: ms) (i + 1) - x := hz
      rw [hz', hx']
      show [MO.lst p (_ ++ [_])] = [MO.lst p ((fl oQ k _ i ++ [_]).map frQ)]
      rw [List.map_append]; rfl
  · rintro ε' L' ⟨rfl, rfl⟩
    have e : ((ms.length : Int) + 1 - 1).toNat = ms.length := by omega
    rw [e]
    exact nxt (x_retD q (wv_of (x := partsL k ms) (ex_is (ex_tupL (ds := (partsL k ms).map frQ) (ex_v rfl) (.o (k := 0) rfl)) rfl) rfl))
end K82

/-! ## B6 -/
set_option Elab.async false
set_option linter.all false
set_option maxRecDepth 100000
set_option maxHeartbeats 4000000
set_option autoImplicit false
namespace K82
open PySem L2 Fz K80 Means
variable {P : Program} {w : World} {K : PySem.W.Frag} {mg : Str → Option Value} {base : Heap} {f : Addr} {fd : FuncData}
theorem small_div {n : Int} (h : 0 < n) (hn : n.natAbs < 2 ^ 8000) (i : Int) : CDivW i n := wide_div (b := 8000) h hn (by decide) (by decide)
theorem last_get {r : List Int} {c : Int} : (r.reverse ++ [c])[(r.reverse ++ [c]).length - 1]? = some c := by
  rw [List.length_append, List.length_singleton, Nat.add_sub_cancel, List.getElem?_append_right (Nat.le_refl _), Nat.sub_self]; rfl
theorem ok_law_draw (Fn : Fun K "_law_draw" "_law_draw" s_law_draw f fd) (T : Bt P mg base) : FnOk P w K mg base CX0 41 f fd ["bag", "below"] (spB K R_draw) := by
  refine fn_bag Fn sc_law_draw (by decide) (fun b ds d b' ⟨_, _, _, h, _⟩ => by rw [h]; rfl) fun cdv A outer s H E hr => ⟨_, (pss_cons (ps_while PassesOwn.never (PW.pt (pw_and (pt_cmpR op_eq (pe_ix (r := rIxL K) ix_list (pv 0) pe_int (fun _ _ => rfl)) pe_int (nomark _)) (pw_and1 (pt_cmpR (r := rNeD K) (op_neD hr.units) (pe_ix (r := rIxL K) ix_list (pv 0) pe_int (fun _ _ => rfl)) (pe_lst pa_nil) (nomark _))))) (pss_cons (ps_set (i := 2) sc_law_draw.nd rfl (.inl rfl) (pe_bm0 PySem.F.plainAttrs_list PySem.F.slot_list_pop PySem.F.type_list_pop mt_pop (pe_ix (r := rIxL K) ix_list (pv 0) pe_int (fun _ _ => rfl))))
      (pss_one (ps_asg (pe_ifExp (pt_cmpR op_gt (pv 2) (pe_op op_pow pe_int pe_int) (nomark _)) (pv 2) pe_int) (pg_sub (pv 0) pe_int set_list)))))
      (pss_cons (ps_if (pt_cmpR op_gt (pe_ix (r := rIxL K) ix_list (pv 0) pe_int (fun _ _ => rfl)) pe_int (nomark _)) (pss_cons (ps_set (i := 3) sc_law_draw.nd rfl (.inl rfl) (pe_op op_mod (pe_callTy call_int1 (by rfl) T.n_int (by decide +kernel) (pa_cons (pe_ix (r := rIxL K) ix_list (pv 0) pe_int (fun _ _ => rfl)) pa_nil)) (pv 1)))
      (pss_cons (ps_asg (pe_op op_fdivW (pe_ix (r := rIxL K) ix_list (pv 0) pe_int (fun _ _ => rfl)) (pv 1)) (pg_sub (pv 0) pe_int set_list))
      (pss_one (ps_ret (pv 3))))) pss_nil)
      (pss_cons (ps_asg (pe_op op_mod (pe_callTy call_int1 (by rfl) T.n_int (by decide +kernel) (pa_cons (pe_op op_add (pe_op op_mulW (pe_ix (r := rIxL K) ix_list (pv 0) pe_int (fun _ _ => rfl)) pe_int) pe_int) pa_nil)) pe_int) (pg_sub (pv 0) pe_int set_list))
      (pss_one (ps_ret (pe_op op_mod (pe_callTy call_int1 (by rfl) T.n_int (by decide +kernel) (pa_cons (pe_op op_fdivW (pe_op op_mod (pe_callTy call_int1 (by rfl) T.n_int (by decide +kernel) (pa_cons (pe_op op_mulW (pe_ix (r := rIxL K) ix_list (pv 0) pe_int (fun _ _ => rfl)) (pe_ix (r := rIxL K) ix_list (pv 0) pe_int (fun _ _ => rfl))) pa_nil)) pe_int) pe_int) pa_nil)) (pv 1))))))), ?_⟩
  rintro B Q pb pc b ds d b' rfl hM ⟨n, hn, hz, rfl, rfl, rfl⟩ q
  refine x_seq (x_while (m0 := b.cells.length) (fun m ε L => ∃ (r : List Int) (u : Int), m = r.length ∧ fetchR r u = fetchR b.cells.reverse b.cur ∧ 0 ≤ u ∧ (∀ c ∈ r, 0 ≤ c) ∧ ε = [some (.v (.ref pb)), iv n, none, none] ∧ L = [.bag pb pc r.reverse u b.mix])
    ⟨b.cells.reverse, b.cur, by rw [List.length_reverse], rfl, b.ok.2.2.1, fun c hc => b.ok.2.2.2 c (List.mem_reverse.mp hc), rfl, by rw [List.reverse_reverse]; rfl⟩ ?_)
  rintro m ε' L' ⟨r, u, rfl, hf, hu, hr0, rfl, rfl⟩
  refine ⟨_, _, et_and (et_test (ex_eqI (ex_bag1 (k := 0) (ex_v rfl) ex_cI rfl) ex_cI)) (fun _ => et_test (ex_bagFull (k := 0) (ex_bag0 (k := 0) (ex_v rfl) ex_cI rfl) rfl)) (fun _ => rfl), fun hb => ?_, fun hb => ?_⟩
  · rw [Bool.and_eq_true] at hb
    have hu0 : u = 0 := of_decide_eq_true hb.1
    match r, hf, hr0, hb with
    | [], _, _, hb => exact absurd hb.2 (by decide)
    | c :: r, hf, hr0, hb =>
      have hc0 := hr0 c List.mem_cons_self
      refine x_seq (x_set (a := .d (.int c)) (ex_popBag (k := 0) (ex_bag0 (k := 0) (ex_v rfl) ex_cI rfl) rfl (by rw [List.reverse_cons]; exact last_get)) ?_)
      refine nxt (x_bag1 (k := 0) (ex_ifI (et_test (ex_gt (ex_v rfl) (ex_int (k := 1000000000) (ex_pow ex_cI ex_cI ⟨by decide, by decide, by decide⟩) (by decide +kernel)))) (fun _ => ex_v rfl) (fun _ => ex_cI)) (ex_v rfl) ex_cI rfl ?_)
      refine x_abs (ε' := [some (.v (.ref pb)), iv n, none, none]) ⟨r.length, Nat.lt_succ_self _, r, (if 1000000000 < c then c else 0), rfl, ?_, ?_, fun x hx => hr0 x (List.mem_cons_of_mem _ hx), rfl, ?_⟩ ⟨.inr rfl, .inr rfl, .inl rfl, .inr rfl, trivial⟩
      · rw [← hf, hu0]
        show _ = if (0 : Int) = 0 then _ else _
        rw [if_pos rfl]
      · split
        · exact hc0
        · exact Int.le_refl 0
      · show [MO.bag pb pc _ _ _] = [MO.bag pb pc _ _ _]
        rw [List.reverse_cons, List.dropLast_concat]
        simp only [decide_eq_true_eq]
  · have hdone : fetchR r u = (r, u) := by
      match r, hb with
      | [], _ => rfl
      | c :: r, hb =>
        have hu1 : u ≠ 0 := fun e => by
          subst e
          rw [List.reverse_cons] at hb
          simp at hb
        show (if u = 0 then _ else _) = _
        rw [if_neg hu1]
    rw [hdone] at hf
    have e1 : fetchC b = r := by unfold fetchC; rw [← hf]
    have e2 : fetchU b = u := by unfold fetchU; rw [← hf]
    refine nxt (x_seq (x_if (et_test (ex_gt (ex_bag1 (k := 0) (ex_v rfl) ex_cI rfl) ex_cI)) (fun hc => ?_) fun hc => ?_))
    · have hu1 : 0 < u := of_decide_eq_true hc
      obtain ⟨d1, d2, d3⟩ := drawB_pos hn (b := b) (by rw [e2]; exact hu1)
      refine x_seq (x_set (ex_mod (ex_int1 (ex_bag1 (k := 0) (ex_v rfl) ex_cI rfl)) (ex_v rfl) hn) ?_)
      refine x_sq (x_bag1 (k := 0) (ex_fdiv (ex_bag1 (k := 0) (ex_v rfl) ex_cI rfl) (ex_v rfl) (small_div hn hz u)) (ex_v rfl) ex_cI rfl ?_)
      refine nxt (x_ret (ex_v rfl) fun v F σ H rp o => q v F H (hM ▸ rp.nx) ?_ ?_)
      · rw [d1, d2, d3, e1, e2]; exact rp.bag List.mem_cons_self
      · unfold drawV; rw [e2, if_pos hu1]; exact o
    · have hu1 : ¬ 0 < u := of_decide_eq_false hc
      obtain ⟨d1, d2, d3⟩ := drawB_zero hn (b := b) (by rw [e2]; exact hu1)
      have m1 := b.ok.1
      have m2 := b.ok.2.1
      have n1 := nextM_ok b.mix
      refine x_next (x_sq (x_bag2 (k := 0) (ex_mod (ex_int1 (ex_add (ex_mul (ex_bag2 (k := 0) (ex_v rfl) ex_cI rfl) ex_cI (cmul (Bd.of (k := 32) (n := 2147483648) (by omega) (by omega) (by decide)) (Bd.of (k := 16) (n := 48272) (by decide) (by decide) (by decide)) (by decide))) ex_cI)) ex_cI (by decide)) (ex_v rfl) ex_cI rfl ?_))
      have hb : Bd 32 (nextM b.mix) := Bd.of (k := 32) (n := 2147483648) (by omega) (by omega) (by decide)
      refine nxt (x_ret (ex_mod (ex_int1 (ex_fdiv (ex_mod (ex_int1 (ex_mul (ex_bag2 (k := 0) (ex_v rfl) ex_cI rfl) (ex_bag2 (k := 0) (ex_v rfl) ex_cI rfl) (cmul hb hb (by decide)))) ex_cI (by decide)) ex_cI (cdiv (b := 3) (by decide) (by unfold Bd; decide) (by decide)))) (ex_v rfl) hn) fun v F σ H rp o => q v F H (hM ▸ rp.nx) ?_ ?_)
      · rw [d1, d2, d3, e1, e2]; exact rp.bag List.mem_cons_self
      · unfold drawV; rw [e2, if_neg hu1]; exact o
theorem ok_law_pick (Fn : Fun K "_law_pick" "_law_pick" s_law_pick f fd) (T : Bt P mg base) (C_law_draw : Df P w K mg base 41 "_law_draw" ["bag", "below"] (spB K R_draw)) : FnOk P w K mg base CX0 42 f fd ["bag", "some"] (spB K R_pick) := by
  refine fn_bag Fn sc_law_pick (by decide) (fun b ds d b' ⟨_, _, _, h, _⟩ => by rw [h]; rfl) fun cdv A outer s H E hr => ⟨_, (pss_one (ps_ret (pe_ix (r := rIxL K) ix_list (pv 1) (pe_callD C_law_draw (hr.mono (by decide)) (by rfl) (pa_cons (pv 0) (pa_cons (pe_callB (r := Evl.rLenS K) call_len_seq (by rfl) T.n_len (by decide +kernel) (pa_cons (pv 1) pa_nil)) pa_nil))) (fun _ _ => rfl)))), ?_⟩
  rintro B Q pb pc b ds d b' rfl hM ⟨xs, hx, hz, rfl, rfl, rfl⟩ q
  have hl : 0 < (xs.length : Int) := by
    have := List.length_pos_iff.mpr hx
    omega
  have hv := drawV_ok b hl
  refine x_ret (ex_ixL (ds := xs) (ex_v rfl) (ex_callB (k := 0) (ds := [.int (xs.length : Int)]) (ea_cons (ex_v rfl) (ea_cons (ex_lenL (ex_v rfl) .d rfl) ea_nil)) rfl ⟨xs.length, hl, ?_, rfl, rfl, rfl⟩) .d ?_) fun v F σ H rp o => q v F H (hM ▸ rp.nx) (rp.bag List.mem_cons_self) o
  · have e : (xs.length : Int).natAbs < 2 ^ 20 := by omega
    exact Nat.lt_of_lt_of_le e (Nat.pow_le_pow_right (by decide) (by decide))
  · have e : drawV b xs.length = (((drawV b xs.length).toNat : Nat) : Int) := by omega
    rw [e]
    refine atI_nat ?_
    have hlt : (drawV b xs.length).toNat < xs.length := by omega
    rw [Int.toNat_natCast, List.getElem?_eq_getElem hlt, List.getD_eq_getElem?_getD, List.getElem?_eq_getElem hlt]; rfl
theorem ok_law_fraction (Fn : Fun K "_law_fraction" "_law_fraction" s_law_fraction f fd) (T : Bt P mg base) : FnOk P w K mg base CX0 41 f fd ["above", "below"] (spR K R_frac) := by
  refine fn_data Fn sc_law_fraction (by decide) (fun ds d ⟨a, b, h, _⟩ => by rw [h]; rfl) fun cdv A outer s H E hr => ⟨_, (pss_cons (ps_par (i := 2) (j := 3) (by rfl) sc_law_fraction.nd rfl rfl (by decide) rfl rfl (pa_cons (pe_callB call_abs (by rfl) T.n_abs (by decide +kernel) (pa_cons (pv 0) pa_nil)) (pa_cons (pv 1) pa_nil)) (by rfl))
      (pss_cons (ps_while PassesOwn.never (pt_cmpR op_gt (pv 3) pe_int (nomark _)) (pss_one (ps_par (i := 2) (j := 3) (by rfl) sc_law_fraction.nd rfl rfl (by decide) rfl rfl (pa_cons (pv 3) (pa_cons (pe_op op_mod (pe_callTy call_int1 (by rfl) T.n_int (by decide +kernel) (pa_cons (pv 2) pa_nil)) (pv 3)) pa_nil)) (by rfl))))
      (pss_one (ps_ret (pe_tup (pa_cons (pe_op (op_fdivP hr T.hpl) (pv 0) (pv 2)) (pa_cons (pe_op (op_fdivP hr T.hpl) (pv 1) (pv 2)) pa_nil))))))), ?_⟩
  rintro B Q ds d rfl hM ⟨a, b, rfl, hb0, rfl⟩ q
  refine x_seq (x_par (ea_cons (ex_abs (ex_v rfl)) (ea_cons (ex_v rfl) ea_nil)) ?_)
  rw [abs_if]
  refine x_sq (x_while (m0 := b.toNat) (fun m ε L => ∃ x y : Int, 0 ≤ x ∧ 0 ≤ y ∧ Int.gcd x y = Int.gcd a b ∧ m = y.toNat ∧ ε = [iv a, iv b, iv x, iv y] ∧ L = []) ⟨a.natAbs, b, by omega, by omega, by show Nat.gcd _ _ = _; simp [Int.gcd], rfl, rfl, rfl⟩ ?_)
  rintro m ε' L' ⟨x, y, hx, hy, hg, rfl, rfl, rfl⟩
  refine ⟨_, _, et_test (ex_gt (ex_v rfl) ex_cI), fun hb => ?_, fun hb => ?_⟩
  · have hy0 : 0 < y := of_decide_eq_true hb
    refine x_par (ea_cons (ex_v rfl) (ea_cons (ex_mod (ex_int1 (ex_v rfl)) (ex_v rfl) hy0) ea_nil)) ?_
    have h1 := Int.emod_lt_of_pos x hy0
    have h2 := Int.emod_nonneg x (show y ≠ 0 by omega)
    exact x_abs ⟨(x % y).toNat, by omega, y, x % y, hy, h2, by rw [gcd_step hx hy0, hg], rfl, rfl, rfl⟩ (Wk.refl _)
  · have hy0 : y = 0 := by have := of_decide_eq_false hb; omega
    subst hy0
    have hgp := gcd_pos (t := a) hb0
    have hxg : x = (Int.gcd a b : Int) := by
      rw [← hg, Int.gcd_zero_right]; omega
    subst hxg
    exact nxt (x_ret (ex_tup (ds := [.int _, .int _]) (ea_cons (ex_fdivP (ex_v rfl) (ex_v rfl) hgp) (ea_cons (ex_fdivP (ex_v rfl) (ex_v rfl) hgp) ea_nil)) (Nat.le_of_ble_eq_true rfl)) fun v F σ H r o => q v F H (hM ▸ r.nx) o)
def cellF (c : Int) : Int := if c < 0 then -c else c
def cellD : PyData → PyData
  | .int c => .int (cellF c)
  | d => d
theorem ints_at {l : List Int} {i : Nat} {d : PyData} (h : (l.map PyData.int)[i]? = some d) : i < l.length ∧ d = .int (l.getD i 0) := by
  rw [List.getElem?_map] at h
  have hi : i < l.length := by
    by_cases c : i < l.length
    · exact c
    · rw [List.getElem?_eq_none (by omega)] at h; cases h
  rw [List.getElem?_eq_getElem hi] at h
  refine ⟨hi, ?_⟩
  rw [List.getD_eq_getElem?_getD, List.getElem?_eq_getElem hi]
  cases h; rfl
theorem ok_law_own_bag (Fn : Fun K "_law_own_bag" "_law_own_bag" s_law_own_bag f fd) (T : Bt P mg base) : FnOk P w K mg base CX0 41 f fd ["script"] (spOwn K) := by
  refine Fn.ok sc_law_own_bag (fun vs H Q E ⟨_, _, h, _⟩ => by rw [h]; rfl) fun cdv A outer s H vs Q E hr h => ?_
  obtain ⟨a, ns, rfl, hS, hl, q⟩ := h
  refine ⟨_, (pss_cons (ps_setLc (i := 1) (own := [("cell", 3)]) rfl sc_law_own_bag.nd rfl rfl (sw_true rfl rfl rfl (by decide +kernel)) (pi_list (pe_slice (r := rSlL K) sl_list (pv 0) po_none (po_some pe_int))) (blkOk_by (own := [("cell", 3)]) (N := ["script", "cells", "mixed", "cell"]) (sc := defScope s_law_own_bag) (by decide +kernel)) (fun _ _ _ _ _ => (pg_name (i := 3) sc_law_own_bag.nd rfl (Or.inl rfl))) (fun _ _ _ _ _ => pts_nil) (fun _ _ _ _ _ => (pe_callB call_abs (by rfl) T.n_abs (by decide +kernel) (pa_cons (pv 3) pa_nil))))
      (pss_cons (ps_set (i := 2) sc_law_own_bag.nd rfl (.inl rfl) (pe_op op_add pe_int (pe_callB (r := Evl.rLenS K) call_len_seq (by rfl) T.n_len (by decide +kernel) (pa_cons (pv 1) pa_nil))))
      (pss_cons (ps_for PassesOwn.never rfl (pi_list (pv 1)) (pg_name (i := 3) sc_law_own_bag.nd rfl (Or.inl rfl)) (pss_one (ps_set (i := 2) sc_law_own_bag.nd rfl (.inl rfl) (pe_op op_mod (pe_callTy call_int1 (by rfl) T.n_int (by decide +kernel) (pa_cons (pe_op op_add (pe_op op_add (pe_op op_mulW (pv 2) pe_int) (pe_op op_mod (pe_callTy call_int1 (by rfl) T.n_int (by decide +kernel) (pa_cons (pv 3) pa_nil)) pe_int)) pe_int) pa_nil)) pe_int))))
      (pss_one (ps_ret (pe_lst (pa_cons (pe_listRev rfl (by rfl) T.n_list (by rfl) T.n_reversed (pe_callTy (r := rListOf K) call_list_of (by rfl) T.n_list (by decide +kernel) (pa_cons (pv 1) pa_nil))) (pa_cons pe_int (pa_cons (pv 2) pa_nil))))))))), ?_⟩
  refine (?_ : Ho ⟨K, H, H, []⟩ _ (some (.v (.ref a)) :: List.replicate (4 - 1) none) [.seq a (ns.map PyData.int)]) H _ H (rep_startS (N := ["script", "cells", "mixed", "cell"]) hS (by decide))
  obtain ⟨ms, hms, hml⟩ := cut_map PyData.int ns none (some 63)
  refine x_seq (x_set (a := .d (li (ms.map cellF))) (ex_is (ex_frz (en_lcLP (xs := ms.map PyData.int) (fun _ => true) cellD (fun d => [some (.v (.ref a)), none, none, some (.d d)]) (ex_frz (en_is (en_slL (ds := ns.map PyData.int) (ex_v rfl) eo_n (eo_s ex_cI) (.r (k := 0) rfl)) hms)) (by rw [List.length_map]; omega) (gw_name (by simp))
    (fun d hd => gt_name) (fun d hd m => et_yes) ?_)) ?_) ?_)
  · rintro d hd _ m
    obtain ⟨c, _, rfl⟩ := List.mem_map.mp hd
    exact ex_abs (ex_v rfl)
  · rw [filter_yes, List.map_map]
    unfold li
    rw [List.map_map]; rfl
  · refine x_sq (x_set (a := .d (.int (8641 + (ms.length : Int)))) (ex_add ex_cI (ex_int (ex_lenL (ds := (ms.map cellF).map PyData.int) (ex_v rfl) .d rfl) (by rw [List.length_map, List.length_map]))) ?_)
    refine x_sq (x_forL (ds := (ms.map cellF).map PyData.int) (ex_v rfl) (fun v i ε L => ∃ m : Int, (0 ≤ m ∧ m < 2147483647) ∧ ε = [some (.v (.ref a)), some (.d (li (ms.map cellF))), iv m, none] ∧ L = [.seq a (ns.map PyData.int), .know v (li (ms.map cellF))]) (fun v => ⟨_, ⟨by omega, by omega⟩, rfl, rfl⟩)
      (fun v i ε' L' ⟨_, _, _, h⟩ => by rw [h]; exact List.mem_cons_of_mem _ (List.mem_singleton_self _)) ?_ ?_)
    · rintro v i d ε' L' hd ⟨m, hm, rfl, rfl⟩
      obtain ⟨_, rfl⟩ := ints_at hd
      refine ⟨_, gt_name, x_set (ex_mod (ex_int1 (ex_add (ex_add (ex_mul (ex_v rfl) ex_cI (cmul (Bd.of (k := 32) (n := 2147483648) (by omega) (by omega) (by decide)) (Bd.of (k := 16) (n := 48272) (by decide) (by decide) (by decide)) (by decide))) (ex_mod (ex_int1 (ex_v rfl)) ex_cI (by decide))) ex_cI)) ex_cI (by decide)) ?_⟩
      exact x_abs ⟨_, ⟨Int.emod_nonneg _ (by decide), Int.emod_lt_of_pos _ (by decide)⟩, rfl, rfl⟩ ⟨.inr rfl, .inr rfl, .inr rfl, .inl rfl, trivial⟩
    · rintro v ε' L' ⟨m, hm, rfl, rfl⟩
      refine nxt (x_retBag (c := (ms.map cellF).reverse) (u := 0) (mx := m) (en_is (en_listRevN (en_list (ds := (ms.map cellF).map PyData.int) (ex_v rfl) .d)) List.map_reverse.symm) (fun _ => ex_cI) (fun _ => ex_v rfl) fun pb pc F σ H' r n1 n2 ne => ?_)
      refine q pb pc ⟨(ms.map cellF).reverse, 0, m, hm.1, hm.2, Int.le_refl 0, fun c hc => ?_⟩ H' (fun b o e => r.h0 b o List.not_mem_nil e) n1 n2 ne (r.bag List.mem_cons_self)
      obtain ⟨z, _, rfl⟩ := List.mem_map.mp (List.mem_reverse.mp hc)
      unfold cellF; split <;> omega
abbrev bagv (p : Addr) : Option AD := some (.v (.ref p))
abbrev S_law_draw (K : PySem.W.Frag) : Sp := S_draw K
abbrev S_law_pick (K : PySem.W.Frag) : Sp := S_pick K
abbrev S_law_own_bag (K : PySem.W.Frag) : Sp := spOwn K
theorem okd_law_draw (Fn : Fun K "_law_draw" "_law_draw" s_law_draw f fd) (T : Bt P mg base) : FnOk P w K mg base CX0 41 f fd ["bag", "below"] (S_law_draw K) := draw_wk (ok_law_draw Fn T)
theorem okd_law_pick (Fn : Fun K "_law_pick" "_law_pick" s_law_pick f fd) (T : Bt P mg base) (C_law_draw : Df P w K mg base 41 "_law_draw" ["bag", "below"] (spB K R_draw)) : FnOk P w K mg base CX0 42 f fd ["bag", "some"] (S_law_pick K) := pick_wk (ok_law_pick Fn T C_law_draw)
theorem okd_law_own_bag (Fn : Fun K "_law_own_bag" "_law_own_bag" s_law_own_bag f fd) (T : Bt P mg base) : FnOk P w K mg base CX0 41 f fd ["script"] (S_law_own_bag K) := ok_law_own_bag Fn T
theorem okd_law_fraction (Fn : Fun K "_law_fraction" "_law_fraction" s_law_fraction f fd) (T : Bt P mg base) : FnOk P w K mg base CX0 41 f fd ["above", "below"] (S_law_fraction K) :=
  fn_wk (ok_law_fraction Fn T) (spD_of fun y h => ⟨_, ⟨y.1, y.2, rfl, h, (frQ_of h).symm⟩, rfl⟩)
end K82

/-! ## B7 -/
set_option Elab.async false
set_option linter.all false
set_option maxRecDepth 100000
set_option maxHeartbeats 4000000
set_option autoImplicit false
namespace K82
open PySem L2 Fz K80 Means
variable {P : Program} {w : World} {K : PySem.W.Frag} {mg : Str → Option Value} {base : Heap} {f : Addr} {fd : FuncData}
theorem wipe_set {j : Nat} : ∀ {vs : List Nat}, j ∈ vs → ∀ (σ : St) (x : Option V), wipe (σ.set j x) vs = wipe σ vs
  | [], h, _, _ => by simp at h
  | k :: ks, h, σ, x => by
    show (wipe (σ.set j x) ks).set k none = (wipe σ ks).set k none
    by_cases hk : j ∈ ks
    · rw [wipe_set hk]
    · have ejk : j = k := (List.mem_cons.mp h).resolve_right hk
      subst ejk
      have : ∀ (ws : List Nat) (σ : St), j ∉ ws → wipe (σ.set j x) ws = (wipe σ ws).set j x := fun ws => by
        induction ws with
        | nil => exact fun σ _ => rfl
        | cons a ws ih =>
          intro σ hn
          show (wipe (σ.set j x) ws).set a none = ((wipe σ ws).set a none).set j x
          rw [ih σ (fun z => hn (List.mem_cons_of_mem _ z)), List.set_comm _ _ (fun z => hn (by rw [z]; exact List.mem_cons_self))]
      rw [this ks σ hk, List.set_set]
theorem wipe_wipe (vs : List Nat) : ∀ σ : St, (∀ j ∈ vs, True) → True := fun _ _ => trivial
theorem gw_tup2 {K : PySem.W.Frag} {i j : Nat} {vs : List Nat} (hi : i ∈ vs) (hj : j ∈ vs) : ∀ (v : V) (σ : St) (H : Hp) (P : St → Hp → Prop), (gTup K 2 (gCons (gName i) (gCons (gName j) gNil)) v (wipe σ vs) H P ↔ gTup K 2 (gCons (gName i) (gCons (gName j) gNil)) v (wipe σ vs) H fun σ2 H2 => wipe σ2 vs = wipe σ vs ∧ P σ2 H2) := fun v σ H P => by
  have hw : wipe (wipe σ vs) vs = wipe σ vs := by
    have h1 := (gw_name (vs := vs) hi (.int 0) σ H (fun σ2 _ => True)).mp trivial
    have h2 : wipe ((wipe σ vs).set i (some (V.int 0))) vs = wipe σ vs := h1.1
    rw [wipe_set hi] at h2
    exact h2
  constructor
  · rintro ⟨a, xs, e, hq, hl, x, r, e1, y, r2, e2, e3, h⟩
    exact ⟨a, xs, e, hq, hl, x, r, e1, y, r2, e2, e3, by rw [wipe_set hj, wipe_set hi, hw], h⟩
  · rintro ⟨a, xs, e, hq, hl, x, r, e1, y, r2, e2, e3, _, h⟩
    exact ⟨a, xs, e, hq, hl, x, r, e1, y, r2, e2, e3, h⟩
/-! ### like things, by their parts -/
def okS : Nat → PyData → Prop
  | _, .none => True
  | _, .int _ => True
  | _, .str s => SeqAt.shaped (.str s) = true
  | n + 1, .tuple ds => ds.length ≤ 90000 ∧ ∀ x ∈ ds, okS n x
  | _, _ => False
abbrev S_sm (n : Nat) (K : PySem.W.Frag) : Sp := spD K (fun d : PyData => [d, d]) (okS n) PyData.bool (fun _ x => x = true)
def SS : Nat → PySem.W.Frag → Sp
  | 0, _ => fun _ _ _ _ => False
  | n + 1, K => S_sm n K
abbrev S_law_same (K : PySem.W.Frag) : Sp := S_sm 3 K
theorem fn_false {k : Nat} {ps : List Str} : FnOk P w K mg base CX0 k f fd ps (fun _ _ _ _ => False) := ⟨fun _ _ _ _ h => h.elim, fun _ _ _ _ _ _ _ _ _ _ _ _ _ h => h.elim⟩
theorem same_step (n : Nat) (Fn : Fun K "_law_same" "_law_same" s_law_same f fd) (T : Bt P mg base) (C_law_same : Df P w K mg base (40 + n) "_law_same" ["told", "due"] (SS n K)) : FnOk P w K mg base CX0 (40 + n + 1) f fd ["told", "due"] (S_sm n K) := by
  refine fn_D Fn sc_law_same (by decide) (fun _ => rfl) fun cdv A outer s H E hr => ⟨_, (pss_cons (ps_if (pt_cmp (pc_isN (pv 1)) rfl) (pss_one (ps_ret (pe_cmp (pc_isN (pv 0)) rfl))) pss_nil)
      (pss_cons (ps_if (pt_cmp (pc_isB (pv 1)) rfl) (pss_one (ps_ret (pe_cmp (pc_isB (pv 0)) rfl))) pss_nil)
      (pss_cons (ps_if (pt_cmp (pc_isB (pv 1)) rfl) (pss_one (ps_ret (pe_cmp (pc_isB (pv 0)) rfl))) pss_nil)
      (pss_cons (ps_if (pt_val (pe_callB (r := rIsi K) call_isi (by rfl) T.n_isinstance (by decide +kernel) (pa_cons (pv 1) (pa_cons (pe_bltn (v := .ty "tuple") (u := .type "tuple") rfl T.n_tuple (by decide +kernel) rfl) pa_nil)))) (pss_cons (ps_if (PW.pt (pw_or (pt_not (pt_val (pe_callB (r := rIsi K) call_isi (by rfl) T.n_isinstance (by decide +kernel) (pa_cons (pv 0) (pa_cons (pe_bltn (v := .ty "tuple") (u := .type "tuple") rfl T.n_tuple (by decide +kernel) rfl) pa_nil))))) (pw_or1 (pt_cmpR op_ne (pe_callB (r := Evl.rLenS K) call_len_seq (by rfl) T.n_len (by decide +kernel) (pa_cons (pv 0) pa_nil)) (pe_callB (r := Evl.rLenS K) call_len_seq (by rfl) T.n_len (by decide +kernel) (pa_cons (pv 1) pa_nil)) (nomark _))))) (pss_one (ps_ret pe_bl)) pss_nil)
      (pss_one (ps_ret (pe_callB (r := rAll K) (cr_all rfl) (by rfl) T.n_all (by decide +kernel) (pa_cons (pe_lc (g := gTup K 2 (gCons (gName 2) (gCons (gName 3) gNil))) (own := [("one", 2), ("other", 3)]) rfl sc_law_same.nd (RZ.pi_zipA (by rfl) T.n_zip (pa_cons (pv 0) (pa_cons (pv 1) pa_nil))) (blkOk_by (own := [("one", 2), ("other", 3)]) (N := ["told", "due", "one", "other"]) (sc := defScope s_law_same) (by decide +kernel)) (fun _ _ _ _ _ => (pg_tup rfl (pgs_cons (pg_name (i := 2) sc_law_same.nd rfl (Or.inl rfl)) (pgs_cons (pg_name (i := 3) sc_law_same.nd rfl (Or.inl rfl)) pgs_nil)))) (fun _ _ _ _ _ => pts_nil) (fun _ _ _ _ _ => (pe_callD C_law_same hr (by rfl) (pa_cons (pv 2) (pa_cons (pv 3) pa_nil))))) pa_nil))))) pss_nil)
      (pss_cons (ps_if (pt_val (pe_callB (r := rIsi K) call_isi (by rfl) T.n_isinstance (by decide +kernel) (pa_cons (pv 1) (pa_cons (pe_bltn (v := .ty "str") (u := .type "str") rfl T.n_str (by decide +kernel) rfl) pa_nil)))) (pss_one (ps_ret (pe_and (pe_callB (r := rIsi K) call_isi (by rfl) T.n_isinstance (by decide +kernel) (pa_cons (pv 0) (pa_cons (pe_bltn (v := .ty "str") (u := .type "str") rfl T.n_str (by decide +kernel) rfl) pa_nil))) (pe_one (pe_cmpR (r := rEqD K) (op_eqD hr.units) (pv 0) (pv 1) (nomark _)))))) pss_nil)
      (pss_one (ps_ret (pe_and (pe_callB (r := rIsi K) call_isi (by rfl) T.n_isinstance (by decide +kernel) (pa_cons (pv 0) (pa_cons (pe_bltn (v := .ty "int") (u := .type "int") rfl T.n_int (by decide +kernel) rfl) pa_nil))) (pe_and (pe_not (pe_callB (r := rIsi K) call_isi (by rfl) T.n_isinstance (by decide +kernel) (pa_cons (pv 0) (pa_cons (pe_bltn (v := .ty "bool") (u := .type "bool") rfl T.n_bool (by decide +kernel) rfl) pa_nil)))) (pe_one (pe_cmpR (r := rEqD K) (op_eqD hr.units) (pv 0) (pv 1) (nomark _)))))))))))), ?_⟩
  rintro B Q d rfl hd q
  show Ho B _ [dv d, dv d, none, none] []
  have no : ∀ {D : PyData}, d = D → isNoneD D = false → isBD true D = false → isBD false D = false → True := fun _ _ _ _ => trivial
  have isN : ∀ {b : Bool}, isNoneD d = b → ETt B (tB (tIsN (tVar 1))) [dv d, dv d, none, none] [] b [] := fun h => et_is (et_B (ex_isN (ex_v rfl))) h
  have isT : ∀ {c b : Bool}, isBD c d = b → ETt B (tB (tIsB c (tVar 1))) [dv d, dv d, none, none] [] b [] := fun h => et_is (et_B (ex_isB (ex_v rfl))) h
  have isU : ∀ {b : Bool}, isTup d = b → ETt B (tTest (tCB (rIsi B.K) (tCons (tVar 1) (tCons (tC (.ty "tuple")) tNil)))) [dv d, dv d, none, none] [] b [] := fun h => et_is (et_test (ex_isTup (ex_v rfl))) h
  have isR : ∀ {b : Bool}, isStr d = b → ETt B (tTest (tCB (rIsi B.K) (tCons (tVar 1) (tCons (tC (.ty "str")) tNil)))) [dv d, dv d, none, none] [] b [] := fun h => et_is (et_test (ex_isStr (ex_v rfl))) h
  cases d with
  | none =>
    exact x_seq (x_if (b := true) (isN rfl) (fun _ => x_retD q (wv_of (x := true) (ex_boolE (ex_isN (ex_v rfl)) rfl) rfl)) fun h => nomatch h)
  | bool b => cases n <;> exact hd.elim
  | list ds => cases n <;> exact hd.elim
  | dict ps => cases n <;> exact hd.elim
  | int i =>
    refine x_seq (x_if (b := false) (isN rfl) (fun h => nomatch h) fun _ => x_next (nxt (x_seq (x_if (b := false) (isT rfl) (fun h => nomatch h) fun _ => x_next (nxt (x_seq (x_if (b := false) (isT rfl) (fun h => nomatch h) fun _ => x_next (nxt (x_seq (x_if (b := false) (isU rfl) (fun h => nomatch h) fun _ => x_next (nxt (x_seq (x_if (b := false) (isR rfl) (fun h => nomatch h) fun _ => x_next (nxt ?_))))))))))))))
    exact x_retD q (wv_of (x := true) (ex_andV (b := true) (c := true) (ex_boolE (ex_isInt (ex_v rfl)) rfl) (fun _ => ex_andV (b := true) (c := true) (ex_notV (b := false) (ex_boolE (ex_isBl (ex_v rfl)) rfl)) (fun _ => ex_boolE (ex_eqD (ex_v rfl) (ex_v rfl) rfl rfl) (by rw [eq_int]; exact decide_eq_true rfl)) (fun h => nomatch h)) (fun h => nomatch h)) rfl)
  | str z =>
    have hz : SeqAt.shaped (.str z) = true := by cases n <;> exact hd
    refine x_seq (x_if (b := false) (isN rfl) (fun h => nomatch h) fun _ => x_next (nxt (x_seq (x_if (b := false) (isT rfl) (fun h => nomatch h) fun _ => x_next (nxt (x_seq (x_if (b := false) (isT rfl) (fun h => nomatch h) fun _ => x_next (nxt (x_seq (x_if (b := false) (isU rfl) (fun h => nomatch h) fun _ => x_next (nxt (x_seq (x_if (b := true) (isR rfl) (fun _ => ?_) fun h => nomatch h)))))))))))))
    exact x_retD q (wv_of (x := true) (ex_andV (b := true) (c := true) (ex_boolE (ex_isStr (ex_v rfl)) rfl) (fun _ => ex_boolE (ex_eqD (ex_v rfl) (ex_v rfl) hz hz) (SeqAt.eqv_refl _ (by unfold SeqAt.shaped at hz; rw [Bool.and_eq_true] at hz; exact hz.1))) (fun h => nomatch h)) rfl)
  | tuple ds =>
    cases n with
    | zero => exact hd.elim
    | succ n =>
      obtain ⟨hl, hall⟩ := hd
      refine x_seq (x_if (b := false) (isN rfl) (fun h => nomatch h) fun _ => x_next (nxt (x_seq (x_if (b := false) (isT rfl) (fun h => nomatch h) fun _ => x_next (nxt (x_seq (x_if (b := false) (isT rfl) (fun h => nomatch h) fun _ => x_next (nxt (x_seq (x_if (b := true) (isU rfl) (fun _ => ?_) fun h => nomatch h))))))))))
      refine x_seq (x_skip (et_orF (et_noT (ex_boolE (ex_isTup (ex_v rfl)) rfl)) (et_is (et_test (ex_neI (ex_lenT (ds := ds) (ex_v rfl) rfl) (ex_lenT (ds := ds) (ex_v rfl) rfl))) (by rw [decide_eq_true rfl]; rfl))) ?_)
      refine nxt (x_retD q (wv_of (x := true) (ex_boolE (ex_allB (bs := ds.map fun _ => true) (ex_frz (en_lcZT (xs := ds) (ys := ds) (ds := (ds.map fun _ => true).map PyData.bool) (ea_cons (ex_v rfl) (ea_cons (ex_v rfl) ea_nil)) rfl (fun i acc L => acc = (List.range i).map (fun _ => PyData.bool true) ∧ L = []) ⟨rfl, rfl⟩ (gw_tup2 (by simp) (by simp)) (fun i a b ha hb acc L' ⟨h1, h2⟩ => ?_) (fun acc L' ⟨h1, h2⟩ => ⟨?_, h2⟩))) .d) ?_) rfl))
      · subst h1 h2
        rw [ha] at hb
        cases hb
        have hi := (List.getElem?_eq_some_iff.mp ha).1
        refine ⟨by rw [List.length_map, List.length_range]; omega, _, gt_tup2, true, [], fun m => et_yes, fun _ => ⟨.bool true, [], fun m => ex_of (e := PyData.bool) (a := true) fun κ k => w_callD (wa_x (ex_v rfl) (wa_x (ex_v rfl) (wa_nil ⟨a, rfl, hall a (List.mem_of_getElem? ha), fun x hx => hx ▸ k⟩))), ?_, rfl⟩, fun h => nomatch h⟩
        rw [List.range_succ, List.map_append]; rfl
      · rw [h1, List.map_map]
        show (List.range ds.length).map (fun _ => PyData.bool true) = ds.map fun _ => PyData.bool true
        rw [List.map_const', List.map_const', List.length_range]
      · exact List.all_eq_true.mpr fun x hx => by
          obtain ⟨_, _, rfl⟩ := List.mem_map.mp hx
          rfl
theorem okd_law_same (Fn : Fun K "_law_same" "_law_same" s_law_same f fd) (T : Bt P mg base) (hm : mg "_law_same" = some (.ref f)) (kp : PySem.W.keepIn K (.ref f) = true) (b : Binds K fd ["told", "due"] []) : FnOk P w K mg base CX0 44 f fd ["told", "due"] (S_law_same K) :=
  have d0 : Df P w K mg base 40 "_law_same" ["told", "due"] (SS 0 K) := Df.mk' fn_false hm kp b
  have d1 : Df P w K mg base 41 "_law_same" ["told", "due"] (SS 1 K) := Df.mk' (same_step 0 Fn T d0) hm kp b
  have d2 : Df P w K mg base 42 "_law_same" ["told", "due"] (SS 2 K) := Df.mk' (same_step 1 Fn T d1) hm kp b
  have d3 : Df P w K mg base 43 "_law_same" ["told", "due"] (SS 3 K) := Df.mk' (same_step 2 Fn T d2) hm kp b
  same_step 3 Fn T d3
end K82

/-! ## B8 -/
set_option Elab.async false
set_option linter.all false
set_option maxRecDepth 100000
set_option maxHeartbeats 4000000
set_option autoImplicit false
namespace K82
open PySem L2 Fz K80 Means
variable {P : Program} {w : World} {K : PySem.W.Frag} {mg : Str → Option Value} {base : Heap} {f : Addr} {fd : FuncData}
/-! ### what is a fraction -/
def isI (d : PyData) : Bool := isInt d && !isBl d
abbrev S_is_integer (K : PySem.W.Frag) : Sp := spD K (fun d : PyData => [d]) (fun _ => True) PyData.bool (fun d x => x = isI d)
theorem okd_is_integer (Fn : Fun K "is_integer" "is_integer" s_is_integer f fd) (T : Bt P mg base)  : FnOk P w K mg base CX0 41 f fd ["value"] (S_is_integer K) := by
  refine fn_D Fn sc_is_integer (by decide) (fun _ => rfl) fun cdv A outer s H E hr => ⟨_, (pss_one (ps_ret (pe_and (pe_callB (r := rIsi K) call_isi (by rfl) T.n_isinstance (by decide +kernel) (pa_cons (pv 0) (pa_cons (pe_bltn (v := .ty "int") (u := .type "int") rfl T.n_int (by decide +kernel) rfl) pa_nil))) (pe_one (pe_not (pe_callB (r := rIsi K) call_isi (by rfl) T.n_isinstance (by decide +kernel) (pa_cons (pv 0) (pa_cons (pe_bltn (v := .ty "bool") (u := .type "bool") rfl T.n_bool (by decide +kernel) rfl) pa_nil)))))))), ?_⟩
  rintro B Q d rfl _ q
  show Ho B _ [dv d] []
  exact x_retD q (wv_of (x := isI d) (ex_andV (b := isInt d) (c := !isBl d) (ex_isInt (ex_v rfl)) (fun _ => ex_notV (ex_isBl (ex_v rfl))) (fun _ => rfl)) rfl)
def greatF : PyData → Bool
  | .tuple [.int a, .int b] => decide (1 ≤ b) && decide ((Int.gcd a b : Int) = 1)
  | _ => false
def inN (b : Int) : Bool := decide ((b.natAbs : Int) ≤ 10 ^ 30)
def isF : PyData → Bool
  | .tuple [.int a, .int b] => decide (1 ≤ b) && decide ((Int.gcd a b : Int) = 1) && decide (b ≤ 10 ^ 30) && inN a
  | _ => false
theorem isI_inv {d : PyData} (h : isI d = true) : ∃ i, d = .int i := by
  cases d with
  | int i => exact ⟨i, rfl⟩
  | _ => exact nomatch h
/-- two ints -/
def twoI : PyData → Bool
  | .tuple [a, b] => isI a && isI b
  | _ => false
theorem twoI_inv {d : PyData} (h : twoI d = true) : ∃ a b, d = .tuple [.int a, .int b] := by
  unfold twoI at h
  split at h
  · rw [Bool.and_eq_true] at h
    obtain ⟨a, rfl⟩ := isI_inv h.1
    obtain ⟨b, rfl⟩ := isI_inv h.2
    exact ⟨a, b, rfl⟩
  · exact nomatch h
theorem great_no {d : PyData} (h : twoI d = false) : greatF d = false ∧ isF d = false := by
  unfold greatF isF
  split
  · exact nomatch h
  · exact ⟨rfl, rfl⟩
section
variable {B : Bg} {ε : Eps} {L La Lb : Own} {te ta tb : TE} {tt tu tv : TT} {E : XK} {d : PyData}
theorem ex_isi (h : EX B te ε L (.d d) La) : EX B (tCall (S_is_integer B.K) [] E (tCons te tNil)) ε L (.d (.bool (isI d))) La :=
  ex_of (e := PyData.bool) fun κ k => w_callD (wa_x h (wa_nil ⟨d, rfl, trivial, fun x hx => hx ▸ k⟩))
theorem len_ne {a b x : PyData} {ds : List PyData} : (!decide (((a :: b :: x :: ds).length : Int) = 2)) = true := by
  simp only [List.length_cons]
  rw [decide_eq_false (by omega)]; rfl
def pairT (c : PyData → PyData → Bool) : PyData → Bool
  | .tuple [a, b] => c a b
  | _ => true
theorem et_pair {c : PyData → PyData → Bool} (h1 : ETt B tt ε L (!isTup d) L) (h2 : ∀ ds, d = .tuple ds → ETt B tu ε L (!decide ((ds.length : Int) = 2)) L) (h3 : ∀ a b, d = .tuple [a, b] → ETt B tv ε L (c a b) L) : ETt B (tOr tt (tOr tu tv)) ε L (pairT c d) L := by
  cases d with
  | tuple ds =>
    match ds with
    | [a, b] => exact et_is (et_or (b := false) (c := c a b) h1 (fun _ => et_is (et_or (b := false) (c := c a b) (h2 _ rfl) (fun _ => h3 a b rfl) (fun h => nomatch h)) rfl) (fun h => nomatch h)) rfl
    | [] => exact et_is (et_or (b := false) (c := true) h1 (fun _ => et_is (et_or (b := true) (c := true) (h2 _ rfl) (fun h => nomatch h) (fun _ => rfl)) rfl) (fun h => nomatch h)) rfl
    | [a] => exact et_is (et_or (b := false) (c := true) h1 (fun _ => et_is (et_or (b := true) (c := true) (h2 _ rfl) (fun h => nomatch h) (fun _ => rfl)) rfl) (fun h => nomatch h)) rfl
    | a :: b :: x :: ds => exact et_is (et_or (b := false) (c := true) h1 (fun _ => et_is (et_or (b := true) (c := true) (et_is (h2 _ rfl) len_ne) (fun h => nomatch h) (fun _ => rfl)) rfl) (fun h => nomatch h)) rfl
  | _ => exact et_is (et_or (b := true) (c := true) h1 (fun h => nomatch h) (fun _ => rfl)) rfl
theorem et_two (h1 : ETt B tt ε L (!isTup d) L) (h2 : ∀ ds, d = .tuple ds → ETt B tu ε L (!decide ((ds.length : Int) = 2)) L) : ETt B (tOr tt tu) ε L (pairT (fun _ _ => false) d) L := by
  cases d with
  | tuple ds =>
    match ds with
    | [a, b] => exact et_is (et_or (b := false) (c := false) h1 (fun _ => h2 _ rfl) (fun h => nomatch h)) rfl
    | [] => exact et_is (et_or (b := false) (c := true) h1 (fun _ => h2 _ rfl) (fun h => nomatch h)) rfl
    | [a] => exact et_is (et_or (b := false) (c := true) h1 (fun _ => h2 _ rfl) (fun h => nomatch h)) rfl
    | a :: b :: x :: ds => exact et_is (et_or (b := false) (c := true) h1 (fun _ => et_is (h2 _ rfl) len_ne) (fun h => nomatch h)) rfl
  | _ => exact et_is (et_or (b := true) (c := true) h1 (fun h => nomatch h) (fun _ => rfl)) rfl
end
theorem pair_no {c : PyData → PyData → Bool} {d : PyData} (h : pairT c d = false) : ∃ a b, d = .tuple [a, b] ∧ c a b = false := by
  unfold pairT at h
  split at h
  · exact ⟨_, _, rfl, h⟩
  · exact nomatch h
theorem pair_two {d : PyData} : pairT (fun a b => !(isI a && isI b)) d = !twoI d := by
  unfold pairT twoI
  split <;> rfl
abbrev S_is_great_fraction (K : PySem.W.Frag) : Sp := spD K (fun d : PyData => [d]) (fun _ => True) PyData.bool (fun d x => x = greatF d)
theorem okd_is_great_fraction (Fn : Fun K "is_great_fraction" "is_great_fraction" s_is_great_fraction f fd) (T : Bt P mg base) (D_common_measure : Df P w K mg base 41 "common_measure" ["one", "other"] (S_common_measure K)) (D_is_integer : Df P w K mg base 41 "is_integer" ["value"] (S_is_integer K)) : FnOk P w K mg base CX0 42 f fd ["value"] (S_is_great_fraction K) := by
  refine fn_D Fn sc_is_great_fraction (by decide) (fun _ => rfl) fun cdv A outer s H E hr => ⟨_, (pss_cons (ps_if (PW.pt (pw_or (pt_not (pt_val (pe_callB (r := rIsi K) call_isi (by rfl) T.n_isinstance (by decide +kernel) (pa_cons (pv 0) (pa_cons (pe_bltn (v := .ty "tuple") (u := .type "tuple") rfl T.n_tuple (by decide +kernel) rfl) pa_nil))))) (pw_or (pt_cmpR op_ne (pe_callB (r := Evl.rLenS K) call_len_seq (by rfl) T.n_len (by decide +kernel) (pa_cons (pv 0) pa_nil)) pe_int (nomark _)) (pw_or1 (pt_not (pt_val (pe_callB (r := rAll K) (cr_all rfl) (by rfl) T.n_all (by decide +kernel) (pa_cons (pe_lc (own := [("item", 1)]) rfl sc_is_great_fraction.nd (pi_tup (pv 0)) (blkOk_by (own := [("item", 1)]) (N := ["value", "item"]) (sc := defScope s_is_great_fraction) (by decide +kernel)) (fun _ _ _ _ _ => (pg_name (i := 1) sc_is_great_fraction.nd rfl (Or.inl rfl))) (fun _ _ _ _ _ => pts_nil) (fun _ _ _ _ _ => (pe_callD D_is_integer (hr.mono (by decide)) (by rfl) (pa_cons (pv 1) pa_nil)))) pa_nil)))))))) (pss_one (ps_ret pe_bl)) pss_nil)
      (pss_one (ps_ret (pe_and (pe_cmpR op_ge (pe_ix (r := rIxT K) ix_tup (pv 0) pe_int (fun _ _ => rfl)) pe_int (nomark _)) (pe_one (pe_cmpR op_eq (pe_callD D_common_measure (hr.mono (by decide)) (by rfl) (pa_cons (pe_ix (r := rIxT K) ix_tup (pv 0) pe_int (fun _ _ => rfl)) (pa_cons (pe_ix (r := rIxT K) ix_tup (pv 0) pe_int (fun _ _ => rfl)) pa_nil))) pe_int (nomark _))))))), ?_⟩
  rintro B Q d rfl _ q
  show Ho B _ [dv d, none] []
  refine x_seq (x_if (b := !twoI d) (et_is (et_pair (c := fun a b => !(isI a && isI b)) (et_not (et_test (ex_isTup (ex_v rfl)))) (fun ds e => et_test (ex_neI (ex_lenT (ds := ds) (ex_v (congrArg (fun d => some (dv d)) e)) rfl) ex_cI)) (fun a b e => et_not (et_test (ex_boolE (ex_allB (bs := [isI a, isI b]) (ex_is (ex_frz (en_lcTP (xs := [a, b]) (fun _ => true) (fun d => .bool (isI d)) (fun x => [dv d, some (.d x)]) (ex_v (congrArg (fun d => some (dv d)) e)) (by show 2 ≤ 90000; decide) (gw_name (by simp)) (fun d hd => gt_name) (fun d hd m => et_yes) (fun d hd _ m => ex_isi (ex_v rfl)))) rfl) .d) (by show (isI a && (isI b && true)) = _; rw [Bool.and_true]))))) pair_two) (fun hb => ?_) fun hb => ?_)
  · exact x_retD q (wv_of (x := false) ex_cB (great_no (by simpa using hb)).1.symm)
  · obtain ⟨a, b, rfl⟩ := twoI_inv (d := d) (by simpa using hb)
    refine x_next (nxt (x_retD q (wv_of (x := decide (1 ≤ b) && decide ((Int.gcd a b : Int) = 1)) (ex_andV (ex_ge (ex_ixT (ds := [.int a, .int b]) (ex_v rfl) ex_cI rfl) ex_cI) (fun _ => ex_eqI (ex_call (ds := [.int a, .int b]) (ea_cons (ex_ixT (ds := [.int a, .int b]) (ex_v rfl) ex_cI rfl) (ea_cons (ex_ixT (ds := [.int a, .int b]) (ex_v rfl) ex_cI rfl) ea_nil)) ⟨a, b, rfl, rfl⟩) ex_cI) (fun _ => rfl)) rfl)))
abbrev S_is_fraction (K : PySem.W.Frag) : Sp := spD K (fun d : PyData => [d]) (fun _ => True) PyData.bool (fun d x => x = isF d)
abbrev S_law_is_fraction (K : PySem.W.Frag) : Sp := S_is_fraction K
theorem greatF_inv {d : PyData} (h : greatF d = true) : ∃ a b, d = .tuple [.int a, .int b] := by
  unfold greatF at h
  split at h
  · exact ⟨_, _, rfl⟩
  · exact nomatch h
theorem isF_great {d : PyData} (h : greatF d = false) : isF d = false := by
  unfold isF
  split
  · rename_i a b
    have h : (decide (1 ≤ b) && decide ((Int.gcd a b : Int) = 1)) = false := h
    rw [h]; rfl
  · rfl
theorem okd_is_fraction (Fn : Fun K "is_fraction" "is_fraction" s_is_fraction f fd) (T : Bt P mg base) (D_is_great_fraction : Df P w K mg base 42 "is_great_fraction" ["value"] (S_is_great_fraction K)) : FnOk P w K mg base CX0 43 f fd ["value"] (S_is_fraction K) := by
  refine fn_D Fn sc_is_fraction (by decide) (fun _ => rfl) fun cdv A outer s H E hr => ⟨_, (pss_one (ps_ret (pe_and (pe_callD D_is_great_fraction (hr.mono (by decide)) (by rfl) (pa_cons (pv 0) pa_nil)) (pe_and (pe_cmpR op_le (pe_ix (r := rIxT K) ix_tup (pv 0) pe_int (fun _ _ => rfl)) (pe_glob (v := .int 1000000000000000000000000000000) rfl T.c_MAX_NUMBER.choose_spec ⟨_, rfl⟩) (nomark _)) (pe_one (pe_cmpR op_le (pe_callB call_abs (by rfl) T.n_abs (by decide +kernel) (pa_cons (pe_ix (r := rIxT K) ix_tup (pv 0) pe_int (fun _ _ => rfl)) pa_nil)) (pe_glob (v := .int 1000000000000000000000000000000) rfl T.c_MAX_NUMBER.choose_spec ⟨_, rfl⟩) (nomark _))))))), ?_⟩
  rintro B Q d rfl _ q
  show Ho B _ [dv d] []
  have hc : EX B (tCall (S_is_great_fraction B.K) [] E0 (tCons (tVar 0) tNil)) [dv d] [] (.d (.bool (greatF d))) [] := ex_of (e := PyData.bool) fun κ k => w_callD (wa_x (ex_v rfl) (wa_nil ⟨d, rfl, trivial, fun x hx => hx ▸ k⟩))
  cases hg : greatF d with
  | false =>
    rw [hg] at hc
    exact x_retD q (wv_of (x := false) (ex_andV (b := false) (c := false) hc (fun h => nomatch h) (fun _ => rfl)) (isF_great hg).symm)
  | true =>
    rw [hg] at hc
    obtain ⟨a, b, rfl⟩ := greatF_inv hg
    refine x_retD q (wv_of (x := decide (b ≤ 10 ^ 30) && inN a) (ex_andV (b := true) (c := decide (b ≤ 10 ^ 30) && inN a) hc (fun _ => ex_andV (ex_le (ex_ixT (ds := [.int a, .int b]) (ex_v rfl) ex_cI rfl) (ex_int ex_cI (by decide))) (fun _ => ex_boolE (ex_le (ex_int (ex_abs (ex_ixT (ds := [.int a, .int b]) (ex_v rfl) ex_cI rfl)) (abs_if a)) (ex_int ex_cI (by decide))) rfl) (fun _ => rfl)) (fun h => nomatch h)) ?_)
    have h : (decide (1 ≤ b) && decide ((Int.gcd a b : Int) = 1)) = true := hg
    show _ = (decide (1 ≤ b) && decide ((Int.gcd a b : Int) = 1) && decide (b ≤ 10 ^ 30) && inN a)
    rw [h, Bool.true_and]
end K82

/-! ## B9 -/
set_option Elab.async false
set_option linter.all false
set_option maxRecDepth 100000
set_option maxHeartbeats 4000000
set_option autoImplicit false
namespace K82
open PySem L2 Fz K80 Means
variable {P : Program} {w : World} {K : PySem.W.Frag} {mg : Str → Option Value} {base : Heap} {f : Addr} {fd : FuncData}
/-! ### the first thing that is no fraction -/
def oddUp (ds : List PyData) (i : Nat) : List Int := ((List.range i).filter fun j => !isF (ds.getD j .none)).map fun j : Nat => (j : Int)
def oddOf (ds : List PyData) : PyData := match oddUp ds ds.length with
  | [] => .none
  | i :: _ => .tuple [.str "number", .int i]
def meansErr : PyData → PyData
  | .tuple ds => if 8 < ds.length then .str "many" else oddOf ds
  | _ => .str "form"
theorem oddUp_succ (ds : List PyData) (i : Nat) : oddUp ds (i + 1) = oddUp ds i ++ if isF (ds.getD i .none) then [] else [(i : Int)] := by
  unfold oddUp
  rw [List.range_succ, List.filter_append, List.map_append]
  congr 1
  cases h : isF (ds.getD i .none)
  · rw [List.filter_cons_of_pos (by rw [h]; rfl)]; rfl
  · rw [List.filter_cons_of_neg (by rw [h]; simp)]; rfl
theorem oddUp_pre (ds : List PyData) (i : Nat) : ∀ k, ∃ r, oddUp ds (i + k) = oddUp ds i ++ r
  | 0 => ⟨[], by simp⟩
  | k + 1 => by
    obtain ⟨r, h⟩ := oddUp_pre ds i k
    exact ⟨_, by rw [← Nat.add_assoc, oddUp_succ, h, List.append_assoc]⟩
theorem getD_of {ds : List PyData} {i : Nat} {d : PyData} (h : ds[i]? = some d) : ds.getD i .none = d := by rw [List.getD_eq_getElem?_getD, h]; rfl
abbrev S_means_error (K : PySem.W.Frag) : Sp := spD K (fun d : PyData => [d]) (fun _ => True) eD (fun d x => x = meansErr d)
abbrev S_law_word (K : PySem.W.Frag) : Sp := S_means_error K
theorem tup_of {d : PyData} (h : (!isTup d) = false) : ∃ ds, d = .tuple ds := by
  cases d with
  | tuple ds => exact ⟨ds, rfl⟩
  | _ => exact nomatch h
theorem form_of {d : PyData} (h : (!isTup d) = true) : meansErr d = .str "form" := by
  cases d with
  | tuple ds => exact nomatch h
  | _ => rfl
theorem okd_means_error (Fn : Fun K "means_error" "means_error" s_means_error f fd) (T : Bt P mg base) (D_is_fraction : Df P w K mg base 43 "is_fraction" ["value"] (S_is_fraction K)) : FnOk P w K mg base CX0 44 f fd ["value"] (S_means_error K) := by
  refine fn_D Fn sc_means_error (by decide) (fun _ => rfl) fun cdv A outer s H E hr => ⟨_, (pss_cons (ps_if (pt_not (pt_val (pe_callB (r := rIsi K) call_isi (by rfl) T.n_isinstance (by decide +kernel) (pa_cons (pv 0) (pa_cons (pe_bltn (v := .ty "tuple") (u := .type "tuple") rfl T.n_tuple (by decide +kernel) rfl) pa_nil))))) (pss_one (ps_ret pe_str)) pss_nil)
      (pss_cons (ps_if (pt_cmpR op_gt (pe_callB (r := Evl.rLenS K) call_len_seq (by rfl) T.n_len (by decide +kernel) (pa_cons (pv 0) pa_nil)) (pe_glob (v := .int 8) rfl T.c_MAX_MEANS.choose_spec ⟨_, rfl⟩) (nomark _)) (pss_one (ps_ret pe_str)) pss_nil)
      (pss_cons (ps_setLc (g := gTup K 2 (gCons (gName 2) (gCons (gName 3) gNil))) (i := 1) (own := [("place", 2), ("item", 3)]) rfl sc_means_error.nd rfl rfl (sw_true rfl rfl rfl (by decide +kernel)) (pi_enumT (by rfl) T.n_enumerate (pa_cons (pv 0) pa_nil)) (blkOk_by (own := [("place", 2), ("item", 3)]) (N := ["value", "odd", "place", "item"]) (sc := defScope s_means_error) (by decide +kernel)) (fun _ _ _ _ _ => (pg_tup rfl (pgs_cons (pg_name (i := 2) sc_means_error.nd rfl (Or.inl rfl)) (pgs_cons (pg_name (i := 3) sc_means_error.nd rfl (Or.inl rfl)) pgs_nil)))) (fun _ _ _ _ _ => (pts_one (pt_not (pt_val (pe_callD D_is_fraction (hr.mono (by decide)) (by rfl) (pa_cons (pv 3) pa_nil)))))) (fun _ _ _ _ _ => (pv 2)))
      (pss_one (ps_ret (pe_ifExp (pt_cmpR (r := rNeD K) (op_neD hr.units) (pv 1) (pe_lst pa_nil) (nomark _)) (pe_tup (pa_cons pe_str (pa_cons (pe_ix (r := rIxL K) ix_list (pv 1) pe_int (fun _ _ => rfl)) pa_nil))) pe_non)))))), ?_⟩
  rintro B Q d rfl _ q
  show Ho B _ [dv d, none, none, none] []
  refine x_seq (x_if (b := !isTup d) (et_not (et_test (ex_isTup (ex_v rfl)))) (fun hb => ?_) fun hb => ?_)
  · exact x_retD q (wv_of (x := PyData.str "form") ex_cS (form_of hb).symm)
  obtain ⟨ds, rfl⟩ := tup_of hb
  refine x_next (nxt (x_seq (x_if (et_test (ex_gt (ex_lenT (ds := ds) (ex_v rfl) rfl) (ex_cI (i := 8)))) (fun hc => ?_) fun hc => ?_)))
  · have hc : (8 : Int) < (ds.length : Int) := of_decide_eq_true hc
    exact x_retD q (wv_of (x := PyData.str "many") ex_cS (by show _ = if _ then _ else _; rw [if_pos (by omega)]))
  have hc : ¬ (8 : Int) < (ds.length : Int) := of_decide_eq_false hc
  have hm : meansErr (.tuple ds) = oddOf ds := by show (if _ then _ else _) = _; rw [if_neg (by omega)]
  refine x_next (nxt (x_seq (x_set (a := .d (.list ((oddUp ds ds.length).map PyData.int))) (ex_frz (en_lcET (xs := ds) (ds := (oddUp ds ds.length).map PyData.int) (Lb := []) (ea_cons (ex_v rfl) ea_nil) (fun i acc L => acc = (oddUp ds i).map PyData.int ∧ L = []) ⟨rfl, rfl⟩ (gw_tup2 (by simp) (by simp)) (fun i d hd acc L' ⟨h1, h2⟩ => ?_) (fun acc L' ⟨h1, h2⟩ => ⟨h1, h2⟩))) ?_)))
  · subst h1 h2
    have hi := (List.getElem?_eq_some_iff.mp hd).1
    refine ⟨?_, _, gt_tup2, !isF d, [], fun m => et_not (et_test (ex_of (e := PyData.bool) fun κ k => w_callD (wa_x (ex_v rfl) (wa_nil ⟨d, rfl, trivial, fun x hx => hx ▸ k⟩)))), fun hb => ⟨.int (i : Int), [], fun m => ex_v rfl, ?_, rfl⟩, fun hb => ⟨?_, rfl⟩⟩
    · rw [List.length_map]
      have : (oddUp ds i).length ≤ i := by
        unfold oddUp
        rw [List.length_map]
        exact Nat.le_trans (List.length_filter_le _ _) (by rw [List.length_range]; exact Nat.le_refl _)
      omega
    · rw [oddUp_succ, getD_of hd]
      have hb : isF d = false := by simpa using hb
      rw [hb, List.map_append]; rfl
    · rw [oddUp_succ, getD_of hd]
      have hb : isF d = true := by simpa using hb
      rw [hb, List.map_append]; exact (List.append_nil _).symm
  · have hq : meansErr (.tuple ds) = oddOf ds := hm
    unfold oddOf at hq
    refine nxt (x_retD q (wv_of (L' := []) (x := meansErr (.tuple ds)) (ex_if (L2 := []) (et_test (ex_neNil (ds := (oddUp ds ds.length).map PyData.int) (ex_v rfl) .d ?_)) (fun h => ?_) fun h => ?_) rfl))
    · exact shaped_ints _
    · match ho : oddUp ds ds.length with
      | [] => rw [ho] at h; exact nomatch h
      | i :: r =>
        rw [ho] at hq
        rw [hq]
        exact ex_tup (ds := [.str "number", .int i]) (ea_cons ex_cS (ea_cons (ex_atl (e := PyData.int) (xs := i :: r) (n := 0) (ex_v rfl) ex_cI .d rfl rfl) ea_nil)) (Nat.le_of_ble_eq_true rfl)
    · match ho : oddUp ds ds.length with
      | i :: r => rw [ho] at h; exact nomatch h
      | [] =>
        rw [ho] at hq
        rw [hq]
        exact ex_cN
theorem okd_law_word (Fn : Fun K "_law_word" "_law_word" s_law_word f fd) (T : Bt P mg base) (D_law_is_fraction : Df P w K mg base 42 "_law_is_fraction" ["item"] (S_law_is_fraction K)) : FnOk P w K mg base CX0 43 f fd ["value"] (S_law_word K) := by
  refine fn_D Fn sc_law_word (by decide) (fun _ => rfl) fun cdv A outer s H E hr => ⟨_, (pss_cons (ps_if (pt_not (pt_val (pe_callB (r := rIsi K) call_isi (by rfl) T.n_isinstance (by decide +kernel) (pa_cons (pv 0) (pa_cons (pe_bltn (v := .ty "tuple") (u := .type "tuple") rfl T.n_tuple (by decide +kernel) rfl) pa_nil))))) (pss_one (ps_ret pe_str)) pss_nil)
      (pss_cons (ps_if (pt_cmpR op_gt (pe_callB (r := Evl.rLenS K) call_len_seq (by rfl) T.n_len (by decide +kernel) (pa_cons (pv 0) pa_nil)) pe_int (nomark _)) (pss_one (ps_ret pe_str)) pss_nil)
      (pss_cons (ps_for PassesOwn.never rfl (pi_enumT (by rfl) T.n_enumerate (pa_cons (pv 0) pa_nil)) (pg_tup rfl (pgs_cons (pg_name (i := 1) sc_law_word.nd rfl (Or.inl rfl)) (pgs_cons (pg_name (i := 2) sc_law_word.nd rfl (Or.inl rfl)) pgs_nil))) (pss_one (ps_if (pt_not (pt_val (pe_callD D_law_is_fraction (hr.mono (by decide)) (by rfl) (pa_cons (pv 2) pa_nil)))) (pss_one (ps_ret (pe_tup (pa_cons pe_str (pa_cons (pv 1) pa_nil))))) pss_nil)))
      (pss_one (ps_ret pe_non))))), ?_⟩
  rintro B Q d rfl _ q
  show Ho B _ [dv d, none, none] []
  refine x_seq (x_if (b := !isTup d) (et_not (et_test (ex_isTup (ex_v rfl)))) (fun hb => ?_) fun hb => ?_)
  · exact x_retD q (wv_of (x := PyData.str "form") ex_cS (form_of hb).symm)
  obtain ⟨ds, rfl⟩ := tup_of hb
  refine x_next (nxt (x_seq (x_if (et_test (ex_gt (ex_lenT (ds := ds) (ex_v rfl) rfl) (ex_cI (i := 8)))) (fun hc => ?_) fun hc => ?_)))
  · have hc : (8 : Int) < (ds.length : Int) := of_decide_eq_true hc
    exact x_retD q (wv_of (x := PyData.str "many") ex_cS (by show _ = if _ then _ else _; rw [if_pos (by omega)]))
  have hc : ¬ (8 : Int) < (ds.length : Int) := of_decide_eq_false hc
  have hm : meansErr (.tuple ds) = oddOf ds := by show (if _ then _ else _) = _; rw [if_neg (by omega)]
  refine x_next (nxt (x_seq (x_forET (ds := ds) (ea_cons (ex_v rfl) ea_nil) (fun v i ε L => oddUp ds i = [] ∧ ε = [dv (.tuple ds), none, none] ∧ L = [.know v (.tuple ds)]) (fun v => ⟨by rfl, rfl, rfl⟩) (fun v i ε' L' ⟨_, _, h⟩ => by rw [h]; simp) ?_ ?_)))
  · rintro v i d ε' L' hd ⟨ho, rfl, rfl⟩
    have hi := (List.getElem?_eq_some_iff.mp hd).1
    refine ⟨_, gt_tup2 (d := .int (i : Int)) (e := d), x_if (b := !isF d) (et_not (et_test (ex_of (e := PyData.bool) fun κ k => w_callD (wa_x (ex_v rfl) (wa_nil ⟨d, rfl, trivial, fun x hx => hx ▸ k⟩))))) (fun hb => ?_) fun hb => ?_⟩
    · have hb : isF d = false := by simpa using hb
      refine x_retD q (wv_of (x := .tuple [.str "number", .int (i : Int)]) (ex_tup (ds := [.str "number", .int (i : Int)]) (ea_cons ex_cS (ea_cons (ex_v rfl) ea_nil)) (Nat.le_of_ble_eq_true rfl)) ?_)
      rw [hm]
      obtain ⟨r, hr⟩ := oddUp_pre ds (i + 1) (ds.length - (i + 1))
      rw [show i + 1 + (ds.length - (i + 1)) = ds.length by omega, oddUp_succ, ho, getD_of hd, hb] at hr
      unfold oddOf
      rw [hr]; rfl
    · have hb : isF d = true := by simpa using hb
      refine x_next (nxt (x_end ⟨?_, rfl, rfl⟩))
      rw [oddUp_succ, ho, getD_of hd, hb]; rfl
  · rintro v ε' L' ⟨ho, rfl, rfl⟩
    refine nxt (x_retD q (wv_of (x := PyData.none) ex_cN ?_))
    rw [hm]
    unfold oddOf
    rw [ho]
theorem pair_odd {d : PyData} (h : pairT (fun _ _ => false) d = true) : isF d = false := by
  unfold isF
  split
  · exact nomatch h
  · rfl
/-- a number within the bound -/
def okN : PyData → Bool
  | .int i => inN i
  | _ => false
theorem okN_inv {d : PyData} (h : okN d = true) : ∃ i, d = .int i ∧ inN i = true := by
  cases d with
  | int i => exact ⟨i, rfl, h⟩
  | _ => exact nomatch h
theorem isF_ok {a b : PyData} (h : isF (.tuple [a, b]) = true) : okN a = true ∧ okN b = true := by
  unfold isF at h
  split at h
  · rename_i x y e
    cases e
    rw [Bool.and_eq_true, Bool.and_eq_true, Bool.and_eq_true] at h
    refine ⟨h.2, ?_⟩
    have h1 := of_decide_eq_true h.1.1.1
    have h2 := of_decide_eq_true h.1.2
    exact decide_eq_true (by omega)
  · exact nomatch h
theorem eqv_two (x y a b : Int) : PyData.eqv (.tuple [.int x, .int y]) (.tuple [.int a, .int b]) = (decide (x = a) && decide (y = b)) := by
  show (PyData.eqv (.int x) (.int a) && (PyData.eqv (.int y) (.int b) && true)) = _
  rw [Bool.and_true, eq_int, eq_int]
theorem frac_is {a b : Int} (hb : 0 < b) : PyData.eqv (frQ (Rat.divInt a b)) (.tuple [.int a, .int b]) = decide ((Int.gcd a b : Int) = 1) := by
  rw [← frQ_of hb]
  show PyData.eqv (.tuple [.int _, .int _]) _ = _
  rw [eqv_two]
  have hg : 0 < (Int.gcd a b : Int) := gcd_pos hb
  by_cases c : (Int.gcd a b : Int) = 1
  · rw [c, Int.ediv_one, Int.ediv_one]; simp
  · rw [decide_eq_false c, Bool.and_eq_false_iff]
    right
    refine decide_eq_false fun e => ?_
    have h1 : b / (Int.gcd a b : Int) * (Int.gcd a b : Int) = b := Int.ediv_mul_cancel (Int.gcd_dvd_right ..)
    rw [e] at h1
    have h2 : b * (Int.gcd a b : Int) = b * 1 := by rw [h1, Int.mul_one]
    exact c (Int.eq_of_mul_eq_mul_left (by omega) h2)
theorem okd_law_is_fraction (Fn : Fun K "_law_is_fraction" "_law_is_fraction" s_law_is_fraction f fd) (T : Bt P mg base) (D_law_fraction : Df P w K mg base 41 "_law_fraction" ["above", "below"] (S_law_fraction K)) : FnOk P w K mg base CX0 42 f fd ["item"] (S_law_is_fraction K) := by
  refine fn_D Fn sc_law_is_fraction (by decide) (fun _ => rfl) fun cdv A outer s H E hr => ⟨_, (pss_cons (ps_if (PW.pt (pw_or (pt_not (pt_val (pe_callB (r := rIsi K) call_isi (by rfl) T.n_isinstance (by decide +kernel) (pa_cons (pv 0) (pa_cons (pe_bltn (v := .ty "tuple") (u := .type "tuple") rfl T.n_tuple (by decide +kernel) rfl) pa_nil))))) (pw_or1 (pt_cmpR op_ne (pe_callB (r := Evl.rLenS K) call_len_seq (by rfl) T.n_len (by decide +kernel) (pa_cons (pv 0) pa_nil)) pe_int (nomark _))))) (pss_one (ps_ret pe_bl)) pss_nil)
      (pss_cons (ps_for PassesOwn.never rfl (pi_tup (pv 0)) (pg_name (i := 1) sc_law_is_fraction.nd rfl (Or.inl rfl)) (pss_one (ps_if (PW.pt (pw_or (pt_not (pt_val (pe_callB (r := rIsi K) call_isi (by rfl) T.n_isinstance (by decide +kernel) (pa_cons (pv 1) (pa_cons (pe_bltn (v := .ty "int") (u := .type "int") rfl T.n_int (by decide +kernel) rfl) pa_nil))))) (pw_or (pt_val (pe_callB (r := rIsi K) call_isi (by rfl) T.n_isinstance (by decide +kernel) (pa_cons (pv 1) (pa_cons (pe_bltn (v := .ty "bool") (u := .type "bool") rfl T.n_bool (by decide +kernel) rfl) pa_nil)))) (pw_or1 (pt_cmpR op_gt (pe_callB call_abs (by rfl) T.n_abs (by decide +kernel) (pa_cons (pv 1) pa_nil)) (pe_op op_pow pe_int pe_int) (nomark _)))))) (pss_one (ps_ret pe_bl)) pss_nil)))
      (pss_one (ps_ret (pe_and (pe_cmpR op_gt (pe_ix (r := rIxT K) ix_tup (pv 0) pe_int (fun _ _ => rfl)) pe_int (nomark _)) (pe_one (pe_cmpR (r := rEqD K) (op_eqD hr.units) (pe_callD D_law_fraction (hr.mono (by decide)) (by rfl) (pa_cons (pe_ix (r := rIxT K) ix_tup (pv 0) pe_int (fun _ _ => rfl)) (pa_cons (pe_ix (r := rIxT K) ix_tup (pv 0) pe_int (fun _ _ => rfl)) pa_nil))) (pv 0) (nomark _)))))))), ?_⟩
  rintro B Q d rfl _ q
  show Ho B _ [dv d, none] []
  refine x_seq (x_if (b := pairT (fun _ _ => false) d) (et_two (et_not (et_test (ex_isTup (ex_v rfl)))) (fun ds e => et_test (ex_neI (ex_lenT (ds := ds) (ex_v (congrArg (fun d => some (dv d)) e)) rfl) ex_cI))) (fun hb => ?_) fun hb => ?_)
  · exact x_retD q (wv_of (x := false) ex_cB (pair_odd hb).symm)
  · obtain ⟨a, b, rfl, _⟩ := pair_no hb
    refine x_next (nxt (x_seq (x_forT (ds := [a, b]) (ex_v rfl) (fun v i ε L => (∀ j x, j < i → [a, b][j]? = some x → okN x = true) ∧ ε = [dv (.tuple [a, b]), none] ∧ L = [.know v (.tuple [a, b])]) (fun v => ⟨fun j x h => absurd h (by omega), rfl, rfl⟩) (fun v i ε' L' ⟨_, _, h⟩ => by rw [h]; simp) ?_ ?_)))
    · rintro v i d ε' L' hd ⟨ho, rfl, rfl⟩
      refine ⟨_, gt_name, x_if (L1 := [.know v (.tuple [a, b])]) (b := !okN d) ?_ (fun hb => ?_) fun hb => ?_⟩
      · have h1 : ∀ {c : Bool}, isInt d = c → ETt B (tNot (tB (tCB (rIsi B.K) (tCons (tVar 1) (tCons (tC (.ty "int")) tNil))))) [dv (.tuple [a, b]), dv d] [.know v (.tuple [a, b])] (!c) [.know v (.tuple [a, b])] := fun h => et_not (et_is (et_B (ex_isInt (ex_v rfl))) h)
        have h2 : ∀ {c : Bool}, isBl d = c → ETt B (tB (tCB (rIsi B.K) (tCons (tVar 1) (tCons (tC (.ty "bool")) tNil)))) [dv (.tuple [a, b]), dv d] [.know v (.tuple [a, b])] c [.know v (.tuple [a, b])] := fun h => et_is (et_B (ex_isBl (ex_v rfl))) h
        cases d with
        | int z => exact et_is (et_or (c := !okN (.int z)) (h1 (c := true) rfl) (fun _ => et_is (et_or (c := !okN (.int z)) (h2 (c := false) rfl) (fun _ => et_test (ex_boolE (ex_gt (ex_int (ex_abs (ex_v rfl)) (abs_if z)) (ex_pow ex_cI ex_cI ⟨by decide, by decide, by decide⟩)) (by show decide (_ < _) = !decide (_ ≤ _); rw [← decide_not]; exact decide_eq_decide.mpr ⟨fun h => by intro h'; exact absurd h (Int.not_lt.mpr h'), fun h => Int.not_le.mp h⟩))) (fun h => nomatch h)) rfl) (fun h => nomatch h)) rfl
        | bool z => exact et_is (et_or (c := true) (h1 (c := true) rfl) (fun _ => et_is (et_or (c := true) (h2 (c := true) rfl) (fun h => nomatch h) (fun _ => rfl)) rfl) (fun h => nomatch h)) rfl
        | _ => exact et_is (et_or (c := true) (h1 (c := false) rfl) (fun h => nomatch h) (fun _ => rfl)) rfl
      · have hb : okN d = false := by simpa using hb
        refine x_retD q (wv_of (x := false) ex_cB ?_)
        cases hF : isF (.tuple [a, b]) with
        | false => rfl
        | true =>
          obtain ⟨h1, h2⟩ := isF_ok hF
          have : okN d = true := by
            match i, hd with
            | 0, hd => cases hd; exact h1
            | 1, hd => cases hd; exact h2
          rw [hb] at this; cases this
      · have hb : okN d = true := by simpa using hb
        refine x_next (nxt (x_end ⟨fun j x hj hx => ?_, rfl, rfl⟩))
        by_cases c : j < i
        · exact ho j x c hx
        · have : j = i := by omega
          subst this
          rw [hd] at hx; cases hx; exact hb
    · rintro v ε' L' ⟨ho, rfl, rfl⟩
      obtain ⟨i, rfl, hi⟩ := okN_inv (ho 0 a (by show 0 < 2; decide) rfl)
      obtain ⟨j, rfl, hj⟩ := okN_inv (ho 1 b (by show 1 < 2; decide) rfl)
      have hj' : (j.natAbs : Int) ≤ 10 ^ 30 := of_decide_eq_true hj
      refine nxt (x_retD q (wv_of (x := decide (0 < j) && decide ((Int.gcd i j : Int) = 1)) (ex_andV (b := decide (0 < j)) (ex_gt (ex_ixT (ds := [.int i, .int j]) (ex_v rfl) ex_cI rfl) ex_cI) (fun hp => ?_) (fun _ => rfl)) ?_))
      · have hp : 0 < j := of_decide_eq_true hp
        refine ex_boolE (ex_eqD (d := frQ (Rat.divInt i j)) (e := .tuple [.int i, .int j]) (ex_of (e := frQ) fun κ k => w_callD (wa_x (ex_ixT (ds := [.int i, .int j]) (ex_v rfl) ex_cI rfl) (wa_x (ex_ixT (ds := [.int i, .int j]) (ex_v rfl) ex_cI rfl) (wa_nil ⟨(i, j), rfl, hp, fun x hx => hx ▸ k⟩)))) (ex_v rfl) rfl rfl) (frac_is hp)
      · show _ = (decide (1 ≤ j) && decide ((Int.gcd i j : Int) = 1) && decide (j ≤ 10 ^ 30) && inN i)
        rw [hi, Bool.and_true]
        have : decide (j ≤ (10 : Int) ^ 30) = true := decide_eq_true (by omega)
        rw [this, Bool.and_true]
        congr 1
end K82

/-! ## WW -/
/-! WW: what the law's tables hold. Plain mathematics. -/
set_option autoImplicit false
set_option linter.all false
namespace Means
theorem typesN_len : ∀ n, (typesN n).length = n + 1
  | 0 => rfl
  | n + 1 => by show (typesN n ++ [_]).length = _; rw [List.length_append, typesN_len n]; rfl
def rowsUp (found : List (List Mon)) (j s : Nat) : List Mon := (List.range s).flatMap fun s => ((found.getD (j - (s + 1)) []).filter fun rest => rest.isEmpty || decide (rest.headD 0 ≤ s + 1)).map fun rest => (s + 1) :: rest
theorem rowsUp_succ (found : List (List Mon)) (j s : Nat) : rowsUp found j (s + 1) = rowsUp found j s ++ ((found.getD (j - (s + 1)) []).filter fun rest => rest.isEmpty || decide (rest.headD 0 ≤ s + 1)).map fun rest => (s + 1) :: rest := by
  unfold rowsUp
  rw [List.range_succ, List.flatMap_append, List.flatMap_singleton]
theorem rows_small : ∀ j, j ≤ 7 → ∀ s, s ≤ 8 → (rowsUp (typesN j) (j + 1) s).length ≤ 100 := by
  have key : ∀ (j : Fin 8) (s : Fin 9), (rowsUp (typesN j.val) (j.val + 1) s.val).length ≤ 100 := by decide +kernel
  exact fun j hj s hs => key ⟨j, by omega⟩ ⟨s, by omega⟩
theorem types_small : ∀ j, j ≤ 8 → ∀ s, ((typesN j).getD s []).length ≤ 100 := by
  have key : ∀ (j : Fin 9) (s : Fin 10), ((typesN j.val).getD s.val []).length ≤ 100 := by decide +kernel
  intro j hj s
  by_cases c : s < 10
  · exact key ⟨j, by omega⟩ ⟨s, c⟩
  · rw [List.getD_eq_getElem?_getD, List.getElem?_eq_none (by rw [typesN_len]; omega)]
    exact Nat.zero_le _
def flatT (j : Nat) : Bool := (typesN j).all fun r => r.all fun sz => decide (sz.length ≤ 8)
theorem flats : ∀ j, j ≤ 8 → flatT j = true := by
  have key : ∀ (j : Fin 9), flatT j.val = true := by decide +kernel
  exact fun j hj => key ⟨j, by omega⟩
theorem flat_get {j : Nat} (hj : j ≤ 8) {s : Nat} {sz : Mon} (h : sz ∈ (typesN j).getD s []) : sz.length ≤ 8 := by
  have h1 := flats j hj
  unfold flatT at h1
  by_cases c : s < (typesN j).length
  · have h2 := List.all_eq_true.mp h1 ((typesN j).getD s []) (by rw [List.getD_eq_getElem?_getD, List.getElem?_eq_getElem c]; exact List.getElem_mem c)
    exact of_decide_eq_true (List.all_eq_true.mp h2 sz h)
  · rw [List.getD_eq_getElem?_getD, List.getElem?_eq_none (by omega)] at h
    simp at h
/-- what each row of the table keeps -/
def comm (j i : Nat) : Mon := (List.range i).flatMap fun s => List.replicate (j / (s + 1)) (s + 1)
def subM : Mon → Mon → Bool
  | [], _ => true
  | a :: m, c => c.contains a && subM m (c.erase a)
structure GoodS (j : Nat) (sz : Mon) : Prop where
  len : sz.length ≤ j
  one : 0 < j → 1 ≤ sz.length
  low : ∀ a ∈ sz, 1 ≤ a
  top : ∀ a ∈ sz, a ≤ j
  same : ∀ i, i ≤ j → 0 < sameN sz i ∧ sameN sz i < 2 ^ 20
  size : ∀ i, i ≤ sz.length → 0 < sizesN (sz.take i) (sameN sz j) ∧ sizesN (sz.take i) (sameN sz j) < 2 ^ 20
  sub : subM sz (comm j j) = true
def goodB (j : Nat) (sz : Mon) : Bool := decide (sz.length ≤ j) && (decide (j = 0) || decide (1 ≤ sz.length)) && sz.all (fun a => decide (1 ≤ a)) && sz.all (fun a => decide (a ≤ j)) && (List.range (j + 1)).all (fun i => decide (0 < sameN sz i) && decide (sameN sz i < 2 ^ 20)) && (List.range (sz.length + 1)).all (fun i => decide (0 < sizesN (sz.take i) (sameN sz j)) && decide (sizesN (sz.take i) (sameN sz j) < 2 ^ 20)) && subM sz (comm j j)
theorem goods : ∀ j : Fin 9, ((typesN 8).getD j.val []).all (goodB j.val) = true := by decide +kernel
theorem good_of {j : Nat} (hj : j ≤ 8) {sz : Mon} (h : sz ∈ (typesN 8).getD j []) : GoodS j sz := by
  have h1 := List.all_eq_true.mp (goods ⟨j, by omega⟩) sz h
  unfold goodB at h1
  simp only [Bool.and_eq_true, Bool.or_eq_true, decide_eq_true_eq, List.all_eq_true, List.mem_range] at h1
  obtain ⟨⟨⟨⟨⟨⟨a, b⟩, c⟩, d⟩, e⟩, f⟩, g⟩ := h1
  exact ⟨a, fun h => by omega, c, d, fun i hi => e i (by omega), fun i hi => f i (by omega), g⟩
def coefB (k : Kind) (b : Bool) : Bool := (List.range 9).all fun j => (numsAt k b j).all fun y => decide (y.2.natAbs < 2 ^ 40)
theorem coefs (k : Kind) (b : Bool) : coefB k b = true := by cases k <;> cases b <;> decide +kernel
theorem coef_of {k : Kind} {b : Bool} {j : Nat} (hj : j ≤ 8) {y : Mon × Int} (h : y ∈ numsAt k b j) : y.2.natAbs < 2 ^ 40 := by
  have h1 := List.all_eq_true.mp (coefs k b) j (List.mem_range.mpr (by omega))
  exact of_decide_eq_true (List.all_eq_true.mp h1 y h)
theorem numsAt_len {k : Kind} {b : Bool} {j : Nat} : (numsAt k b j).length ≤ 100 := by
  unfold numsAt
  rw [List.length_map]
  exact types_small 8 (by decide) j
theorem numsAt_good {k : Kind} {b : Bool} {j : Nat} (hj : j ≤ 8) {y : Mon × Int} (h : y ∈ numsAt k b j) : GoodS j y.1 := by
  unfold numsAt at h
  obtain ⟨sz, hs, rfl⟩ := List.mem_map.mp h
  exact good_of hj hs
theorem fc_le : ∀ n, n ≤ 15 → fc n < 2 ^ 41 := by
  have key : ∀ n : Fin 16, fc n.val < 2 ^ 41 := by decide
  exact fun n hn => key ⟨n, by omega⟩
theorem fc_pos : ∀ n, 0 < fc n
  | 0 => by decide
  | n + 1 => Nat.mul_pos (fc_pos n) (Nat.succ_pos n)
theorem sizes_app (l : Mon) (a s : Nat) : sizesN (l ++ [a]) s = sizesN l s * fc a := by
  unfold sizesN
  rw [List.foldl_append]; rfl
/-! ### products -/
def prI (d : Nat → Int) : Mon → Int
  | [] => 1
  | a :: m => d a * prI d m
section
variable {d n : Nat → Int}
theorem pr_app : ∀ (a b : Mon), prI d (a ++ b) = prI d a * prI d b
  | [], b => by show prI d b = 1 * _; rw [Int.one_mul]
  | x :: a, b => by show d x * prI d (a ++ b) = d x * prI d a * prI d b; rw [pr_app a b, Int.mul_assoc]
theorem pr_one (a : Nat) : prI d [a] = d a := by show d a * 1 = _; rw [Int.mul_one]
theorem pr_pos (h : ∀ a, 0 < d a) : ∀ m, 0 < prI d m
  | [] => by show (0 : Int) < 1; decide
  | a :: m => Int.mul_pos (h a) (pr_pos h m)
theorem pr_le {M : Nat} (h : ∀ a, (d a).natAbs ≤ M) : ∀ m : Mon, (prI d m).natAbs ≤ M ^ m.length
  | [] => Nat.le_refl 1
  | a :: m => by
    show (d a * prI d m).natAbs ≤ _
    rw [Int.natAbs_mul, List.length_cons, Nat.pow_succ, Nat.mul_comm (M ^ m.length)]
    exact Nat.mul_le_mul (h a) (pr_le h m)
theorem pr_erase {a : Nat} : ∀ {c : Mon}, a ∈ c → prI d c = d a * prI d (c.erase a)
  | b :: c, h => by
    rw [List.erase_cons]
    split
    · rename_i e
      have : b = a := by simpa using e
      subst this; rfl
    · rename_i e
      have hne : ¬ b = a := by simpa using e
      have hm : a ∈ c := by
        rcases List.mem_cons.mp h with h | h
        · exact absurd h.symm hne
        · exact h
      show d b * prI d c = d a * (d b * prI d (c.erase a))
      rw [pr_erase hm, Int.mul_left_comm]
theorem pr_sub : ∀ {m c : Mon}, subM m c = true → ∃ k, prI d c = prI d m * k
  | [], c, _ => ⟨_, by show _ = 1 * _; rw [Int.one_mul]⟩
  | a :: m, c, h => by
    have h : (c.contains a && subM m (c.erase a)) = true := h
    rw [Bool.and_eq_true] at h
    obtain ⟨k, hk⟩ := pr_sub h.2
    refine ⟨k, ?_⟩
    rw [pr_erase (by simpa using h.1), hk]
    show _ = d a * prI d m * k
    rw [Int.mul_assoc]
/-- a sum of products, over a common number -/
def toI (n d : Nat → Int) (C : Int) : Poly → Int
  | [] => 0
  | (m, c) :: p => c * prI n m * (C / prI d m) + toI n d C p
theorem to_app {C : Int} : ∀ (a b : Poly), toI n d C (a ++ b) = toI n d C a + toI n d C b
  | [], b => by show toI n d C b = 0 + _; rw [Int.zero_add]
  | (m, c) :: a, b => by
    show c * prI n m * (C / prI d m) + toI n d C (a ++ b) = c * prI n m * (C / prI d m) + toI n d C a + toI n d C b
    rw [to_app a b, Int.add_assoc]
theorem ev_pr {x : Nat → Rat} (hx : ∀ a, x a * (d a : Rat) = (n a : Rat)) : ∀ m, evM x m * (prI d m : Rat) = (prI n m : Rat)
  | [] => by show (1 : Rat) * ((1 : Int) : Rat) = ((1 : Int) : Rat); grind
  | a :: m => by
    show x a * evM x m * ((d a * prI d m : Int) : Rat) = ((n a * prI n m : Int) : Rat)
    rw [Rat.intCast_mul, Rat.intCast_mul, ← ev_pr hx m, ← hx a]; grind
theorem to_ev {x : Nat → Rat} {C : Int} (hx : ∀ a, x a * (d a : Rat) = (n a : Rat)) (hd : ∀ a, 0 < d a) : ∀ p : Poly, (∀ y ∈ p, ∃ k, C = prI d y.1 * k) → (toI n d C p : Rat) = evP x p * (C : Rat)
  | [], _ => by show ((0 : Int) : Rat) = 0 * (C : Rat); grind
  | (m, c) :: p, h => by
    obtain ⟨k, hk⟩ := h (m, c) List.mem_cons_self
    have hp := pr_pos hd m
    have e : C / prI d m = k := by
      rw [hk]; exact Int.mul_ediv_cancel_left k (Int.ne_of_gt hp)
    show ((c * prI n m * (C / prI d m) + toI n d C p : Int) : Rat) = ((c : Rat) * evM x m + evP x p) * (C : Rat)
    rw [e, Rat.intCast_add, to_ev hx hd p fun y hy => h y (List.mem_cons_of_mem _ hy), Rat.intCast_mul, Rat.intCast_mul, ← ev_pr hx m]
    have : (C : Rat) = (prI d m : Rat) * (k : Rat) := by rw [← Rat.intCast_mul, ← hk]
    rw [this]; grind
end
theorem evM_congr {x y : Nat → Rat} : ∀ {m : Mon}, (∀ a ∈ m, x a = y a) → evM x m = evM y m
  | [], _ => rfl
  | a :: m, h => by
    show x a * evM x m = y a * evM y m
    rw [h a List.mem_cons_self, evM_congr fun b hb => h b (List.mem_cons_of_mem _ hb)]
theorem evP_congr {x y : Nat → Rat} : ∀ {p : Poly}, (∀ t ∈ p, ∀ a ∈ t.1, x a = y a) → evP x p = evP y p
  | [], _ => rfl
  | (m, c) :: p, h => by
    show (c : Rat) * evM x m + evP x p = (c : Rat) * evM y m + evP y p
    rw [evM_congr (h (m, c) List.mem_cons_self), evP_congr fun t ht => h t (List.mem_cons_of_mem _ ht)]
theorem comm_len : ∀ j, j ≤ 8 → ∀ i, i ≤ j → (comm j i).length ≤ 24 := by
  have key : ∀ (j : Fin 9) (i : Fin 9), (comm j.val i.val).length ≤ 24 := by decide
  exact fun j hj i hi => key ⟨j, by omega⟩ ⟨i, by omega⟩
theorem comm_succ (j i : Nat) : comm j (i + 1) = comm j i ++ List.replicate (j / (i + 1)) (i + 1) := by
  unfold comm
  rw [List.range_succ, List.flatMap_append, List.flatMap_singleton]
end Means

/-! ## B10 -/
set_option Elab.async false
set_option linter.all false
set_option maxRecDepth 100000
set_option maxHeartbeats 4000000
set_option autoImplicit false
namespace K82
open PySem L2 Fz K80 Means
variable {P : Program} {w : World} {K : PySem.W.Frag} {mg : Str → Option Value} {base : Heap} {f : Addr} {fd : FuncData}
/-! ### the law's tables -/
def fcs (i : Nat) : List Int := (List.range (i + 1)).map fun n => (fc n : Int)
theorem fcs_succ (i : Nat) : fcs (i + 1) = fcs i ++ [(fc (i + 1) : Int)] := by
  unfold fcs
  rw [List.range_succ, List.map_append]; rfl
theorem fcs_at {i n : Nat} (h : n ≤ i) : (fcs i)[n]? = some (fc n : Int) := by
  unfold fcs
  rw [List.getElem?_map, List.getElem?_range (by omega)]; rfl
theorem fcs_end (i : Nat) : ∃ l, fcs i = l ++ [(fc i : Int)] := ⟨(List.range i).map fun n => (fc n : Int), by unfold fcs; rw [List.range_succ, List.map_append]; rfl⟩
theorem fc_bd {n : Nat} (h : n ≤ 15) : Bd 41 (fc n : Int) := by
  unfold Bd
  rw [Int.natAbs_natCast]
  exact fc_le n h
abbrev S_law_factorials (K : PySem.W.Frag) : Sp := spD K (fun _ : Unit => []) (fun _ => True) (eL PyData.int) (fun _ x => x = fcs 15)
theorem okd_law_factorials (Fn : Fun K "_law_factorials" "_law_factorials" s_law_factorials f fd) (T : Bt P mg base)  : FnOk P w K mg base CX0 41 f fd [] (S_law_factorials K) := by
  refine fn_D Fn sc_law_factorials (by decide) (fun _ => rfl) fun cdv A outer s H E hr => ⟨_, (pss_cons (ps_set (i := 0) sc_law_factorials.nd rfl (.inl rfl) (pe_lst (pa_cons pe_int pa_nil)))
      (pss_cons (ps_for PassesOwn.never rfl (pi_range2 (by rfl) T.n_range (pa_cons pe_int (pa_cons pe_int pa_nil))) (pg_name (i := 1) sc_law_factorials.nd rfl (Or.inl rfl)) (pss_one (ps_expr (pe_bm PySem.F.plainAttrs_list PySem.F.slot_list_append PySem.F.type_list_append mt_append (pv 0) (pa_cons (pe_op op_mulW (pe_ix (r := rIxL K) ix_list (pv 0) (pe_un un_neg pe_int) (fun _ _ => rfl)) (pv 1)) pa_nil)))))
      (pss_one (ps_ret (pv 0))))), ?_⟩
  rintro B Q y rfl _ q
  show Ho B _ [none, none] []
  refine x_seq (x_setN (en_lst (ds := [.int 1]) (ea_cons ex_cI ea_nil) (Nat.le_of_ble_eq_true rfl)) fun p hp => ?_)
  refine x_sq (x_forR2 (lo := 1) (n := 16) (ea_cons ex_cI (ea_cons ex_cI ea_nil)) (by decide) (fun i ε L => ε = [lref p, none] ∧ L = [.lst p ((fcs i).map PyData.int)]) ⟨rfl, rfl⟩ ?_ ?_)
  · rintro i ε' L' hi ⟨rfl, rfl⟩
    have hi : i < 15 := by omega
    obtain ⟨l, hl⟩ := fcs_end i
    have hb : Bd 5 (1 + (i : Int)) := Bd.of (k := 5) (n := 30) (by omega) (by omega) (by decide)
    refine x_appW (e := PyData.int) (ex_v rfl) ⟨_, _, .z⟩ (wv_of (x := (fc (i + 1) : Int)) (ex_int (ex_mul (ex_ixL (ds := (fcs i).map PyData.int) (i := -1) (d := .int (fc i : Int)) (ex_v rfl) (ex_neg ex_cI) (.o (k := 0) rfl) (by rw [hl]; exact at_end)) (ex_v rfl) (cmul (fc_bd (by omega)) hb (by decide))) ?_) ⟨_, _, .z, by rw [List.length_map]; unfold fcs; rw [List.length_map, List.length_range]; omega, nxt (x_end ⟨rfl, ?_⟩)⟩)
    · show (fc i : Int) * (1 + (i : Int)) = ((fc i * (i + 1) : Nat) : Int)
      rw [Int.natCast_mul]
      congr 1
      omega
    · rw [fcs_succ, List.map_append]; rfl
  · rintro ε' L' ⟨rfl, rfl⟩
    exact nxt (x_retD q (wv_of (x := fcs 15) (ex_frzV (k := 0) rfl rfl hp) rfl))
/-- sizes -/
def zs (sz : Mon) : List Int := sz.map fun n : Nat => (n : Int)
def eS (sz : Mon) : PyData := .list ((zs sz).map PyData.int)
abbrev S_law_types (K : PySem.W.Frag) : Sp := spD K (fun _ : Unit => [.int 8]) (fun _ => True) (eL (eL eS)) (fun _ x => x = typesN 8)
def tkD (s : Int) : PyData → Bool
  | .list [] => true
  | .list (.int i :: _) => decide (i ≤ s)
  | _ => false
def putD (s : Int) : PyData → PyData
  | .list ds => .list (.int s :: ds)
  | d => d
theorem tk_eq (s : Nat) (sz : Mon) : tkD ((s + 1 : Nat) : Int) (eS sz) = (sz.isEmpty || decide (sz.headD 0 ≤ s + 1)) := by
  cases sz with
  | nil => rfl
  | cons a l =>
    show decide ((a : Int) ≤ ((s + 1 : Nat) : Int)) = (false || decide (a ≤ s + 1))
    rw [Bool.false_or]
    exact decide_eq_decide.mpr Int.ofNat_le
theorem filt_map (s : Nat) (l : List Mon) : ((l.map eS).filter (tkD ((s + 1 : Nat) : Int))).map (putD ((s + 1 : Nat) : Int)) = ((l.filter fun rest => rest.isEmpty || decide (rest.headD 0 ≤ s + 1)).map fun rest => (s + 1) :: rest).map eS := by
  rw [List.filter_map, List.map_map, List.map_map]
  have e : (tkD ((s + 1 : Nat) : Int) ∘ eS) = fun rest : Mon => rest.isEmpty || decide (rest.headD 0 ≤ s + 1) := funext fun sz => tk_eq s sz
  rw [e]
  rfl
theorem types_mem {n s : Nat} {sz : Mon} (hn : n ≤ 8) (h : sz ∈ (typesN n).getD s []) : sz.length ≤ 8 := flat_get hn h
theorem okd_law_types (Fn : Fun K "_law_types" "_law_types" s_law_types f fd) (T : Bt P mg base)  : FnOk P w K mg base CX0 41 f fd ["most"] (S_law_types K) := by
  refine fn_D Fn sc_law_types (by decide) (fun _ => rfl) fun cdv A outer s H E hr => ⟨_, (pss_cons (ps_set (i := 1) sc_law_types.nd rfl (.inl rfl) (pe_lst (pa_cons (pe_lst (pa_cons (pe_lst pa_nil) pa_nil)) pa_nil)))
      (pss_cons (ps_for PassesOwn.never rfl (pi_range2 (by rfl) T.n_range (pa_cons pe_int (pa_cons (pe_op op_add (pv 0) pe_int) pa_nil))) (pg_name (i := 2) sc_law_types.nd rfl (Or.inl rfl)) (pss_cons (ps_set (i := 3) sc_law_types.nd rfl (.inl rfl) (pe_lst pa_nil))
      (pss_cons (ps_for PassesOwn.never rfl (pi_range2 (by rfl) T.n_range (pa_cons pe_int (pa_cons (pe_op op_add (pv 2) pe_int) pa_nil))) (pg_name (i := 4) sc_law_types.nd rfl (Or.inr rfl)) (pss_one (ps_expr (pe_bm PySem.F.plainAttrs_list PySem.F.slot_list_extend PySem.F.type_list_extend mt_extend (pv 3) (pa_cons (pe_lc (own := [("rest", 5)]) rfl sc_law_types.nd (pi_list (pe_ix (r := rIxL K) ix_list (pv 1) (pe_op op_sub (pv 2) (pv 4)) (fun _ _ => rfl))) (blkOk_by (own := [("rest", 5)]) (N := ["most", "found", "j", "rows", "size", "rest"]) (sc := defScope s_law_types) (by decide +kernel)) (fun _ _ _ _ _ => (pg_name (i := 5) sc_law_types.nd rfl (Or.inl rfl))) (fun _ _ _ _ _ => (pts_one (PW.pt (pw_or (pt_cmpR (r := rEqD K) (op_eqD hr.units) (pv 5) (pe_lst pa_nil) (nomark _)) (pw_or1 (pt_cmpR op_le (pe_ix (r := rIxL K) ix_list (pv 5) pe_int (fun _ _ => rfl)) (pv 4) (nomark _))))))) (fun _ _ _ _ _ => (pe_op op_cat (pe_lst (pa_cons (pv 4) pa_nil)) (pv 5)))) pa_nil)))))
      (pss_one (ps_expr (pe_bm PySem.F.plainAttrs_list PySem.F.slot_list_append PySem.F.type_list_append mt_append (pv 1) (pa_cons (pv 3) pa_nil)))))))
      (pss_one (ps_ret (pv 1))))), ?_⟩
  rintro B Q y rfl _ q
  show Ho B _ [iv 8, none, none, none, none, none] []
  refine x_seq (x_setN (en_lst (ds := [eL eS [[]]]) (ea_cons (ex_frz (en_lst (ds := [eS []]) (ea_cons (ex_frz (en_lst (ds := []) ea_nil (Nat.zero_le _))) ea_nil) (Nat.le_of_ble_eq_true rfl))) ea_nil) (Nat.le_of_ble_eq_true rfl)) fun p hp => ?_)
  refine x_sq (x_forR2 (lo := 1) (n := 9) (ea_cons ex_cI (ea_cons (ex_int (ex_add (ex_v rfl) ex_cI) rfl) ea_nil)) (by decide) (fun i ε L => ε = [iv 8, lref p, none, none, none, none] ∧ L = [.lst p ((typesN i).map (eL eS))]) ⟨rfl, rfl⟩ ?_ ?_)
  · rintro j ε' L' hj ⟨rfl, rfl⟩
    have hj : j < 8 := by omega
    refine x_seq (x_setN (en_lst (ds := []) ea_nil (Nat.zero_le _)) fun r hr => ?_)
    refine x_sq (x_forR2 (lo := 1) (n := ((j : Int) + 2)) (ea_cons ex_cI (ea_cons (ex_int (ex_add (ex_v rfl) ex_cI) (by omega)) ea_nil)) (by omega) (fun s ε L => ε = [iv 8, lref p, iv (1 + (j : Int)), lref r, none, none] ∧ L = [.lst r ((rowsUp (typesN j) (j + 1) s).map eS), .lst p ((typesN j).map (eL eS))]) ⟨rfl, rfl⟩ ?_ ?_)
    · rintro s ε' L' hs ⟨rfl, rfl⟩
      have hs : s ≤ j := by omega
      have e1 : (1 : Int) + (s : Int) = ((s + 1 : Nat) : Int) := by omega
      have hat : (typesN j)[j - s]? = some ((typesN j).getD (j - s) []) := by
        have hl := typesN_len j
        rw [List.getD_eq_getElem?_getD, List.getElem?_eq_getElem (show j - s < (typesN j).length by omega)]; rfl
      have hsm := types_small j (by omega) (j - s)
      rw [e1]
      refine x_extW (ex_v rfl) ⟨_, _, .z⟩ (wv_of (e := eD) (x := .list ((((typesN j).getD (j - s) []).map eS |>.filter (tkD ((s + 1 : Nat) : Int))).map (putD ((s + 1 : Nat) : Int)))) (ex_frz (en_lcLP (xs := ((typesN j).getD (j - s) []).map eS) (tkD ((s + 1 : Nat) : Int)) (putD ((s + 1 : Nat) : Int)) (fun d => [iv 8, lref p, iv (1 + (j : Int)), lref r, iv ((s + 1 : Nat) : Int), some (.d d)]) (ex_atl (e := eL eS) (xs := typesN j) (n := j - s) (ex_v rfl) (ex_sub (ex_v rfl) (ex_v rfl)) (.o (k := 1) rfl) (by omega) hat) (by rw [List.length_map]; omega) (gw_name (by simp)) (fun d hd => gt_name) (fun d hd m => ?_) (fun d hd _ m => ?_))) ⟨_, _, _, rfl, .z, ?_, nxt (x_end ⟨rfl, ?_⟩)⟩)
      · obtain ⟨sz, hz, rfl⟩ := List.mem_map.mp hd
        refine et_is (et_or (b := sz.isEmpty) (c := decide (sz.headD 0 ≤ s + 1)) (et_is (et_test (ex_eqNil (ds := (zs sz).map PyData.int) (ex_v rfl) .d (shaped_ints _))) (by cases sz <;> rfl)) (fun h => ?_) (fun _ => rfl)) (tk_eq s sz).symm
        match sz, h with
        | a :: l, _ => exact et_is (et_test (ex_le (ex_atl (e := PyData.int) (xs := zs (a :: l)) (n := 0) (a := (a : Int)) (ex_v rfl) ex_cI .d rfl rfl) (ex_v rfl))) (decide_eq_decide.mpr Int.ofNat_le)
      · obtain ⟨sz, hz, rfl⟩ := List.mem_map.mp hd
        have hz8 := flat_get (by omega) hz
        exact ex_is (ex_frz (en_cat (ds := [.int ((s + 1 : Nat) : Int)]) (es := (zs sz).map PyData.int) (ex_frz (en_lst (ds := [.int ((s + 1 : Nat) : Int)]) (ea_cons (ex_v rfl) ea_nil) (Nat.le_of_ble_eq_true rfl))) (ex_v rfl) .d .d (by rw [List.length_map]; unfold zs; rw [List.length_map]; show 1 + _ ≤ _; omega))) rfl
      · rw [List.length_map, List.length_map]
        have h1 := rows_small j (by omega) s (by omega)
        have h2 := List.length_filter_le (tkD ((s + 1 : Nat) : Int)) (((typesN j).getD (j - s) []).map eS)
        rw [List.length_map] at h2
        omega
      · rw [filt_map, rowsUp_succ, List.map_append]
        rw [show j + 1 - (s + 1) = j - s by omega]
    · rintro ε' L' ⟨rfl, rfl⟩
      have e : ((j : Int) + 2 - 1).toNat = j + 1 := by omega
      rw [e]
      refine nxt (x_appW (e := eL eS) (ex_v rfl) ⟨_, _, .s .z⟩ (wv_of (x := rowsUp (typesN j) (j + 1) (j + 1)) (ex_frzV (k := 0) rfl rfl hr) ⟨_, _, .z, by rw [List.length_map, typesN_len]; omega, nxt (x_end ⟨rfl, ?_⟩)⟩))
      show [MO.lst p (_ ++ [_])] = [MO.lst p ((typesN j ++ [rowsT (typesN j) (j + 1)]).map (eL eS))]
      rw [List.map_append]; rfl
  · rintro ε' L' ⟨rfl, rfl⟩
    exact nxt (x_retD q (wv_of (x := typesN 8) (ex_frzV (k := 0) rfl rfl hp) rfl))
end K82

/-! ## B11 -/
set_option Elab.async false
set_option linter.all false
set_option maxRecDepth 100000
set_option maxHeartbeats 4000000
set_option autoImplicit false
namespace K82
open PySem L2 Fz K80 Means
variable {P : Program} {w : World} {K : PySem.W.Frag} {mg : Str → Option Value} {base : Heap} {f : Addr} {fd : FuncData}
def pairE (y : Mon × Int) : PyData := .tuple [.int y.2, eS y.1]
abbrev bv (b : Bool) : Option AD := dv (.bool b)
abbrev fv : Option AD := dv (eL PyData.int (fcs 15))
abbrev S_law_numbers (K : PySem.W.Frag) : Sp := spD K (fun y : Means.Kind × Bool => [eK y.1, .bool y.2]) (fun _ => True) (eL (eL pairE)) (fun y x => x = (List.range 9).map (numsAt y.1 y.2))
section
variable {B : Bg} {ε : Eps} {L La Lb : Own} {te ta tb : TE} {E : XK}
theorem ex_fact {i : Int} {n : Nat} (h : EX B ta ε L (.d (eL PyData.int (fcs 15))) La) (h2 : EX B tb ε La (.d (.int i)) Lb) (hi : i = (n : Int)) (hn : n ≤ 15) : EX B (tOp (rIxL B.K) ta tb) ε L (.d (.int (fc n : Int))) Lb := ex_atl (e := PyData.int) (xs := fcs 15) (n := n) h h2 .d hi (fcs_at hn)
theorem ex_facts : EX B (tCall (S_law_factorials B.K) [] E tNil) ε L (.d (eL PyData.int (fcs 15))) L := ex_of (e := eL PyData.int) fun κ k => w_callD (wa_nil ⟨(), rfl, trivial, fun x hx => hx ▸ k⟩)
theorem ex_types : EX B (tCall (S_law_types B.K) [] E (tCons (tC (.int 8)) tNil)) ε L (.d (eL (eL eS) (typesN 8))) L := ex_of (e := eL (eL eS)) fun κ k => w_callD (wa_x ex_cI (wa_nil ⟨(), rfl, trivial, fun x hx => hx ▸ k⟩))
end
theorem sign_is {m : Nat} (hm : m ≤ 8) : ([2, 4, 6, 8] : List Int).any (fun n => decide (n = (m : Int))) = (m == 2 || m == 4 || m == 6 || m == 8) := by
  have key : ∀ m : Fin 9, ([2, 4, 6, 8] : List Int).any (fun n => decide (n = (m.val : Int))) = (m.val == 2 || m.val == 4 || m.val == 6 || m.val == 8) := by decide
  exact key ⟨m, by omega⟩
theorem zs_count (sz : Mon) (k : Nat) : (zs sz).count (k : Int) = sz.count k := by
  induction sz with
  | nil => rfl
  | cons a l ih =>
    show ((a : Int) :: zs l).count (k : Int) = _
    rw [List.count_cons, List.count_cons, ih]
    congr 1
    by_cases h : a = k
    · subst h; simp
    · have h2 : ¬ (a : Int) = (k : Int) := by omega
      rw [if_neg (by simpa using h2), if_neg (by simpa using h)]
theorem zs_at {sz : Mon} {a : Nat} {z : Int} (h : (zs sz)[a]? = some z) : ∃ n : Nat, sz[a]? = some n ∧ z = (n : Int) := by
  unfold zs at h
  rw [List.getElem?_map] at h
  cases hp : sz[a]? with
  | none => rw [hp] at h; cases h
  | some n => rw [hp] at h; cases h; exact ⟨n, rfl, rfl⟩
theorem sign_bd (b : Bool) (m : Nat) : Bd 1 (signN b m) := by
  unfold signN Bd
  split <;> decide
theorem nat_bd {n k : Nat} (h : n < 2 ^ k) : Bd k (n : Int) := by unfold Bd; rw [Int.natAbs_natCast]; exact h
theorem okd_law_numbers (Fn : Fun K "_law_numbers" "_law_numbers" s_law_numbers f fd) (T : Bt P mg base) (D_law_factorials : Df P w K mg base 41 "_law_factorials" [] (S_law_factorials K)) (D_law_types : Df P w K mg base 41 "_law_types" ["most"] (S_law_types K)) : FnOk P w K mg base CX0 42 f fd ["kind", "is_back"] (S_law_numbers K) := by
  refine fn_D Fn sc_law_numbers (by decide) (fun _ => rfl) fun cdv A outer s H E hr => ⟨_, (pss_cons (ps_par (i := 2) (j := 3) (by rfl) sc_law_numbers.nd rfl rfl (by decide) rfl rfl (pa_cons (pe_callD0 D_law_factorials (hr.mono (by decide)) (by rfl)) (pa_cons (pe_lst pa_nil) pa_nil)) (by rfl))
      (pss_cons (ps_for PassesOwn.never rfl (pi_enum (by rfl) T.n_enumerate (pa_cons (pe_callD D_law_types (hr.mono (by decide)) (by rfl) (pa_cons pe_int pa_nil)) pa_nil)) (pg_tup rfl (pgs_cons (pg_name (i := 4) sc_law_numbers.nd rfl (Or.inl rfl)) (pgs_cons (pg_name (i := 5) sc_law_numbers.nd rfl (Or.inl rfl)) pgs_nil))) (pss_cons (ps_set (i := 6) sc_law_numbers.nd rfl (.inl rfl) (pe_lst pa_nil))
      (pss_cons (ps_for PassesOwn.never rfl (pi_list (pv 5)) (pg_name (i := 7) sc_law_numbers.nd rfl (Or.inl rfl)) (pss_cons (ps_par (i := 8) (j := 9) (by rfl) sc_law_numbers.nd rfl rfl (by decide) rfl rfl (pa_cons (pe_callB (r := Evl.rLenS K) call_len_seq (by rfl) T.n_len (by decide +kernel) (pa_cons (pv 7) pa_nil)) (pa_cons pe_int pa_nil)) (by rfl))
      (pss_cons (ps_for PassesOwn.never rfl (pi_range2 (by rfl) T.n_range (pa_cons pe_int (pa_cons (pe_op op_add (pv 4) pe_int) pa_nil))) (pg_name (i := 10) sc_law_numbers.nd rfl (Or.inl rfl)) (pss_one (ps_set (i := 9) sc_law_numbers.nd rfl (.inl rfl) (pe_op op_mulW (pv 9) (pe_ix (r := rIxL K) ix_list (pv 2) (pe_bm PySem.F.plainAttrs_list PySem.F.slot_list_count PySem.F.type_list_count mt_lcount (pv 7) (pa_cons (pv 10) pa_nil)) (fun _ _ => rfl))))))
      (pss_cons (ps_set (i := 11) sc_law_numbers.nd rfl (.inl rfl) (pe_ifExp (PW.pt (pw_and (pt_val (pv 1)) (pw_and1 (pt_cmpR (r := rIn K false) op_in_seq (pv 8) (pe_lst (pa_cons pe_int (pa_cons pe_int (pa_cons pe_int (pa_cons pe_int pa_nil))))) (by with_unfolding_all rfl))))) (pe_un un_neg pe_int) pe_int))
      (pss_one (ps_if (pt_cmpR op_eq (pv 0) pe_str (nomark _)) (pss_one (ps_expr (pe_bm PySem.F.plainAttrs_list PySem.F.slot_list_append PySem.F.type_list_append mt_append (pv 6) (pa_cons (pe_tup (pa_cons (pe_op op_fdivW (pe_op op_mulW (pv 11) (pe_ix (r := rIxL K) ix_list (pv 2) (pv 8) (fun _ _ => rfl))) (pv 9)) (pa_cons (pv 7) pa_nil))) pa_nil)))) (pss_one (ps_if (PW.pt (pw_and (pt_cmpR op_eq (pv 0) pe_str (nomark _)) (pw_and (pt_val (pv 1)) (pw_and1 (pt_cmpR op_gt (pv 4) pe_int (nomark _)))))) (pss_one (ps_expr (pe_bm PySem.F.plainAttrs_list PySem.F.slot_list_append PySem.F.type_list_append mt_append (pv 6) (pa_cons (pe_tup (pa_cons (pe_op op_fdivW (pe_op op_mulW (pv 11) (pe_ix (r := rIxL K) ix_list (pv 2) (pe_op op_sub (pe_op op_add (pv 4) (pv 8)) pe_int) (fun _ _ => rfl))) (pe_op op_mulW (pe_ix (r := rIxL K) ix_list (pv 2) (pe_op op_sub (pv 4) pe_int) (fun _ _ => rfl)) (pv 9))) (pa_cons (pv 7) pa_nil))) pa_nil)))) (pss_one (ps_if (pt_cmpR op_eq (pv 0) pe_str (nomark _)) (pss_one (ps_expr (pe_bm PySem.F.plainAttrs_list PySem.F.slot_list_append PySem.F.type_list_append mt_append (pv 6) (pa_cons (pe_tup (pa_cons (pe_op op_fdivW (pe_ix (r := rIxL K) ix_list (pv 2) (pv 4) (fun _ _ => rfl)) (pe_op op_mulW (pe_ix (r := rIxL K) ix_list (pv 2) (pe_op op_add (pe_op op_sub (pv 4) (pv 8)) pe_int) (fun _ _ => rfl)) (pv 9))) (pa_cons (pv 7) pa_nil))) pa_nil)))) (pss_cons (ps_for PassesOwn.never rfl (pi_list (pv 7)) (pg_name (i := 10) sc_law_numbers.nd rfl (Or.inl rfl)) (pss_one (ps_set (i := 9) sc_law_numbers.nd rfl (.inl rfl) (pe_op op_mulW (pv 9) (pe_ix (r := rIxL K) ix_list (pv 2) (pv 10) (fun _ _ => rfl))))))
      (pss_one (ps_expr (pe_bm PySem.F.plainAttrs_list PySem.F.slot_list_append PySem.F.type_list_append mt_append (pv 6) (pa_cons (pe_tup (pa_cons (pe_op op_mulW (pe_op op_fdivW (pe_op op_mulW (pv 11) (pe_ix (r := rIxL K) ix_list (pv 2) (pv 4) (fun _ _ => rfl))) (pv 9)) (pe_ifExp (PW.pt (pw_and (pt_val (pv 1)) (pw_and1 (pt_cmpR op_gt (pv 4) pe_int (nomark _))))) (pe_ix (r := rIxL K) ix_list (pv 2) (pe_op op_sub (pv 8) pe_int) (fun _ _ => rfl)) pe_int)) (pa_cons (pv 7) pa_nil))) pa_nil)))))))))))))))
      (pss_one (ps_expr (pe_bm PySem.F.plainAttrs_list PySem.F.slot_list_append PySem.F.type_list_append mt_append (pv 3) (pa_cons (pv 6) pa_nil)))))))
      (pss_one (ps_ret (pv 3))))), ?_⟩
  rintro B Q ⟨k, b⟩ rfl _ q
  dsimp only at q
  show Ho B _ [kv k, bv b, none, none, none, none, none, none, none, none, none, none] []
  refine x_seq (x_parN (a := .d (eL PyData.int (fcs 15))) ex_facts (en_lst (ds := []) ea_nil (Nat.zero_le _)) fun p hp => ?_)
  refine x_sq (x_forE (ds := (typesN 8).map (eL eS)) (ea_cons ex_types ea_nil) (fun v j ε L => ε = [kv k, bv b, fv, lref p, none, none, none, none, none, none, none, none] ∧ L = [.lst p (((List.range j).map (numsAt k b)).map (eL pairE)), .know v (.list ((typesN 8).map (eL eS)))]) (fun v => ⟨rfl, rfl⟩) (fun v i ε' L' ⟨_, h⟩ => by rw [h]; simp) ?_ ?_)
  · rintro v j d ε' L' hd ⟨rfl, rfl⟩
    obtain ⟨rows, hrows, rfl⟩ := map_at hd
    have hj : j < 9 := by have := (List.getElem?_eq_some_iff.mp hrows).1; rw [typesN_len] at this; omega
    have hrw : (typesN 8).getD j [] = rows := by rw [List.getD_eq_getElem?_getD, hrows]; rfl
    have hnum : numsAt k b j = rows.map fun sz => (sz, pairC k b j sz) := by unfold numsAt; rw [hrw]
    have hlen : rows.length ≤ 100 := by rw [← hrw]; exact types_small 8 (by decide) j
    refine ⟨_, gt_tup2 (d := .int (j : Int)) (e := eL eS rows), x_seq (x_setN (en_lst (ds := []) ea_nil (Nat.zero_le _)) fun r hr => ?_)⟩
    refine x_sq (x_forL (ds := rows.map eS) (ex_v rfl) (fun u i ε L => ε = [kv k, bv b, fv, lref p, iv (j : Int), dv (eL eS rows), lref r, none, none, none, none, none] ∧ L = [.lst r (((numsAt k b j).take i).map pairE), .lst p (((List.range j).map (numsAt k b)).map (eL pairE)), .know v (.list ((typesN 8).map (eL eS))), .know u (.list (rows.map eS))]) (fun u => ⟨rfl, rfl⟩) (fun u i ε' L' ⟨_, h⟩ => by rw [h]; simp) ?_ ?_)
    · rintro u i d ε' L' hd ⟨rfl, rfl⟩
      obtain ⟨sz, hsz, rfl⟩ := map_at hd
      have hmem : sz ∈ (typesN 8).getD j [] := by rw [hrw]; exact List.mem_of_getElem? hsz
      have G := good_of (by omega) hmem
      have gl := G.len
      have hstep : (numsAt k b j).take (i + 1) = (numsAt k b j).take i ++ [(sz, pairC k b j sz)] := by
        rw [List.take_add_one, hnum, List.getElem?_map, hsz]; rfl
      have hil : ((numsAt k b j).take i).length ≤ 100 := by rw [hnum, List.length_take, List.length_map]; omega
      refine ⟨_, gt_name, x_seq (x_par (a := .d (.int (sz.length : Int))) (ea_cons (ex_int (ex_lenL (ds := (zs sz).map PyData.int) (ex_v rfl) .d rfl) (by rw [List.length_map]; unfold zs; rw [List.length_map])) (ea_cons ex_cI ea_nil)) ?_)⟩
      refine x_sq (x_forR2 (lo := 1) (n := (j : Int) + 1) (ea_cons ex_cI (ea_cons (ex_add (ex_v rfl) ex_cI) ea_nil)) (by omega) (fun s ε L => ε = [kv k, bv b, fv, lref p, iv (j : Int), dv (eL eS rows), lref r, dv (eS sz), iv (sz.length : Int), iv (sameN sz s : Int), none, none] ∧ L = [.lst r (((numsAt k b j).take i).map pairE), .lst p (((List.range j).map (numsAt k b)).map (eL pairE)), .know v (.list ((typesN 8).map (eL eS))), .know u (.list (rows.map eS))]) ⟨rfl, rfl⟩ ?_ ?_)
      · rintro s ε' L' hs ⟨rfl, rfl⟩
        have hs : s < j := by omega
        have hc : sz.count (s + 1) ≤ 15 := Nat.le_trans List.count_le_length (by omega)
        refine x_set (a := .d (.int (sameN sz (s + 1) : Int))) (ex_int (ex_mul (ex_v rfl) (ex_fact (n := sz.count (s + 1)) (ex_v rfl) (ex_count (ns := zs sz) (ex_v rfl) .d (ex_v rfl) .d) ?_ hc) (cmul (nat_bd (G.same s (by omega)).2) (fc_bd hc) (by decide))) ?_) (nxt (x_end ⟨rfl, rfl⟩))
        · rw [← zs_count]
          congr 2
          omega
        · show _ = ((sameN sz s * fc (sz.count (s + 1)) : Nat) : Int)
          rw [Int.natCast_mul]
      · rintro ε' L' ⟨rfl, rfl⟩
        rw [show ((j : Int) + 1 - 1).toNat = j by omega]
        have hsm := G.same j (Nat.le_refl _)
        refine nxt (x_seq (x_set (a := .d (.int (signN b sz.length))) (ex_if (L2 := _) (et_and (b := b) (et_test (ex_v rfl)) (fun _ => et_is (et_test (ex_inL (ns := [2, 4, 6, 8]) (ex_v rfl) (ex_frz (en_lst (ds := [.int 2, .int 4, .int 6, .int 8]) (ea_cons ex_cI (ea_cons ex_cI (ea_cons ex_cI (ea_cons ex_cI ea_nil)))) (Nat.le_of_ble_eq_true rfl))) .d)) (sign_is (by omega))) (fun _ => rfl)) (fun h => ex_int (ex_neg ex_cI) ?_) (fun h => ex_int ex_cI ?_)) ?_))
        · unfold signN; rw [if_pos h]
        · unfold signN; rw [if_neg (by rw [h]; decide)]
        have gt0 : decide ((0 : Int) < (j : Int)) = decide (0 < j) := decide_eq_decide.mpr Int.natCast_pos
        have g1 := G.one
        cases k with
        | rows =>
          refine x_seq (x_if (b := true) (et_is (et_test (ex_kind (ex_v rfl))) (by decide)) (fun _ => ?_) fun h => nomatch h)
          refine (x_appW (e := pairE) (ex_v rfl) ⟨_, _, .z⟩ (wv_of (x := (sz, pairC .rows b j sz)) (ex_is (ex_tup (ds := [.int (pairC .rows b j sz), eS sz]) (ea_cons (ex_fdiv (ex_mul (ex_v rfl) (ex_fact (n := sz.length) (ex_v rfl) (ex_v rfl) rfl (by omega)) (cmul (sign_bd b _) (fc_bd (n := sz.length) (by omega)) (by decide))) (ex_v rfl) (cdiv (by omega) (nat_bd hsm.2) (by decide))) (ea_cons (ex_v rfl) ea_nil)) (Nat.le_of_ble_eq_true rfl)) rfl) ⟨_, _, .z, by rw [List.length_map]; omega, nxt (x_end ⟨rfl, ?_⟩)⟩))
          rw [hstep, List.map_append]; rfl
        | unc =>
          refine x_seq (x_if (b := false) (et_is (et_test (ex_kind (ex_v rfl))) (by decide)) (fun h => nomatch h) fun _ => ?_)
          refine x_if (b := b && decide (0 < j)) (L1 := _) (et_is (et_and (b := true) (et_is (et_test (ex_kind (ex_v rfl))) (by decide)) (fun _ => et_and (b := b) (et_test (ex_v rfl)) (fun _ => et_is (et_test (ex_gt (ex_v rfl) ex_cI)) gt0) (fun _ => rfl)) (fun _ => rfl)) (Bool.true_and _)) (fun hb => ?_) fun hb => ?_
          · have hb2 := hb
            rw [Bool.and_eq_true] at hb2
            have hj0 : 0 < j := of_decide_eq_true hb2.2
            have hl1 := g1 hj0
            refine (x_appW (e := pairE) (ex_v rfl) ⟨_, _, .z⟩ (wv_of (x := (sz, signN b sz.length * (fc (j + sz.length - 2) : Int) / ((fc (j - 1) : Int) * (sameN sz j : Int)))) (ex_is (ex_tup (ds := [.int (signN b sz.length * (fc (j + sz.length - 2) : Int) / ((fc (j - 1) : Int) * (sameN sz j : Int))), eS sz]) (ea_cons (ex_fdiv (ex_mul (ex_v rfl) (ex_fact (n := j + sz.length - 2) (ex_v rfl) (ex_sub (ex_add (ex_v rfl) (ex_v rfl)) ex_cI) (by omega) (by omega)) (cmul (sign_bd b _) (fc_bd (n := j + sz.length - 2) (by omega)) (by decide))) (ex_mul (ex_fact (n := j - 1) (ex_v rfl) (ex_sub (ex_v rfl) ex_cI) (by omega) (by omega)) (ex_v rfl) (cmul (fc_bd (by omega)) (nat_bd hsm.2) (by decide))) (cdiv (Int.mul_pos (by have := fc_pos (j - 1); omega) (by omega)) ((fc_bd (n := j - 1) (by omega)).mul (nat_bd hsm.2)) (by decide))) (ea_cons (ex_v rfl) ea_nil)) (Nat.le_of_ble_eq_true rfl)) rfl) ⟨_, _, .z, by rw [List.length_map]; omega, nxt (x_end ⟨rfl, ?_⟩)⟩))
            rw [hstep, List.map_append]
            have : pairC .unc b j sz = signN b sz.length * (fc (j + sz.length - 2) : Int) / ((fc (j - 1) : Int) * (sameN sz j : Int)) := if_pos hb
            rw [this]; rfl
          · refine x_if (b := true) (et_is (et_test (ex_kind (ex_v rfl))) (by decide)) (fun _ => ?_) fun h => nomatch h
            refine (x_appW (e := pairE) (ex_v rfl) ⟨_, _, .z⟩ (wv_of (x := (sz, (fc j : Int) / ((fc (j - sz.length + 1) : Int) * (sameN sz j : Int)))) (ex_is (ex_tup (ds := [.int ((fc j : Int) / ((fc (j - sz.length + 1) : Int) * (sameN sz j : Int))), eS sz]) (ea_cons (ex_fdiv (ex_fact (n := j) (ex_v rfl) (ex_v rfl) rfl (by omega)) (ex_mul (ex_fact (n := j - sz.length + 1) (ex_v rfl) (ex_add (ex_sub (ex_v rfl) (ex_v rfl)) ex_cI) (by omega) (by omega)) (ex_v rfl) (cmul (fc_bd (by omega)) (nat_bd hsm.2) (by decide))) (cdiv (Int.mul_pos (by have := fc_pos (j - sz.length + 1); omega) (by omega)) ((fc_bd (n := j - sz.length + 1) (by omega)).mul (nat_bd hsm.2)) (by decide))) (ea_cons (ex_v rfl) ea_nil)) (Nat.le_of_ble_eq_true rfl)) rfl) ⟨_, _, .z, by rw [List.length_map]; omega, nxt (x_end ⟨rfl, ?_⟩)⟩))
            rw [hstep, List.map_append]
            have : pairC .unc b j sz = (fc j : Int) / ((fc (j - sz.length + 1) : Int) * (sameN sz j : Int)) := if_neg (by rw [hb]; decide)
            rw [this]; rfl
        | all =>
          refine x_seq (x_if (b := false) (et_is (et_test (ex_kind (ex_v rfl))) (by decide)) (fun h => nomatch h) fun _ => ?_)
          refine x_if (b := false) (L1 := _) (et_is (et_and (b := false) (c := false) (et_is (et_test (ex_kind (ex_v rfl))) (by decide)) (fun h => nomatch h) (fun _ => rfl)) rfl) (fun h => nomatch h) fun _ => ?_
          refine x_if (b := false) (et_is (et_test (ex_kind (ex_v rfl))) (by decide)) (fun h => nomatch h) fun _ => ?_
          refine x_seq (x_forL (ds := (zs sz).map PyData.int) (ex_v rfl) (fun t a ε L => ε = [kv .all, bv b, fv, lref p, iv (j : Int), dv (eL eS rows), lref r, dv (eS sz), iv (sz.length : Int), iv (sizesN (sz.take a) (sameN sz j) : Int), none, iv (signN b sz.length)] ∧ L = [.lst r (((numsAt .all b j).take i).map pairE), .lst p (((List.range j).map (numsAt .all b)).map (eL pairE)), .know v (.list ((typesN 8).map (eL eS))), .know u (.list (rows.map eS)), .know t (.list ((zs sz).map PyData.int))]) (fun t => ⟨rfl, rfl⟩) (fun t a ε' L' ⟨_, h⟩ => by rw [h]; simp) ?_ ?_)
          · rintro t a d ε' L' hd ⟨rfl, rfl⟩
            obtain ⟨z, hz, rfl⟩ := map_at hd
            obtain ⟨n, hn, rfl⟩ := zs_at hz
            have ha := (List.getElem?_eq_some_iff.mp hn).1
            have hn8 := G.top n (List.mem_of_getElem? hn)
            refine ⟨_, gt_name, x_set (a := .d (.int (sizesN (sz.take (a + 1)) (sameN sz j) : Int))) (ex_int (ex_mul (ex_v rfl) (ex_fact (n := n) (ex_v rfl) (ex_v rfl) rfl (by omega)) (cmul (nat_bd (G.size a (by omega)).2) (fc_bd (n := n) (by omega)) (by decide))) ?_) (nxt (x_end ⟨rfl, rfl⟩))⟩
            rw [List.take_add_one, hn]
            show _ = ((sizesN (sz.take a ++ [n]) _ : Nat) : Int)
            rw [sizes_app, Int.natCast_mul]
          · rintro t ε' L' ⟨rfl, rfl⟩
            have ezl : ((zs sz).map PyData.int).length = sz.length := by rw [List.length_map]; unfold zs; rw [List.length_map]
            rw [ezl, List.take_length]
            have hz := G.size sz.length (Nat.le_refl _)
            rw [List.take_length] at hz
            refine nxt (ho_drop (k := 4) (m := .know t (.list ((zs sz).map PyData.int))) ?_ rfl (fun x hx => nomatch hx))
            show Ho B _ _ [.lst r (((numsAt .all b j).take i).map pairE), .lst p (((List.range j).map (numsAt .all b)).map (eL pairE)), .know v (.list ((typesN 8).map (eL eS))), .know u (.list (rows.map eS))]
            refine (x_appW (e := pairE) (ex_v rfl) ⟨_, _, .z⟩ (wv_of (x := (sz, pairC .all b j sz)) (ex_is (ex_tup (ds := [.int (pairC .all b j sz), eS sz]) (ea_cons (ex_int (ex_mul (ex_fdiv (ex_mul (ex_v rfl) (ex_fact (n := j) (ex_v rfl) (ex_v rfl) rfl (by omega)) (cmul (sign_bd b _) (fc_bd (n := j) (by omega)) (by decide))) (ex_v rfl) (cdiv (by omega) (nat_bd hz.2) (by decide))) (ex_if (L2 := _) (a := .d (.int (if b && decide (0 < j) then (fc (sz.length - 1) : Int) else 1))) (b := b && decide (0 < j)) (et_and (b := b) (et_test (ex_v rfl)) (fun _ => et_is (et_test (ex_gt (ex_v rfl) ex_cI)) gt0) (fun _ => rfl)) (fun hb => ex_int (ex_fact (n := sz.length - 1) (ex_v rfl) (ex_sub (ex_v rfl) ex_cI) ?_ (by omega)) (if_pos hb).symm) (fun hb => ex_int ex_cI (if_neg (by rw [hb]; decide)).symm)) (cmul (b := 41) (((sign_bd b _).mul (fc_bd (n := j) (by omega))).div) ?_ (by decide))) rfl) (ea_cons (ex_v rfl) ea_nil)) (Nat.le_of_ble_eq_true rfl)) rfl) ⟨_, _, .z, by rw [List.length_map]; omega, nxt (x_end ⟨rfl, ?_⟩)⟩))
            · rw [Bool.and_eq_true] at hb
              have := g1 (of_decide_eq_true hb.2)
              omega
            · exact (if h : (b && decide (0 < j)) = true then by rw [if_pos h]; exact fc_bd (by omega) else by rw [if_neg h]; exact bd_one 40)
            · rw [hstep, List.map_append]; rfl
    · rintro u ε' L' ⟨rfl, rfl⟩
      have e : (rows.map eS).length = (numsAt k b j).length := by rw [List.length_map, hnum, List.length_map]
      rw [e, List.take_length]
      refine nxt (ho_drop (k := 3) (m := .know u (.list (rows.map eS))) ?_ rfl (fun x hx => nomatch hx))
      show Ho B _ _ [.lst r ((numsAt k b j).map pairE), .lst p (((List.range j).map (numsAt k b)).map (eL pairE)), .know v (.list ((typesN 8).map (eL eS)))]
      refine x_appW (e := eL pairE) (ex_v rfl) ⟨_, _, .s .z⟩ (wv_of (x := numsAt k b j) (ex_frzV (k := 0) rfl rfl hr) ⟨_, _, .z, by rw [List.length_map, List.length_map, List.length_range]; omega, nxt (x_end ⟨rfl, ?_⟩)⟩)
      rw [List.range_succ, List.map_append, List.map_append]; rfl
  · rintro v ε' L' ⟨rfl, rfl⟩
    have e : ((typesN 8).map (eL eS)).length = 9 := by rw [List.length_map, typesN_len]
    rw [e]
    exact nxt (x_retD q (wv_of (x := (List.range 9).map (numsAt k b)) (ex_frzV (k := 0) rfl rfl hp) rfl))
end K82

/-! ## B12 -/
set_option Elab.async false
set_option linter.all false
set_option maxRecDepth 100000
set_option maxHeartbeats 4000000
set_option autoImplicit false
namespace K82
open PySem L2 Fz K80 Means
variable {P : Program} {w : World} {K : PySem.W.Frag} {mg : Str → Option Value} {base : Heap} {f : Addr} {fd : FuncData}
/-! ### what is due -/
def xo (own : List Rat) (s : Nat) : Rat := gt oQ own (s - 1)
def nn (own : List Rat) (s : Nat) : Int := (xo own s).num
def dn (own : List Rat) (s : Nat) : Int := ((xo own s).den : Int)
def turned (k : Means.Kind) (b : Bool) (own : List Rat) : List Rat := (List.range own.length).map fun i => evP (xo own) (numsAt k b (i + 1))
theorem dn_pos (own : List Rat) (s : Nat) : 0 < dn own s := by
  unfold dn
  have := (xo own s).den_pos
  omega
theorem gt_lt {own : List Rat} (h : RowL own) (i : Nat) : Lt (2 ^ 101) (gt oQ own i) := by
  by_cases c : i < own.length
  · exact h.all _ (List.mem_of_getElem? (gt_at oQ c))
  · rw [gt_out (by omega)]
    exact ⟨Nat.zero_le _, Nat.one_le_two_pow⟩
theorem nn_le {own : List Rat} (h : RowL own) (s : Nat) : (nn own s).natAbs ≤ 2 ^ 101 := (gt_lt h _).1
theorem dn_le {own : List Rat} (h : RowL own) (s : Nat) : (dn own s).natAbs ≤ 2 ^ 101 := by
  unfold dn
  rw [Int.natAbs_natCast]
  exact (gt_lt h _).2
theorem pr_bd {d : Nat → Int} (h : ∀ s, (d s).natAbs ≤ 2 ^ 101) {m : Mon} {l : Nat} (hl : m.length ≤ l) : Bd (101 * l + 1) (prI d m) := by
  have h1 := pr_le h m
  have h2 : (2 ^ 101) ^ m.length ≤ (2 ^ 101) ^ l := Nat.pow_le_pow_right (Nat.two_pow_pos 101) hl
  rw [← Nat.pow_mul 2 101 l] at h2
  unfold Bd
  rw [Nat.pow_succ]
  have := Nat.two_pow_pos (101 * l)
  omega
theorem le_bd {z : Int} (h : z.natAbs ≤ 2 ^ 101) : Bd 102 z := by
  unfold Bd
  exact Nat.lt_of_le_of_lt h (Nat.pow_lt_pow_right (by decide) (by decide))
theorem q_mul (q : Rat) : q * ((q.den : Int) : Rat) = (q.num : Rat) := by
  have := Rat.num_divInt_den q
  rw [Rat.divInt_eq_div] at this
  have hz : ((q.den : Int) : Rat) ≠ 0 := fun e => by
    have : ((q.den : Int) : Rat) = ((0 : Int) : Rat) := e
    have := Rat.intCast_inj.mp this
    exact q.den_nz (by omega)
  grind
theorem due_ev {own : List Rat} {k : Means.Kind} {b : Bool} {j : Nat} (hj : j ≤ 8) : Rat.divInt (toI (nn own) (dn own) (prI (dn own) (comm j j)) (numsAt k b j)) (prI (dn own) (comm j j)) = evP (xo own) (numsAt k b j) := by
  have h := to_ev (n := nn own) (d := dn own) (x := xo own) (C := prI (dn own) (comm j j)) (fun a => q_mul (xo own a)) (dn_pos own) (numsAt k b j) fun y hy => pr_sub (numsAt_good hj hy).sub
  have hp := pr_pos (dn_pos own) (comm j j)
  rw [Rat.divInt_eq_div, h]
  have hz : ((prI (dn own) (comm j j) : Int) : Rat) ≠ 0 := fun e => by
    have : ((prI (dn own) (comm j j) : Int) : Rat) = ((0 : Int) : Rat) := e
    have := Rat.intCast_inj.mp this
    omega
  grind
abbrev S_law_turned (K : PySem.W.Frag) : Sp := spD K (fun y : Means.Kind × Bool × List Rat => [eL (eL pairE) ((List.range 9).map (numsAt y.1 y.2.1)), eT frQ y.2.2]) (fun y => RowL y.2.2) (eT frQ) (fun y x => x = turned y.1 y.2.1 y.2.2)
section
variable {B : Bg} {ε : Eps} {L La Lb Lc : Own} {ta tb tc : TE} {E : XK}
theorem ex_nmr {own : List Rat} {i : Int} {n : Nat} (h : EX B ta ε L (.d (eT frQ own)) La) (h2 : EX B tb ε La (.d (.int i)) Lb) (hi : i = (n : Int)) (hn : n < own.length) : EX B (tOp (rIxT B.K) (tOp (rIxT B.K) ta tb) (tC (.int 0))) ε L (.d (.int (nn own (n + 1)))) Lb := ex_ixT (ds := [.int (gt oQ own n).num, .int ((gt oQ own n).den : Int)]) (ex_at (e := frQ) (xs := own) (n := n) h h2 hi (gt_at oQ hn)) ex_cI rfl
theorem ex_dnr {own : List Rat} {i : Int} {n : Nat} (h : EX B ta ε L (.d (eT frQ own)) La) (h2 : EX B tb ε La (.d (.int i)) Lb) (hi : i = (n : Int)) (hn : n < own.length) : EX B (tOp (rIxT B.K) (tOp (rIxT B.K) ta tb) (tC (.int 1))) ε L (.d (.int (dn own (n + 1)))) Lb := ex_ixT (ds := [.int (gt oQ own n).num, .int ((gt oQ own n).den : Int)]) (ex_at (e := frQ) (xs := own) (n := n) h h2 hi (gt_at oQ hn)) ex_cI rfl
end
theorem okd_law_turned (Fn : Fun K "_law_turned" "_law_turned" s_law_turned f fd) (T : Bt P mg base) (D_law_fraction : Df P w K mg base 41 "_law_fraction" ["above", "below"] (S_law_fraction K)) : FnOk P w K mg base CX0 42 f fd ["numbers", "own"] (S_law_turned K) := by
  refine fn_D Fn sc_law_turned (by decide) (fun _ => rfl) fun cdv A outer s H E hr => ⟨_, (pss_cons (ps_set (i := 2) sc_law_turned.nd rfl (.inl rfl) (pe_lst pa_nil))
      (pss_cons (ps_for PassesOwn.never rfl (pi_range2 (by rfl) T.n_range (pa_cons pe_int (pa_cons (pe_op op_add (pe_callB (r := Evl.rLenS K) call_len_seq (by rfl) T.n_len (by decide +kernel) (pa_cons (pv 1) pa_nil)) pe_int) pa_nil))) (pg_name (i := 3) sc_law_turned.nd rfl (Or.inl rfl)) (pss_cons (ps_asg (pe_tup (pa_cons pe_int (pa_cons pe_int pa_nil))) (pg_tup rfl (pgs_cons (pg_name (i := 4) sc_law_turned.nd rfl (Or.inl rfl)) (pgs_cons (pg_name (i := 5) sc_law_turned.nd rfl (Or.inl rfl)) pgs_nil))))
      (pss_cons (ps_for PassesOwn.never rfl (pi_range2 (by rfl) T.n_range (pa_cons pe_int (pa_cons (pe_op op_add (pv 3) pe_int) pa_nil))) (pg_name (i := 6) sc_law_turned.nd rfl (Or.inl rfl)) (pss_one (ps_for PassesOwn.never rfl (pi_range1 (by rfl) T.n_range (pa_cons (pe_op (op_fdivP hr T.hpl) (pv 3) (pv 6)) pa_nil)) (pg_name (i := 9) sc_law_turned.nd rfl (Or.inl rfl)) (pss_one (ps_set (i := 5) sc_law_turned.nd rfl (.inl rfl) (pe_op op_mulW (pv 5) (pe_ix (r := rIxT K) ix_tup (pe_ix (r := rIxT K) ix_tup (pv 1) (pe_op op_sub (pv 6) pe_int) (fun _ _ => rfl)) pe_int (fun _ _ => rfl))))))))
      (pss_cons (ps_for PassesOwn.never rfl (pi_list (pe_ix (r := rIxL K) ix_list (pv 0) (pv 3) (fun _ _ => rfl))) (pg_tup rfl (pgs_cons (pg_name (i := 7) sc_law_turned.nd rfl (Or.inl rfl)) (pgs_cons (pg_name (i := 8) sc_law_turned.nd rfl (Or.inl rfl)) pgs_nil))) (pss_cons (ps_set (i := 10) sc_law_turned.nd rfl (.inl rfl) pe_int)
      (pss_cons (ps_for PassesOwn.never rfl (pi_list (pv 8)) (pg_name (i := 6) sc_law_turned.nd rfl (Or.inl rfl)) (pss_cons (ps_set (i := 7) sc_law_turned.nd rfl (.inl rfl) (pe_op op_mulW (pv 7) (pe_ix (r := rIxT K) ix_tup (pe_ix (r := rIxT K) ix_tup (pv 1) (pe_op op_sub (pv 6) pe_int) (fun _ _ => rfl)) pe_int (fun _ _ => rfl))))
      (pss_one (ps_set (i := 10) sc_law_turned.nd rfl (.inl rfl) (pe_op op_mulW (pv 10) (pe_ix (r := rIxT K) ix_tup (pe_ix (r := rIxT K) ix_tup (pv 1) (pe_op op_sub (pv 6) pe_int) (fun _ _ => rfl)) pe_int (fun _ _ => rfl)))))))
      (pss_one (ps_set (i := 4) sc_law_turned.nd rfl (.inl rfl) (pe_op op_add (pv 4) (pe_op op_mulW (pv 7) (pe_op (op_fdivP hr T.hpl) (pv 5) (pv 10)))))))))
      (pss_one (ps_expr (pe_bm PySem.F.plainAttrs_list PySem.F.slot_list_append PySem.F.type_list_append mt_append (pv 2) (pa_cons (pe_callD D_law_fraction (hr.mono (by decide)) (by rfl) (pa_cons (pv 4) (pa_cons (pv 5) pa_nil))) pa_nil))))))))
      (pss_one (ps_ret (pe_tupleOf (by rfl) T.n_tuple (pv 2)))))), ?_⟩
  rintro B Q ⟨k, b, own⟩ rfl hrow q
  have hl := hrow.len
  dsimp only at hrow hl q
  show Ho B _ [dv (eL (eL pairE) ((List.range 9).map (numsAt k b))), dv (eT frQ own), none, none, none, none, none, none, none, none, none] []
  refine x_seq (x_setN (en_lst (ds := []) ea_nil (Nat.zero_le _)) fun p hp => ?_)
  refine x_sq (x_forR2 (lo := 1) (n := (own.length : Int) + 1) (ea_cons ex_cI (ea_cons (ex_add (ex_len (e := frQ) (xs := own) (ex_v rfl)) ex_cI) ea_nil)) (by omega) (fun i ε L => ε = [dv (eL (eL pairE) ((List.range 9).map (numsAt k b))), dv (eT frQ own), lref p, none, none, none, none, none, none, none, none] ∧ L = [.lst p (((List.range i).map fun i => evP (xo own) (numsAt k b (i + 1))).map frQ)]) ⟨rfl, rfl⟩ ?_ ?_)
  · rintro j ε' L' hj ⟨rfl, rfl⟩
    have hj : j < own.length := by omega
    have ej : (1 : Int) + (j : Int) = ((j + 1 : Nat) : Int) := by omega
    rw [ej]
    refine x_seq (x_asg (ex_tup (ds := [.int 0, .int 1]) (ea_cons ex_cI (ea_cons ex_cI ea_nil)) (Nat.le_of_ble_eq_true rfl)) gt_tup2 ?_)
    refine x_sq (x_forR2 (lo := 1) (n := ((j + 1 : Nat) : Int) + 1) (ea_cons ex_cI (ea_cons (ex_add (ex_v rfl) ex_cI) ea_nil)) (by omega) (fun s ε L => ε = [dv (eL (eL pairE) ((List.range 9).map (numsAt k b))), dv (eT frQ own), lref p, iv ((j + 1 : Nat) : Int), iv 0, iv (prI (dn own) (comm (j + 1) s)), none, none, none, none, none] ∧ L = [.lst p (((List.range j).map fun i => evP (xo own) (numsAt k b (i + 1))).map frQ)]) ⟨rfl, rfl⟩ ?_ ?_)
    · rintro s ε' L' hs ⟨rfl, rfl⟩
      have hs : s ≤ j := by omega
      have es : (1 : Int) + (s : Int) = ((s + 1 : Nat) : Int) := by omega
      rw [es]
      obtain ⟨m, hm⟩ : ∃ m, m = (j + 1) / (s + 1) := ⟨_, rfl⟩
      have hq : (((j + 1 : Nat) : Int) / ((s + 1 : Nat) : Int)) = ((m : Nat) : Int) := by rw [hm]; exact (Int.natCast_ediv _ _).symm
      have hc24 := comm_len (j + 1) (by omega) (s + 1) (by omega)
      rw [comm_succ, List.length_append, List.length_replicate, ← hm] at hc24
      refine x_forR1 (n := (m : Int)) (ea_cons (ex_int (ex_fdivP (ex_v rfl) (ex_v rfl) (by omega)) hq) ea_nil) (by omega) (fun t ε L => ε = [dv (eL (eL pairE) ((List.range 9).map (numsAt k b))), dv (eT frQ own), lref p, iv ((j + 1 : Nat) : Int), iv 0, iv (prI (dn own) (comm (j + 1) s ++ List.replicate t (s + 1))), iv ((s + 1 : Nat) : Int), none, none, none, none] ∧ L = [.lst p (((List.range j).map fun i => evP (xo own) (numsAt k b (i + 1))).map frQ)]) ⟨by rw [List.replicate_zero, List.append_nil]; rfl, rfl⟩ ?_ ?_
      · rintro t ε' L' ht ⟨rfl, rfl⟩
        have ht : t < m := by omega
        refine x_set (a := .d (.int (prI (dn own) (comm (j + 1) s ++ List.replicate (t + 1) (s + 1))))) (ex_int (ex_mul (ex_v rfl) (ex_dnr (n := s) (own := own) (ex_v rfl) (ex_sub (ex_v rfl) ex_cI) (by omega) (by omega)) (cmul (pr_bd (l := 24) (dn_le hrow) (by rw [List.length_append, List.length_replicate]; omega)) (le_bd (dn_le hrow _)) (by decide))) ?_) (nxt (x_end ⟨rfl, rfl⟩))
        rw [List.replicate_succ', ← List.append_assoc, pr_app _ [s + 1], pr_one]
      · rintro ε' L' ⟨rfl, rfl⟩
        rw [Int.toNat_natCast, hm, ← comm_succ]
        exact nxt (x_end ⟨rfl, rfl⟩)
    · rintro ε' L' ⟨rfl, rfl⟩
      have e : (((j + 1 : Nat) : Int) + 1 - 1).toNat = j + 1 := by omega
      rw [e]
      have hC : Bd (101 * 24 + 1) (prI (dn own) (comm (j + 1) (j + 1))) := pr_bd (l := 24) (dn_le hrow) (comm_len (j + 1) (by omega) (j + 1) (Nat.le_refl _))
      have hCp := pr_pos (dn_pos own) (comm (j + 1) (j + 1))
      have hat : ((List.range 9).map (numsAt k b))[j + 1]? = some (numsAt k b (j + 1)) := by
        rw [List.getElem?_map, List.getElem?_range (by omega)]; rfl
      refine nxt (x_seq (x_forL (ds := (numsAt k b (j + 1)).map pairE) (ex_atl (e := eL pairE) (xs := (List.range 9).map (numsAt k b)) (n := j + 1) (ex_v rfl) (ex_v rfl) .d rfl hat) (fun u i ε L => ε = [dv (eL (eL pairE) ((List.range 9).map (numsAt k b))), dv (eT frQ own), lref p, iv ((j + 1 : Nat) : Int), iv (toI (nn own) (dn own) (prI (dn own) (comm (j + 1) (j + 1))) ((numsAt k b (j + 1)).take i)), iv (prI (dn own) (comm (j + 1) (j + 1))), none, none, none, none, none] ∧ L = [.lst p (((List.range j).map fun i => evP (xo own) (numsAt k b (i + 1))).map frQ), .know u (.list ((numsAt k b (j + 1)).map pairE))]) (fun u => ⟨rfl, rfl⟩) (fun u i ε' L' ⟨_, h⟩ => by rw [h]; simp) ?_ ?_))
      · rintro u i d ε' L' hd ⟨rfl, rfl⟩
        obtain ⟨⟨sz, c⟩, hy, rfl⟩ := map_at hd
        have hmem := List.mem_of_getElem? hy
        have G := numsAt_good (by omega) hmem
        have hc := coef_of (by omega) hmem
        have gl := G.len
        dsimp only at G hc gl
        refine ⟨_, gt_tup2 (d := .int c) (e := eS sz), x_seq (x_set (a := .d (.int 1)) ex_cI ?_)⟩
        refine x_sq (x_forL (ds := (zs sz).map PyData.int) (ex_v rfl) (fun t a ε L => ε = [dv (eL (eL pairE) ((List.range 9).map (numsAt k b))), dv (eT frQ own), lref p, iv ((j + 1 : Nat) : Int), iv (toI (nn own) (dn own) (prI (dn own) (comm (j + 1) (j + 1))) ((numsAt k b (j + 1)).take i)), iv (prI (dn own) (comm (j + 1) (j + 1))), none, iv (c * prI (nn own) (sz.take a)), dv (eS sz), none, iv (prI (dn own) (sz.take a))] ∧ L = [.lst p (((List.range j).map fun i => evP (xo own) (numsAt k b (i + 1))).map frQ), .know u (.list ((numsAt k b (j + 1)).map pairE)), .know t (.list ((zs sz).map PyData.int))]) (fun t => ⟨by show _ = _; rw [show c * prI (nn own) (sz.take 0) = c from Int.mul_one c]; rfl, rfl⟩) (fun t a ε' L' ⟨_, h⟩ => by rw [h]; simp) ?_ ?_)
        · rintro t a d ε' L' hd ⟨rfl, rfl⟩
          obtain ⟨z, hz, rfl⟩ := map_at hd
          obtain ⟨n, hn, rfl⟩ := zs_at hz
          have ha := (List.getElem?_eq_some_iff.mp hn).1
          have h1 := G.low n (List.mem_of_getElem? hn)
          have h2 := G.top n (List.mem_of_getElem? hn)
          have htl : (sz.take a).length ≤ 8 := by rw [List.length_take]; omega
          have ht1 : sz.take (a + 1) = sz.take a ++ [n] := by rw [List.take_add_one, hn]; rfl
          have en : n = n - 1 + 1 := by omega
          refine ⟨_, gt_name, x_seq (x_set (a := .d (.int (c * prI (nn own) (sz.take (a + 1))))) (ex_int (ex_mul (ex_v rfl) (ex_nmr (n := n - 1) (own := own) (ex_v rfl) (ex_sub (ex_v rfl) ex_cI) (by omega) (by omega)) (cmul (Bd.mul (k := 40) hc (pr_bd (l := 8) (nn_le hrow) htl)) (le_bd (nn_le hrow _)) (by decide))) ?_) ?_)⟩
          · rw [ht1, pr_app, pr_one, ← en, Int.mul_assoc]
          · refine nxt (x_set (a := .d (.int (prI (dn own) (sz.take (a + 1))))) (ex_int (ex_mul (ex_v rfl) (ex_dnr (n := n - 1) (own := own) (ex_v rfl) (ex_sub (ex_v rfl) ex_cI) (by omega) (by omega)) (cmul (pr_bd (l := 8) (dn_le hrow) htl) (le_bd (dn_le hrow _)) (by decide))) ?_) (nxt (x_end ⟨rfl, rfl⟩)))
            rw [ht1, pr_app, pr_one, ← en]
        · rintro t ε' L' ⟨rfl, rfl⟩
          have ezl : ((zs sz).map PyData.int).length = sz.length := by rw [List.length_map]; unfold zs; rw [List.length_map]
          rw [ezl, List.take_length]
          have hstep : (numsAt k b (j + 1)).take (i + 1) = (numsAt k b (j + 1)).take i ++ [(sz, c)] := by rw [List.take_add_one, hy]; rfl
          refine nxt (ho_drop (k := 2) (m := .know t (.list ((zs sz).map PyData.int))) ?_ rfl (fun x hx => nomatch hx))
          show Ho B _ _ [.lst p (((List.range j).map fun i => evP (xo own) (numsAt k b (i + 1))).map frQ), .know u (.list ((numsAt k b (j + 1)).map pairE))]
          refine x_set (a := .d (.int (toI (nn own) (dn own) (prI (dn own) (comm (j + 1) (j + 1))) ((numsAt k b (j + 1)).take (i + 1))))) (ex_int (ex_add (ex_v rfl) (ex_mul (ex_v rfl) (ex_fdivP (ex_v rfl) (ex_v rfl) (pr_pos (dn_pos own) sz)) (cmul (Bd.mul (k := 40) hc (pr_bd (l := 8) (nn_le hrow) (by omega))) hC.div (by decide)))) ?_) (nxt (x_end ⟨rfl, rfl⟩))
          rw [hstep, to_app]
          show _ = _ + (c * prI (nn own) sz * (_ / _) + 0)
          rw [Int.add_zero]
      · rintro u ε' L' ⟨rfl, rfl⟩
        rw [List.length_map, List.take_length]
        refine nxt (ho_drop (k := 1) (m := .know u (.list ((numsAt k b (j + 1)).map pairE))) ?_ rfl (fun x hx => nomatch hx))
        show Ho B _ _ [.lst p (((List.range j).map fun i => evP (xo own) (numsAt k b (i + 1))).map frQ)]
        refine x_appW (e := frQ) (ex_v rfl) ⟨_, _, .z⟩ (w_callD (wa_x (ex_v rfl) (wa_x (ex_v rfl) (wa_nil ⟨(_, _), rfl, hCp, fun x hx => ⟨_, _, .z, by rw [List.length_map, List.length_map, List.length_range]; omega, nxt (x_end ⟨rfl, ?_⟩)⟩⟩))))
        have hx : x = Rat.divInt _ _ := hx
        rw [hx, due_ev (by omega), List.range_succ, List.map_append, List.map_append]; rfl
  · rintro ε' L' ⟨rfl, rfl⟩
    have e : ((own.length : Int) + 1 - 1).toNat = own.length := by omega
    rw [e]
    exact nxt (x_retD q (wv_of (x := turned k b own) (ex_is (ex_tupL (ds := (turned k b own).map frQ) (ex_v rfl) (.o (k := 0) rfl)) rfl) rfl))
def letQ (q : Rat) : Bool := decide ((q.num.natAbs : Int) ≤ 10 ^ 30) && decide ((q.den : Int) ≤ 10 ^ 30)
def letD : PyData → PyData
  | .tuple [.int a, .int b] => .bool (decide ((a.natAbs : Int) ≤ 10 ^ 30) && decide (b ≤ 10 ^ 30))
  | d => d
def fst2 : PyData → PyData
  | .tuple [a, b] => a
  | d => d
def snd2 : PyData → PyData
  | .tuple [a, b] => b
  | d => d
abbrev S_law_is_let (K : PySem.W.Frag) : Sp := spD K (fun l : List Rat => [eT frQ l]) (fun l => l.length ≤ 1000) PyData.bool (fun l x => x = l.all letQ)
theorem okd_law_is_let (Fn : Fun K "_law_is_let" "_law_is_let" s_law_is_let f fd) (T : Bt P mg base)  : FnOk P w K mg base CX0 41 f fd ["row"] (S_law_is_let K) := by
  refine fn_D Fn sc_law_is_let (by decide) (fun _ => rfl) fun cdv A outer s H E hr => ⟨_, (pss_one (ps_ret (pe_callB (r := rAll K) (cr_all rfl) (by rfl) T.n_all (by decide +kernel) (pa_cons (pe_lc (g := gTup K 2 (gCons (gName 1) (gCons (gName 2) gNil))) (own := [("above", 1), ("below", 2)]) rfl sc_law_is_let.nd (pi_tup (pv 0)) (blkOk_by (own := [("above", 1), ("below", 2)]) (N := ["row", "above", "below"]) (sc := defScope s_law_is_let) (by decide +kernel)) (fun _ _ _ _ _ => (pg_tup rfl (pgs_cons (pg_name (i := 1) sc_law_is_let.nd rfl (Or.inl rfl)) (pgs_cons (pg_name (i := 2) sc_law_is_let.nd rfl (Or.inl rfl)) pgs_nil)))) (fun _ _ _ _ _ => pts_nil) (fun _ _ _ _ _ => (pe_and (pe_cmpR op_le (pe_callB call_abs (by rfl) T.n_abs (by decide +kernel) (pa_cons (pv 1) pa_nil)) (pe_op op_pow pe_int pe_int) (nomark _)) (pe_one (pe_cmpR op_le (pv 2) (pe_op op_pow pe_int pe_int) (nomark _)))))) pa_nil)))), ?_⟩
  rintro B Q l rfl hl q
  show Ho B _ [dv (eT frQ l), none, none] []
  refine x_retD q (wv_of (x := l.all letQ) (ex_boolE (ex_allB (bs := l.map letQ) (ex_is (ex_frz (en_lcTP (xs := l.map frQ) (fun _ => true) letD (fun x => [dv (eT frQ l), dv (fst2 x), dv (snd2 x)]) (ex_v rfl) (by rw [List.length_map]; omega) (gw_tup2 (by simp) (by simp)) (fun d hd => ?_) (fun d hd m => et_yes) (fun d hd _ m => ?_))) ?_) .d) ?_) rfl)
  · obtain ⟨z, hz, rfl⟩ := List.mem_map.mp hd
    exact gt_tup2
  · obtain ⟨z, hz, rfl⟩ := List.mem_map.mp hd
    exact ex_andV (ex_le (ex_int (ex_abs (ex_v rfl)) (abs_if z.num)) (ex_pow ex_cI ex_cI ⟨by decide, by decide, by decide⟩)) (fun _ => ex_le (ex_v rfl) (ex_pow ex_cI ex_cI ⟨by decide, by decide, by decide⟩)) (fun _ => rfl)
  · rw [filter_yes, List.map_map, List.map_map]; rfl
  · rw [List.all_map]; rfl
end K82

/-! ## B13 -/
set_option Elab.async false
set_option linter.all false
set_option maxRecDepth 100000
set_option maxHeartbeats 4000000
set_option autoImplicit false
namespace K82
open PySem L2 Fz K80 Means
variable {P : Program} {w : World} {K : PySem.W.Frag} {mg : Str → Option Value} {base : Heap} {f : Addr} {fd : FuncData}
/-! ### rows drawn -/
abbrev S_law_great (K : PySem.W.Frag) : Sp := S_draw K
theorem okd_law_great (Fn : Fun K "_law_great" "_law_great" s_law_great f fd) (T : Bt P mg base) (D_law_draw : Df P w K mg base 41 "_law_draw" ["bag", "below"] (S_law_draw K)) : FnOk P w K mg base CX0 42 f fd ["bag", "below"] (S_law_great K) := by
  refine fn_G Fn sc_law_great (by decide) (fun _ => rfl) fun cdv A outer s H E hr => ⟨_, (pss_cons (ps_set (i := 2) sc_law_great.nd rfl (.inl rfl) pe_int)
      (pss_cons (ps_for PassesOwn.never rfl (pi_range1 (by rfl) T.n_range (pa_cons pe_int pa_nil)) (pg_name (i := 3) sc_law_great.nd rfl (Or.inl rfl)) (pss_one (ps_set (i := 2) sc_law_great.nd rfl (.inl rfl) (pe_op op_add (pe_op op_mulW (pv 2) pe_int) (pe_callD D_law_draw (hr.mono (by decide)) (by rfl) (pa_cons (pv 0) (pa_cons pe_int pa_nil)))))))
      (pss_one (ps_ret (pe_op op_mod (pe_callTy call_int1 (by rfl) T.n_int (by decide +kernel) (pa_cons (pv 2) pa_nil)) (pv 1)))))), ?_⟩
  rintro B Q pb pc b n rfl ⟨h0, h1⟩ q
  show Ho B _ [bagv pb, iv n, none, none] [b.at pb pc]
  refine x_seq (x_set (a := .d (.int 0)) ex_cI ?_)
  refine x_sq (x_forR1 (n := 4) (ea_cons ex_cI ea_nil) (by decide) (fun i ε L => ∃ (m : Int) (b : Bag), 0 ≤ m ∧ m < 2 ^ (30 * i) ∧ ε = [bagv pb, iv n, iv m, none] ∧ L = [b.at pb pc]) ⟨0, b, by decide, by decide, rfl, rfl⟩ ?_ ?_)
  · rintro i ε' L' hi ⟨m, b, hm0, hm1, rfl, rfl⟩
    have hi : i < 4 := by omega
    have hb : Bd 120 m := by
      have h2 : 2 ^ (30 * i) ≤ 2 ^ 120 := Nat.pow_le_pow_right (by decide) (by omega)
      have h3 : ((2 ^ (30 * i) : Nat) : Int) = (2 : Int) ^ (30 * i) := by rw [Int.natCast_pow]; rfl
      unfold Bd
      omega
    refine x_setV (w_add (wv_of (ex_mul (ex_v rfl) ex_cI (cmul (b := 30) hb (by unfold Bd; decide) (by decide))) (w_drw (pb := pb) (pc := pc) rfl ex_cI (fun b' => .z) (by decide) fun x b1 g0 g1 => nxt (x_end ⟨m * 300000000 + x, b1, by omega, ?_, rfl, rfl⟩)))) (fun _ => .s (.s (.z)))
    have e : (2 : Int) ^ (30 * (i + 1)) = 2 ^ (30 * i) * 2 ^ 30 := by rw [Nat.mul_succ, Int.pow_add]
    rw [e]
    generalize (2 : Int) ^ (30 * i) = p at hm1
    omega
  · rintro ε' L' ⟨m, b, hm0, hm1, rfl, rfl⟩
    exact nxt (x_retG q (w_mod (wv_of (ex_int1 (ex_v rfl)) (wv_of (ex_v rfl) ⟨h0, ⟨Int.emod_nonneg _ (by omega), Int.emod_lt_of_pos _ h0⟩, b, List.mem_cons_self⟩))))
structure RowP (n : Nat) (mode : Str) (l : List Rat) : Prop where
  len : l.length = n
  all : ∀ q ∈ l, Lt (2 ^ 101) q
  one : mode = "integers" → ∀ q ∈ l, q.den = 1
theorem div_lt {a b : Int} (hb : 0 < b) : (Rat.divInt a b).num.natAbs ≤ a.natAbs ∧ (Rat.divInt a b).den ≤ b.natAbs := by
  rw [Rat.num_divInt, Rat.den_divInt, if_neg (by omega)]
  have e1 : b.sign = 1 := Int.sign_eq_one_of_pos hb
  rw [e1, Int.one_mul]
  exact ⟨Int.natAbs_ediv_le_natAbs a _, Nat.div_le_self _ _⟩
abbrev S_law_row (K : PySem.W.Frag) : Sp := spG K (fun y : Nat × Str => [.int (y.1 : Int), .str y.2]) (fun y => y.1 ≤ 8) (eT frQ) (fun y l => RowP y.1 y.2 l)
theorem okd_law_row (Fn : Fun K "_law_row" "_law_row" s_law_row f fd) (T : Bt P mg base) (D_law_draw : Df P w K mg base 41 "_law_draw" ["bag", "below"] (S_law_draw K)) (D_law_fraction : Df P w K mg base 41 "_law_fraction" ["above", "below"] (S_law_fraction K)) (D_law_great : Df P w K mg base 42 "_law_great" ["bag", "below"] (S_law_great K)) : FnOk P w K mg base CX0 43 f fd ["bag", "n", "mode"] (S_law_row K) := by
  refine fn_G Fn sc_law_row (by decide) (fun _ => rfl) fun cdv A outer s H E hr => ⟨_, (pss_cons (ps_set (i := 3) sc_law_row.nd rfl (.inl rfl) (pe_lst pa_nil))
      (pss_cons (ps_for PassesOwn.never rfl (pi_range1 (by rfl) T.n_range (pa_cons (pv 1) pa_nil)) (pg_name (i := 4) sc_law_row.nd rfl (Or.inl rfl)) (pss_cons (ps_set (i := 5) sc_law_row.nd rfl (.inl rfl) (pe_callD D_law_draw (hr.mono (by decide)) (by rfl) (pa_cons (pv 0) (pa_cons pe_int pa_nil))))
      (Evl.pss_cut (ps_if (pt_cmpR op_eq (pv 2) pe_str (nomark _)) (pss_one (ps_par (i := 6) (j := 7) (by rfl) sc_law_row.nd rfl rfl (by decide) rfl rfl (pa_cons (pe_op op_sub (pe_callD D_law_draw (hr.mono (by decide)) (by rfl) (pa_cons (pv 0) (pa_cons pe_int pa_nil))) pe_int) (pa_cons (pe_op op_add pe_int (pe_callD D_law_draw (hr.mono (by decide)) (by rfl) (pa_cons (pv 0) (pa_cons pe_int pa_nil)))) pa_nil)) (by rfl))) (pss_one (ps_if (pt_cmpR op_eq (pv 2) pe_str (nomark _)) (pss_one (ps_par (i := 6) (j := 7) (by rfl) sc_law_row.nd rfl rfl (by decide) rfl rfl (pa_cons (pe_op op_sub (pe_callD D_law_draw (hr.mono (by decide)) (by rfl) (pa_cons (pv 0) (pa_cons pe_int pa_nil))) pe_int) (pa_cons (pe_op op_add pe_int (pe_callD D_law_draw (hr.mono (by decide)) (by rfl) (pa_cons (pv 0) (pa_cons pe_int pa_nil)))) pa_nil)) (by rfl))) (pss_cons (ps_set (i := 6) sc_law_row.nd rfl (.inl rfl) (pe_op op_sub (pe_callD D_law_great (hr.mono (by decide)) (by rfl) (pa_cons (pv 0) (pa_cons (pe_op op_add (pe_op op_mulW pe_int (pe_op op_pow pe_int pe_int)) pe_int) pa_nil))) (pe_op op_pow pe_int pe_int)))
      (Evl.pss_cut (ps_set (i := 7) sc_law_row.nd rfl (.inl rfl) (pe_ifExp (pt_cmpR op_eq (pv 2) pe_str (nomark _)) (pe_op op_add pe_int (pe_callD D_law_great (hr.mono (by decide)) (by rfl) (pa_cons (pv 0) (pa_cons (pe_op op_pow pe_int pe_int) pa_nil)))) (pe_op op_add pe_int (pe_callD D_law_draw (hr.mono (by decide)) (by rfl) (pa_cons (pv 0) (pa_cons pe_int pa_nil))))))
      (pss_one (ps_set (i := 6) sc_law_row.nd rfl (.inl rfl) (pe_ifExp (pt_cmpR op_lt (pv 5) pe_int (nomark _)) (pe_ix (r := rIxL K) ix_list (pe_lst (pa_cons pe_int (pa_cons pe_int (pa_cons (pe_op op_pow pe_int pe_int) (pa_cons (pe_un un_neg (pe_op op_pow pe_int pe_int)) pa_nil))))) (pv 5) (fun _ _ => rfl)) (pv 6)))))))))
      (pss_one (ps_expr (pe_bm PySem.F.plainAttrs_list PySem.F.slot_list_append PySem.F.type_list_append mt_append (pv 3) (pa_cons (pe_callD D_law_fraction (hr.mono (by decide)) (by rfl) (pa_cons (pv 6) (pa_cons (pe_ifExp (pt_cmpR op_eq (pv 2) pe_str (nomark _)) pe_int (pv 7)) pa_nil))) pa_nil)))))))
      (pss_one (ps_ret (pe_tupleOf (by rfl) T.n_tuple (pv 3)))))), ?_⟩
  rintro B Q pb pc b ⟨n, mode⟩ rfl hn q
  dsimp only at hn q
  show Ho B _ [bagv pb, iv (n : Int), dv (.str mode), none, none, none, none, none] [b.at pb pc]
  refine x_seq (x_setN (en_lst (ds := []) ea_nil (Nat.zero_le _)) fun p hp => ?_)
  refine x_sq (x_forR1 (n := (n : Int)) (ea_cons (ex_v rfl) ea_nil) (by omega) (fun i ε L => ∃ (l : List Rat) (b : Bag), RowP i mode l ∧ ε = [bagv pb, iv (n : Int), dv (.str mode), lref p, none, none, none, none] ∧ L = [.lst p (l.map frQ), b.at pb pc]) ⟨[], b, ⟨rfl, by simp, by simp⟩, rfl, rfl⟩ ?_ ?_)
  · rintro i ε' L' hi ⟨l, b, hl, rfl, rfl⟩
    have hi : i < n := by omega
    refine x_seq (x_setV (w_drw (pb := pb) (pc := pc) rfl ex_cI (fun b' => .s .z) (by decide) fun edge b1 e0 e1 => ?_) (fun _ => .s (.s (.s (.s (.s (.z)))))))
    refine nxt (x_cut (M := fun ε L => ∃ (a c : Int) (b : Bag), (a.natAbs ≤ 2 ^ 101 ∧ 0 < c ∧ c.natAbs ≤ 2 ^ 101) ∧ ε = [bagv pb, iv (n : Int), dv (.str mode), lref p, none, none, iv a, iv c] ∧ L = [.lst p (l.map frQ), b.at pb pc]) ?_ ?_)
    · refine x_ifW (wt_of (et_test (ex_eqS (ex_v rfl) ex_cS)) ⟨fun _ => ?_, fun _ => ?_⟩)
      · exact x_parW (wa_v (w_sub (w_drw (pb := pb) (pc := pc) rfl ex_cI (fun b' => .s .z) (by decide) fun x b2 x0 x1 => wv_of ex_cI (wa_v (w_add (wv_of ex_cI (w_drw (pb := pb) (pc := pc) rfl ex_cI (fun b' => .s .z) (by decide) fun y b3 y0 y1 => wa_nil ⟨_, _, rfl, nxt (x_end ⟨x - 20, 1 + y, b3, ⟨by omega, by omega, by omega⟩, rfl, rfl⟩)⟩)))))))
      refine x_ifW (wt_of (et_test (ex_eqS (ex_v rfl) ex_cS)) ⟨fun _ => ?_, fun _ => ?_⟩)
      · exact x_parW (wa_v (w_sub (w_drw (pb := pb) (pc := pc) rfl ex_cI (fun b' => .s .z) (by decide) fun x b2 x0 x1 => wv_of ex_cI (wa_v (w_add (wv_of ex_cI (w_drw (pb := pb) (pc := pc) rfl ex_cI (fun b' => .s .z) (by decide) fun y b3 y0 y1 => wa_nil ⟨_, _, rfl, nxt (x_end ⟨x - 1000, 1 + y, b3, ⟨by omega, by omega, by omega⟩, rfl, rfl⟩)⟩)))))))
      have e30 : ∀ {ε : Eps} {L : Own}, EX B (tOp (rI CPow fun i j => .int (i ^ j.toNat)) (tC (.int 10)) (tC (.int 30))) ε L (.d (.int 1000000000000000000000000000000)) L := ex_int (ex_pow ex_cI ex_cI ⟨by decide, by decide, by decide⟩) (by decide)
      refine x_seq (x_setV (w_sub (w_drw (pb := pb) (pc := pc) (n := 2000000000000000000000000000001) rfl (ex_int (ex_add (ex_mul ex_cI e30 (cmul (a := 3) (b := 100) (by unfold Bd; decide) (by unfold Bd; decide) (by decide))) ex_cI) (by decide)) (fun b' => .s .z) (by decide) fun x b2 x0 x1 => wv_of e30 ?_)) (fun _ => .s (.s (.s (.s (.s (.s (.z))))))))
      refine nxt (x_cut (M := fun ε L => ∃ (c : Int) (b : Bag), (0 < c ∧ c.natAbs ≤ 2 ^ 101) ∧ ε = [bagv pb, iv (n : Int), dv (.str mode), lref p, none, iv edge, iv (x - 1000000000000000000000000000000), iv c] ∧ L = [.lst p (l.map frQ), b.at pb pc]) (x_setV (w_if (wt_of (et_test (ex_eqS (ex_v rfl) ex_cS)) ⟨fun _ => w_add (wv_of ex_cI (w_drw (pb := pb) (pc := pc) rfl e30 (fun b' => .s .z) (by decide) fun y b3 y0 y1 => ?_)), fun _ => w_add (wv_of ex_cI (w_drw (pb := pb) (pc := pc) rfl ex_cI (fun b' => .s .z) (by decide) fun y b3 y0 y1 => ?_))⟩)) (fun _ => .s (.s (.s (.s (.s (.s (.s (.z))))))))) ?_)
      · exact nxt (x_end ⟨1 + y, b3, ⟨by omega, by omega⟩, rfl, rfl⟩)
      · exact nxt (x_end ⟨1 + y, b3, ⟨by omega, by omega⟩, rfl, rfl⟩)
      rintro ε' L' ⟨c, b4, ⟨c0, c1⟩, rfl, rfl⟩
      by_cases ce : edge < 4
      · obtain ⟨z, hz⟩ : ∃ z, ([0, 1, 1000000000000000000000000000000, -1000000000000000000000000000000] : List Int)[edge.toNat]? = some z := by
          rw [List.getElem?_eq_getElem (show edge.toNat < 4 by omega)]; exact ⟨_, rfl⟩
        have hzb : z.natAbs ≤ 2 ^ 101 := by
          have := List.mem_of_getElem? hz
          simp only [List.mem_cons, List.not_mem_nil, or_false] at this
          omega
        exact x_set (a := .d (.int z)) (ex_if (b := true) (et_is (et_test (ex_lt (ex_v rfl) ex_cI)) (decide_eq_true ce)) (fun _ => ex_atl (e := PyData.int) (xs := [0, 1, 1000000000000000000000000000000, -1000000000000000000000000000000]) (n := edge.toNat) (ex_frz (en_lst (ds := [.int 0, .int 1, .int 1000000000000000000000000000000, .int (-1000000000000000000000000000000)]) (ea_cons ex_cI (ea_cons ex_cI (ea_cons e30 (ea_cons (ex_neg e30) ea_nil)))) (Nat.le_of_ble_eq_true rfl))) (ex_v rfl) .d (by omega) hz) (fun h => nomatch h)) (nxt (x_end ⟨z, c, b4, ⟨hzb, c0, c1⟩, rfl, rfl⟩))
      · exact x_set (a := .d (.int (x - 1000000000000000000000000000000))) (ex_if (b := false) (et_is (et_test (ex_lt (ex_v rfl) ex_cI)) (decide_eq_false ce)) (fun h => nomatch h) (fun _ => ex_v rfl)) (nxt (x_end ⟨x - 1000000000000000000000000000000, c, b4, ⟨by omega, c0, c1⟩, rfl, rfl⟩))
    · rintro ε' L' ⟨a, c, b, ⟨ha, hc0, hc⟩, rfl, rfl⟩
      have key : ∀ {d : Int}, 0 < d → d.natAbs ≤ 2 ^ 101 → (mode = "integers" → d = 1) → RowP (i + 1) mode (l ++ [Rat.divInt a d]) := fun {d} hd hd1 hd2 => by
        obtain ⟨g1, g2⟩ := div_lt (a := a) hd
        refine ⟨by rw [List.length_append, hl.len]; rfl, fun q hq => ?_, fun hm q hq => ?_⟩
        · rcases List.mem_append.mp hq with h | h
          · exact hl.all q h
          · rw [List.mem_singleton.mp h]
            exact ⟨Nat.le_trans g1 ha, Nat.le_trans g2 hd1⟩
        · rcases List.mem_append.mp hq with h | h
          · exact hl.one hm q h
          · rw [List.mem_singleton.mp h]
            have := hd2 hm
            subst this
            have := (Rat.divInt a 1).den_pos
            have g2 : (Rat.divInt a 1).den ≤ 1 := g2
            omega
      refine x_appW (e := frQ) (ex_v rfl) ⟨_, _, .z⟩ (w_callD (wa_x (ex_v rfl) (wa_x (ex_ifI (et_test (ex_eqS (ex_v rfl) ex_cS)) (fun _ => ex_cI) (fun _ => ex_v rfl)) (wa_nil ⟨(a, if decide (mode = "integers") then 1 else c), rfl, ?_, fun x hx => ⟨_, _, .z, by rw [List.length_map, hl.len]; omega, nxt (x_end ⟨l ++ [x], b, ?_, rfl, ?_⟩)⟩⟩))))
      · show (0 : Int) < if decide (mode = "integers") = true then 1 else c
        split
        · decide
        · exact hc0
      · have hx : x = Rat.divInt a (if decide (mode = "integers") then 1 else c) := hx
        rw [hx]
        by_cases hm : mode = "integers"
        · rw [decide_eq_true hm, if_pos rfl]
          exact key (by decide) (by decide) fun _ => rfl
        · rw [decide_eq_false hm, if_neg (by decide)]
          exact key hc0 hc fun h => absurd h hm
      · rw [List.map_append]; rfl
  · rintro ε' L' ⟨l, b, hl, rfl, rfl⟩
    rw [Int.toNat_natCast] at hl
    exact nxt (x_retG q (wv_of (x := l) (ex_is (ex_tupL (ds := l.map frQ) (ex_v rfl) (.o (k := 0) rfl)) rfl) ⟨hl, b, List.mem_cons_of_mem _ List.mem_cons_self⟩))
end K82

/-! ## B14 -/
set_option Elab.async false
set_option linter.all false
set_option maxRecDepth 100000
set_option maxHeartbeats 4000000
set_option autoImplicit false
namespace K82
open PySem L2 Fz K80 Means
variable {P : Program} {w : World} {K : PySem.W.Frag} {mg : Str → Option Value} {base : Heap} {f : Addr} {fd : FuncData}
/-! ### steps over whole numbers -/
theorem bc_fc : ∀ n i : Nat, n ≤ 7 → i ≤ n → fc n / (fc i * fc (n - i)) = bc n i := by
  have key : ∀ (n : Fin 8) (i : Fin 8), i.val ≤ n.val → fc n.val / (fc i.val * fc (n.val - i.val)) = bc n.val i.val := by decide
  exact fun n i hn hi => key ⟨n, by omega⟩ ⟨i, by omega⟩ hi
theorem sum_sm (g : Nat → Int) : ∀ n, ((List.range n).map g).sum = smR oZ g n
  | 0 => rfl
  | n + 1 => by
    rw [List.range_succ, List.map_append, List.sum_append, sum_sm g n]
    show _ + (g n + 0) = smR oZ g n + g n
    rw [Int.add_zero]
theorem smz (g : Nat → Int) : ∀ n, (∀ i, i < n → g i = 0) → smR oZ g n = 0
  | 0, _ => rfl
  | n + 1, h => by
    show smR oZ g n + g n = 0
    rw [smz g n fun i hi => h i (by omega), h n (by omega)]; rfl
theorem sm_head (g : Nat → Int) : ∀ n, (∀ i, 0 < i → i < n + 1 → g i = 0) → smR oZ g (n + 1) = g 0
  | 0, _ => Int.zero_add _
  | n + 1, h => by
    show smR oZ g (n + 1) + g (n + 1) = g 0
    rw [sm_head g n fun i h0 hi => h i h0 (by omega), h (n + 1) (by omega) (by omega), Int.add_zero]
theorem row_one (w : Nat → Int) (j : Nat) : rowG oZ w 1 j = w j := by
  show smR oZ (fun i => (if i = 0 then (1 : Int) else 0) * w (j - i)) (j + 1) = w j
  rw [sm_head _ j fun i h0 hi => by rw [if_neg (by omega)]; exact Int.zero_mul _]
  rw [if_pos rfl, Int.one_mul]; rfl
theorem zt_at {l : List Int} {i : Nat} (h : i < l.length) : l[i]? = some (gt oZ l i) := gt_at oZ h
theorem take_gt {l : List Int} {j : Nat} (h : j ≤ l.length) : l.take j = (List.range j).map (gt oZ l) := by
  induction j with
  | zero => rfl
  | succ j ih => rw [List.take_add_one, ih (by omega), zt_at (by omega), List.range_succ, List.map_append]; rfl
structure StepOk (y : Means.Kind × List Int × List Int) : Prop where
  len : y.2.1.length ≤ 8
  wlen : y.2.1.length ≤ y.2.2.length
  p : ∀ i, i < 8 → Bd 100000 (gt oZ y.2.1 i)
  w : ∀ i, i ≤ 8 → Bd 100000 (gt oZ y.2.2 i)
  row : ∀ t i, t ≤ 8 → i ≤ 8 → Bd 100000 (rowG oZ (gt oZ y.2.2) t i)
abbrev S_law_step (K : PySem.W.Frag) : Sp := spD K (fun y : Means.Kind × List Int × List Int => [eK y.1, eL PyData.int y.2.1, eL PyData.int y.2.2]) StepOk PyData.int (fun y x => x = nextN oZ y.1 (gt oZ y.2.1) (gt oZ y.2.2) y.2.1.length y.2.1.length)
abbrev lv (l : List Int) : Option AD := dv (eL PyData.int l)
def powU (k : Means.Kind) (ws : List Int) (j i : Nat) : List Int := (List.range j).map (rowG oZ (gt oZ ws) (if k = .unc then i + 1 else 1))
theorem okd_law_step (Fn : Fun K "_law_step" "_law_step" s_law_step f fd) (T : Bt P mg base) (D_law_factorials : Df P w K mg base 41 "_law_factorials" [] (S_law_factorials K)) : FnOk P w K mg base CX0 42 f fd ["kind", "parts", "means"] (S_law_step K) := by
  refine fn_D Fn sc_law_step (by decide) (fun _ => rfl) fun cdv A outer s H E hr => ⟨_, (pss_cons (ps_par3 (i := 3) (j := 4) (l := 5) (by rfl) sc_law_step.nd rfl rfl rfl (by decide) (by decide) (by decide) rfl rfl rfl (pa_cons (pe_callD0 D_law_factorials (hr.mono (by decide)) (by rfl)) (pa_cons (pe_callB (r := Evl.rLenS K) call_len_seq (by rfl) T.n_len (by decide +kernel) (pa_cons (pv 1) pa_nil)) (pa_cons pe_int pa_nil))) (by rfl))
      (pss_cons (ps_set (i := 6) sc_law_step.nd rfl (.inr rfl) (pe_slice (r := rSlL K) sl_list (pv 2) po_none (po_some (pv 4))))
      (pss_cons (ps_for PassesOwn.never rfl (pi_range2 (by rfl) T.n_range (pa_cons pe_int (pa_cons (pe_op op_add (pv 4) pe_int) pa_nil))) (pg_name (i := 7) sc_law_step.nd rfl (Or.inl rfl)) (pss_one (ps_if (pt_cmpR op_eq (pv 0) pe_str (nomark _)) (pss_cons (ps_set (i := 8) sc_law_step.nd rfl (.inl rfl) (pe_op op_fdivW (pe_ix (r := rIxL K) ix_list (pv 3) (pe_op op_sub (pv 4) pe_int) (fun _ _ => rfl)) (pe_op op_mulW (pe_ix (r := rIxL K) ix_list (pv 3) (pe_op op_sub (pv 7) pe_int) (fun _ _ => rfl)) (pe_ix (r := rIxL K) ix_list (pv 3) (pe_op op_sub (pv 4) (pv 7)) (fun _ _ => rfl)))))
      (pss_one (ps_set (i := 5) sc_law_step.nd rfl (.inl rfl) (pe_op op_add (pv 5) (pe_op op_mulW (pe_op op_mulW (pv 8) (pe_ix (r := rIxL K) ix_list (pv 1) (pe_op op_sub (pv 7) pe_int) (fun _ _ => rfl))) (pe_ix (r := rIxL K) ix_list (pv 2) (pe_op op_sub (pv 4) (pv 7)) (fun _ _ => rfl))))))) (pss_one (ps_if (pt_cmpR op_eq (pv 0) pe_str (nomark _)) (pss_one (ps_set (i := 5) sc_law_step.nd rfl (.inl rfl) (pe_op op_add (pv 5) (pe_op op_mulW (pe_ix (r := rIxL K) ix_list (pv 1) (pe_op op_sub (pv 7) pe_int) (fun _ _ => rfl)) (pe_ix (r := rIxL K) ix_list (pv 2) (pe_op op_sub (pv 4) (pv 7)) (fun _ _ => rfl)))))) (pss_cons (ps_set (i := 5) sc_law_step.nd rfl (.inl rfl) (pe_op op_add (pv 5) (pe_op op_mulW (pe_ix (r := rIxL K) ix_list (pv 1) (pe_op op_sub (pv 7) pe_int) (fun _ _ => rfl)) (pe_ix (r := rIxL K) ix_list (pv 6) (pe_op op_sub (pv 4) (pv 7)) (fun _ _ => rfl)))))
      (pss_one (ps_set (i := 6) sc_law_step.nd rfl (.inr rfl) (pe_lc (own := [("much", 9)]) rfl sc_law_step.nd (pi_range1 (by rfl) T.n_range (pa_cons (pv 4) pa_nil)) (blkOk_by (own := [("much", 9)]) (N := ["kind", "parts", "means", "facts", "j", "total", "power", "i", "ways", "much", "at"]) (sc := defScope s_law_step) (by decide +kernel)) (fun _ _ _ _ _ => (pg_name (i := 9) sc_law_step.nd rfl (Or.inr rfl))) (fun _ _ _ _ _ => pts_nil) (fun _ _ _ _ _ => (pe_callB (r := rSum K) (cr_sum rfl) (by rfl) T.n_sum (by decide +kernel) (pa_cons (pe_lc (own := [("at", 10)]) rfl sc_law_step.nd (pi_range1 (by rfl) T.n_range (pa_cons (pe_op op_add (pv 9) pe_int) pa_nil)) (blkOk_by (own := [("at", 10)]) (N := ["kind", "parts", "means", "facts", "j", "total", "power", "i", "ways", "much", "at"]) (by with_unfolding_all rfl)) (fun _ _ _ _ _ => (pg_name (i := 10) sc_law_step.nd rfl (Or.inl rfl))) (fun _ _ _ _ _ => pts_nil) (fun _ _ _ _ _ => (pe_op op_mulW (pe_ix (r := rIxL K) ix_list (pv 6) (pv 10) (fun _ _ => rfl)) (pe_ix (r := rIxL K) ix_list (pv 2) (pe_op op_sub (pv 9) (pv 10)) (fun _ _ => rfl))))) pa_nil))))))))))))
      (pss_one (ps_ret (pv 5)))))), ?_⟩
  rintro B Q ⟨k, ps, ws⟩ rfl hok q
  obtain ⟨hl, hw, hp, hww, hrow⟩ := hok
  dsimp only at hl hw hp hww hrow q
  show Ho B _ [kv k, lv ps, lv ws, none, none, none, none, none, none, none, none] []
  refine x_seq (x_par3 (ea_cons ex_facts (ea_cons (ex_lenl (e := PyData.int) (xs := ps) (ex_v rfl) .d) (ea_cons ex_cI ea_nil))) ?_)
  refine x_sq (x_set (a := .d (eL PyData.int (powU k ws ps.length 0))) (ex_is (ex_frz (en_take (e := PyData.int) (xs := ws) (ex_v rfl) (ex_v rfl) .d (by omega))) ?_) ?_)
  · rw [Int.toNat_natCast, take_gt hw]
    unfold powU
    have : rowG oZ (gt oZ ws) (if k = .unc then 0 + 1 else 1) = gt oZ ws := funext fun j => by
      split <;> exact row_one _ _
    rw [this]; rfl
  refine x_sq (x_forR2 (lo := 1) (n := (ps.length : Int) + 1) (ea_cons ex_cI (ea_cons (ex_add (ex_v rfl) ex_cI) ea_nil)) (by omega) (fun i ε L => ε = [kv k, lv ps, lv ws, fv, iv (ps.length : Int), iv (smR oZ (fun i => gt oZ ps i * restS oZ k (gt oZ ws) (i + 1) ps.length) i), lv (powU k ws ps.length i), none, none, none, none] ∧ L = []) ⟨rfl, rfl⟩ ?_ ?_)
  · rintro i ε' L' hi ⟨rfl, rfl⟩
    have hi : i < ps.length := by omega
    have ep : ∀ {ε : Eps} {L : Own}, ε[1]? = some (lv ps) → ε[7]? = some (iv (1 + (i : Int))) → EX B (tOp (rIxL B.K) (tVar 1) (tOp (rI0 fun i j => .int (i - j)) (tVar 7) (tC (.int 1)))) ε L (.d (.int (gt oZ ps i))) L := fun h1 h2 => ex_atl (e := PyData.int) (xs := ps) (n := i) (ex_v h1) (ex_sub (ex_v h2) ex_cI) .d (by omega) (zt_at hi)
    have ew : ∀ {ε : Eps} {L : Own}, ε[2]? = some (lv ws) → ε[4]? = some (iv (ps.length : Int)) → ε[7]? = some (iv (1 + (i : Int))) → EX B (tOp (rIxL B.K) (tVar 2) (tOp (rI0 fun i j => .int (i - j)) (tVar 4) (tVar 7))) ε L (.d (.int (gt oZ ws (ps.length - (i + 1))))) L := fun h1 h2 h3 => ex_atl (e := PyData.int) (xs := ws) (n := ps.length - (i + 1)) (ex_v h1) (ex_sub (ex_v h2) (ex_v h3)) .d (by omega) (zt_at (by omega))
    have hpi := hp i (by omega)
    have hwi := hww (ps.length - (i + 1)) (by omega)
    cases k with
    | all =>
      refine x_if (b := true) (et_is (et_test (ex_kind (ex_v rfl))) (by decide)) (fun _ => ?_) fun h => nomatch h
      have hbc : ((fc (ps.length - 1) : Int) / ((fc i : Int) * (fc (ps.length - (i + 1)) : Int))) = (bc (ps.length - 1) i : Int) := by
        rw [← bc_fc (ps.length - 1) i (by omega) (by omega), ← Int.natCast_mul, Int.natCast_ediv, show ps.length - 1 - i = ps.length - (i + 1) by omega]
      refine x_seq (x_set (a := .d (.int (bc (ps.length - 1) i : Int))) (ex_int (ex_fdiv (ex_fact (n := ps.length - 1) (ex_v rfl) (ex_sub (ex_v rfl) ex_cI) (by omega) (by omega)) (ex_mul (ex_fact (n := i) (ex_v rfl) (ex_sub (ex_v rfl) ex_cI) (by omega) (by omega)) (ex_fact (n := ps.length - (i + 1)) (ex_v rfl) (ex_sub (ex_v rfl) (ex_v rfl)) (by omega) (by omega)) (cmul (fc_bd (n := i) (by omega)) (fc_bd (n := ps.length - (i + 1)) (by omega)) (by decide))) (cdiv (Int.mul_pos (by have := fc_pos i; omega) (by have := fc_pos (ps.length - (i + 1)); omega)) ((fc_bd (n := i) (by omega)).mul (fc_bd (n := ps.length - (i + 1)) (by omega))) (by decide))) hbc) ?_)
      refine nxt (x_set (a := .d (.int (smR oZ (fun i => gt oZ ps i * restS oZ .all (gt oZ ws) (i + 1) ps.length) (i + 1)))) (ex_int (ex_add (ex_v rfl) (ex_mul (ex_mul (ex_v rfl) (ep rfl rfl) (cmul (bc_bd (n := ps.length - 1) (k := i) (by omega)) hpi (by decide))) (ew rfl rfl rfl) (cmul ((bc_bd (n := ps.length - 1) (k := i) (by omega)).mul hpi) hwi (by decide)))) ?_) (nxt (x_end ⟨rfl, rfl⟩)))
      show _ + _ = _ + gt oZ ps i * ((bc (ps.length - 1) (i + 1 - 1) : Int) * gt oZ ws (ps.length - (i + 1)))
      rw [Nat.add_sub_cancel, ← Int.mul_assoc, Int.mul_comm (gt oZ ps i)]
    | rows =>
      refine x_if (b := false) (et_is (et_test (ex_kind (ex_v rfl))) (by decide)) (fun h => nomatch h) fun _ => ?_
      refine x_if (b := true) (et_is (et_test (ex_kind (ex_v rfl))) (by decide)) (fun _ => ?_) fun h => nomatch h
      exact x_set (a := .d (.int (smR oZ (fun i => gt oZ ps i * restS oZ .rows (gt oZ ws) (i + 1) ps.length) (i + 1)))) (ex_int (ex_add (ex_v rfl) (ex_mul (ep rfl rfl) (ew rfl rfl rfl) (cmul hpi hwi (by decide)))) rfl) (nxt (x_end ⟨rfl, rfl⟩))
    | unc =>
      refine x_if (b := false) (et_is (et_test (ex_kind (ex_v rfl))) (by decide)) (fun h => nomatch h) fun _ => ?_
      refine x_if (b := false) (et_is (et_test (ex_kind (ex_v rfl))) (by decide)) (fun h => nomatch h) fun _ => ?_
      have epw : ∀ {m : Nat}, m < ps.length → (powU .unc ws ps.length i)[m]? = some (rowG oZ (gt oZ ws) (i + 1) m) := fun {m} hm => by
        unfold powU
        rw [if_pos rfl, List.getElem?_map, List.getElem?_range hm]; rfl
      have hr := hrow (i + 1) (ps.length - (i + 1)) (by omega) (by omega)
      refine x_seq (x_set (a := .d (.int (smR oZ (fun i => gt oZ ps i * restS oZ .unc (gt oZ ws) (i + 1) ps.length) (i + 1)))) (ex_int (ex_add (ex_v rfl) (ex_mul (ep rfl rfl) (ex_atl (e := PyData.int) (xs := powU .unc ws ps.length i) (n := ps.length - (i + 1)) (ex_v rfl) (ex_sub (ex_v rfl) (ex_v rfl)) .d (by omega) (epw (by omega))) (cmul hpi hr (by decide)))) rfl) ?_)
      refine nxt (x_set (a := .d (eL PyData.int (powU .unc ws ps.length (i + 1)))) (ex_is (ex_frz (en_lcR1P (n := (ps.length : Int)) (fun _ => true) (fun m => .int (rowG oZ (gt oZ ws) (i + 2) m)) (ea_cons (ex_v rfl) ea_nil) (by omega) (by simp) (fun m _ hm => et_yes) (fun m o hm _ => ?_))) ?_) (nxt (x_end ⟨rfl, rfl⟩)))
      · have hm : m < ps.length := by omega
        refine ex_int (ex_sum (ns := (List.range (m + 1)).map fun a => rowG oZ (gt oZ ws) (i + 1) a * gt oZ ws (m - a)) (ex_is (ex_frz (en_lcR1P (n := (m : Int) + 1) (fun _ => true) (fun a => .int (rowG oZ (gt oZ ws) (i + 1) a * gt oZ ws (m - a))) (ea_cons (ex_add (ex_v rfl) ex_cI) ea_nil) (by omega) (by simp) (fun a _ ha => et_yes) (fun a _ ha _ => ?_))) ?_) .d) ?_
        · have ha : a < m + 1 := by omega
          exact ex_mul (ex_atl (e := PyData.int) (xs := powU .unc ws ps.length i) (n := a) (ex_v rfl) (ex_v rfl) .d rfl (epw (by omega))) (ex_atl (e := PyData.int) (xs := ws) (n := m - a) (ex_v rfl) (ex_sub (ex_v rfl) (ex_v rfl)) .d (by omega) (zt_at (by omega))) (cmul (hrow (i + 1) a (by omega) (by omega)) (hww (m - a) (by omega)) (by decide))
        · rw [filter_yes, List.map_map]
          have : ((m : Int) + 1).toNat = m + 1 := by omega
          rw [this]; rfl
        · rw [sum_sm]; rfl
      · rw [filter_yes, Int.toNat_natCast]
        unfold powU
        rw [if_pos rfl]
        unfold eL
        rw [List.map_map]; rfl
  · rintro ε' L' ⟨rfl, rfl⟩
    have e : ((ps.length : Int) + 1 - 1).toNat = ps.length := by omega
    rw [e]
    exact nxt (x_retD q (wv_of (ex_v rfl) rfl))
end K82

/-! ## B15 -/
set_option Elab.async false
set_option linter.all false
set_option maxRecDepth 100000
set_option maxHeartbeats 4000000
set_option autoImplicit false
namespace K82
open PySem L2 Fz K80 Means
variable {P : Program} {w : World} {K : PySem.W.Frag} {mg : Str → Option Value} {base : Heap} {f : Addr} {fd : FuncData}
theorem ok_fr {n : Nat} (q : Rat) : okS (n + 1) (frQ q) := ⟨Nat.le_of_ble_eq_true rfl, fun x hx => by
  have hx : x ∈ [PyData.int q.num, PyData.int (q.den : Int)] := hx
  simp only [List.mem_cons, List.not_mem_nil, or_false] at hx
  rcases hx with rfl | rfl <;> cases n <;> trivial⟩
theorem ok_row {n : Nat} {l : List Rat} (h : l.length ≤ 90000) : okS (n + 2) (eT frQ l) := ⟨by rw [List.length_map]; exact h, fun x hx => by
  obtain ⟨q, _, rfl⟩ := List.mem_map.mp hx
  exact ok_fr q⟩
section
variable {B : Bg} {ε : Eps} {L La Lb Lc : Own} {te ta tb tc : TE} {E : XK} {d : PyData}
theorem ex_same (h : EX B ta ε L (.d d) La) (h2 : EX B tb ε La (.d d) Lb) (hd : okS 3 d) : EX B (tCall (S_law_same B.K) [] E (tCons ta (tCons tb tNil))) ε L (.d (.bool true)) Lb :=
  ex_of (e := PyData.bool) fun κ k => w_callD (wa_x h (wa_x h2 (wa_nil ⟨d, rfl, hd, fun x hx => hx ▸ k⟩)))
theorem ex_means {k : Means.Kind} {l : List Rat} (h : EX B ta ε L (.d (eK k)) La) (h2 : EX B tb ε La (.d (eT frQ l)) Lb) (hl : RowL l) : EX B (tCall (S_means_of_parts B.K) [] E (tCons ta (tCons tb tNil))) ε L (.d (eT frQ (meansL k l))) Lb :=
  ex_of (e := eT frQ) fun κ kk => w_callD (wa_x h (wa_x h2 (wa_nil ⟨(k, l), rfl, hl, fun x hx => hx ▸ kk⟩)))
theorem ex_parts {k : Means.Kind} {l : List Rat} (h : EX B ta ε L (.d (eK k)) La) (h2 : EX B tb ε La (.d (eT frQ l)) Lb) (hl : RowL l) : EX B (tCall (S_parts_of_means B.K) [] E (tCons ta (tCons tb tNil))) ε L (.d (eT frQ (partsL k l))) Lb :=
  ex_of (e := eT frQ) fun κ kk => w_callD (wa_x h (wa_x h2 (wa_nil ⟨(k, l), rfl, hl, fun x hx => hx ▸ kk⟩)))
end
def nums (l : List Rat) : List Int := l.map fun q => q.num
theorem cast_nums {l : List Rat} (h : ∀ q ∈ l, q.den = 1) : (nums l).map (fun i : Int => (i : Rat)) = l := by
  unfold nums
  rw [List.map_map]
  refine (List.map_congr_left fun q hq => ?_).trans (List.map_id l)
  have := Rat.num_divInt_den q
  show ((q.num : Int) : Rat) = q
  rw [h q hq, Rat.divInt_eq_div] at this
  grind
theorem gt_cast {l : List Rat} (h : ∀ q ∈ l, q.den = 1) (i : Nat) : ((gt oZ (nums l) i : Int) : Rat) = gt oQ l i := by
  have := hom_gt hom_cast (nums l) i
  rw [cast_nums h] at this
  exact this
theorem wl_cast {l : List Rat} (h : ∀ q ∈ l, q.den = 1) (k : Means.Kind) (n : Nat) : (wl oZ k (gt oZ (nums l)) n).map (fun i : Int => (i : Rat)) = wl oQ k (gt oQ l) n := by
  rw [hom_wl hom_cast]
  congr 1
  funext i
  exact gt_cast h i
theorem wz_cast {l : List Rat} (h : ∀ q ∈ l, q.den = 1) (k : Means.Kind) (n i : Nat) : ((gt oZ (wl oZ k (gt oZ (nums l)) n) i : Int) : Rat) = gt oQ (wl oQ k (gt oQ l) n) i := by
  rw [← wl_cast h k n]
  exact hom_gt hom_cast _ i
theorem int_bd {z : Int} (h : Sz (z : Rat)) : Bd 100000 z := by
  have := h.1
  rw [Rat.num_intCast] at this
  exact this
theorem step_ok {k : Means.Kind} {l : List Rat} (hl : RowL l) (h : ∀ q ∈ l, q.den = 1) {j : Nat} (hj : j < l.length) : StepOk (k, (nums l).take (j + 1), wl oZ k (gt oZ (nums l)) j) := by
  obtain ⟨L, T, X, he, hp⟩ := env_of hl.len hl.all
  have hn : (nums l).length = l.length := by unfold nums; rw [List.length_map]
  have hl8 := hl.len
  have wok := wl_ok he hl.len hp k (i := j) (by omega)
  have wz : (fun i : Nat => ((gt oZ (wl oZ k (gt oZ (nums l)) j) i : Int) : Rat)) = gt oQ (wl oQ k (gt oQ l) j) := funext fun i => wz_cast h k j i
  refine ⟨by show ((nums l).take (j + 1)).length ≤ 8; rw [List.length_take]; omega, by show ((nums l).take (j + 1)).length ≤ (wl oZ k _ j).length; rw [List.length_take, wl_len]; omega, fun i hi => ?_, fun i hi => ?_, fun t i ht hi => ?_⟩
  · dsimp only
    by_cases c : i < j + 1
    · have e : gt oZ ((nums l).take (j + 1)) i = gt oZ (nums l) i := by
        unfold gt
        rw [List.getD_eq_getElem?_getD, List.getD_eq_getElem?_getD, List.getElem?_take_of_lt c]
      rw [e]
      refine int_bd ?_
      rw [gt_cast h]
      exact (up_gz he hp i).sz he (by omega) (Nat.le_trans (pow_le8 he.x1 (by omega)) (Nat.le_mul_of_pos_left _ (by decide)))
    · have e : gt oZ ((nums l).take (j + 1)) i = 0 := by
        unfold gt
        rw [List.getD_eq_getElem?_getD, List.getElem?_eq_none (by rw [List.length_take]; omega)]; rfl
      rw [e]
      exact bd_zero _
  · dsimp only
    refine int_bd ?_
    rw [wz_cast h]
    exact (wok i hi).sz he (by omega) (Nat.le_trans (pow_le8 he.x1 (by omega)) (Nat.le_mul_of_pos_left _ (by decide)))
  · dsimp only
    refine int_bd ?_
    have := hom_row hom_cast (gt oZ (wl oZ k (gt oZ (nums l)) j)) t i
    rw [wz] at this
    rw [this]
    exact (row_gz wok t i hi).sz he (by omega) (big_le (Nat.le_trans (pow9 ht) (by decide)) (pow_le8 he.x1 (by omega)))
structure KeptOk (y : Means.Kind × List Rat) : Prop where
  row : RowL y.2
  ints1 : ∀ q ∈ y.2, q.den = 1
abbrev S_law_are_steps_kept (K : PySem.W.Frag) : Sp := spD K (fun y : Means.Kind × List Rat => [eK y.1, eT frQ y.2]) KeptOk PyData.bool (fun y x => x = true)
theorem meansL_len (k : Means.Kind) (l : List Rat) : (meansL k l).length = l.length := by
  unfold meansL
  rw [List.length_drop, wl_len]; omega
theorem meansL_at {k : Means.Kind} {l : List Rat} {j : Nat} (hj : j < l.length) : (meansL k l)[j]? = some (gt oQ (wl oQ k (gt oQ l) l.length) (j + 1)) := by
  unfold meansL
  rw [List.getElem?_drop, Nat.add_comm 1 j]
  exact gt_at oQ (by rw [wl_len]; omega)
theorem okd_law_are_steps_kept (Fn : Fun K "_law_are_steps_kept" "_law_are_steps_kept" s_law_are_steps_kept f fd) (T : Bt P mg base) (D_means_of_parts : Df P w K mg base 48 "means_of_parts" ["kind", "parts"] (S_means_of_parts K)) (D_law_step : Df P w K mg base 42 "_law_step" ["kind", "parts", "means"] (S_law_step K)) (D_law_same : Df P w K mg base 44 "_law_same" ["told", "due"] (S_law_same K)) : FnOk P w K mg base CX0 49 f fd ["kind", "parts"] (S_law_are_steps_kept K) := by
  refine fn_D Fn sc_law_are_steps_kept (by decide) (fun _ => rfl) fun cdv A outer s H E hr => ⟨_, (pss_cons (ps_set (i := 2) sc_law_are_steps_kept.nd rfl (.inl rfl) (pe_callD D_means_of_parts (hr.mono (by decide)) (by rfl) (pa_cons (pv 0) (pa_cons (pv 1) pa_nil))))
      (pss_cons (ps_if (PW.pt (pw_or (pt_not (pt_val (pe_callB (r := rIsi K) call_isi (by rfl) T.n_isinstance (by decide +kernel) (pa_cons (pv 2) (pa_cons (pe_bltn (v := .ty "tuple") (u := .type "tuple") rfl T.n_tuple (by decide +kernel) rfl) pa_nil))))) (pw_or1 (pt_cmpR op_ne (pe_callB (r := Evl.rLenS K) call_len_seq (by rfl) T.n_len (by decide +kernel) (pa_cons (pv 2) pa_nil)) (pe_callB (r := Evl.rLenS K) call_len_seq (by rfl) T.n_len (by decide +kernel) (pa_cons (pv 1) pa_nil)) (nomark _))))) (pss_one (ps_ret pe_bl)) pss_nil)
      (pss_cons (ps_par (i := 3) (j := 4) (by rfl) sc_law_are_steps_kept.nd rfl rfl (by decide) rfl rfl (pa_cons (pe_lst (pa_cons pe_int pa_nil)) (pa_cons (pe_lc (g := gTup K 2 (gCons (gName 7) (gCons (gName 8) gNil))) (own := [("above", 7), ("below", 8)]) rfl sc_law_are_steps_kept.nd (pi_tup (pv 1)) (blkOk_by (own := [("above", 7), ("below", 8)]) (N := ["kind", "parts", "told", "means", "numbers", "j", "due", "above", "below"]) (sc := defScope s_law_are_steps_kept) (by decide +kernel)) (fun _ _ _ _ _ => (pg_tup rfl (pgs_cons (pg_name (i := 7) sc_law_are_steps_kept.nd rfl (Or.inl rfl)) (pgs_cons (pg_name (i := 8) sc_law_are_steps_kept.nd rfl (Or.inl rfl)) pgs_nil)))) (fun _ _ _ _ _ => pts_nil) (fun _ _ _ _ _ => (pv 7))) pa_nil)) (by rfl))
      (pss_cons (ps_for PassesOwn.never rfl (pi_range2 (by rfl) T.n_range (pa_cons pe_int (pa_cons (pe_op op_add (pe_callB (r := Evl.rLenS K) call_len_seq (by rfl) T.n_len (by decide +kernel) (pa_cons (pv 1) pa_nil)) pe_int) pa_nil))) (pg_name (i := 5) sc_law_are_steps_kept.nd rfl (Or.inl rfl)) (pss_cons (ps_set (i := 6) sc_law_are_steps_kept.nd rfl (.inl rfl) (pe_callD D_law_step (hr.mono (by decide)) (by rfl) (pa_cons (pv 0) (pa_cons (pe_slice (r := rSlL K) sl_list (pv 4) po_none (po_some (pv 5))) (pa_cons (pv 3) pa_nil)))))
      (pss_cons (ps_if (pt_not (pt_val (pe_callD D_law_same (hr.mono (by decide)) (by rfl) (pa_cons (pe_ix (r := rIxT K) ix_tup (pv 2) (pe_op op_sub (pv 5) pe_int) (fun _ _ => rfl)) (pa_cons (pe_tup (pa_cons (pv 6) (pa_cons pe_int pa_nil))) pa_nil))))) (pss_one (ps_ret pe_bl)) pss_nil)
      (pss_one (ps_expr (pe_bm PySem.F.plainAttrs_list PySem.F.slot_list_append PySem.F.type_list_append mt_append (pv 3) (pa_cons (pv 6) pa_nil)))))))
      (pss_one (ps_ret pe_bl)))))), ?_⟩
  rintro B Q ⟨k, l⟩ rfl ⟨hl, h1⟩ q
  dsimp only at hl h1 q
  have hl8 := hl.len
  have hn : (nums l).length = l.length := by unfold nums; rw [List.length_map]
  show Ho B _ [kv k, dv (eT frQ l), none, none, none, none, none, none, none] []
  refine x_seq (x_set (a := .d (eT frQ (meansL k l))) (ex_means (ex_v rfl) (ex_v rfl) hl) ?_)
  refine x_sq (x_skip (et_orF (et_noT (ex_boolE (ex_isTup (ex_v rfl)) rfl)) (et_is (et_test (ex_neI (ex_len (e := frQ) (xs := meansL k l) (ex_v rfl)) (ex_len (e := frQ) (xs := l) (ex_v rfl)))) (by rw [meansL_len, decide_eq_true rfl]; rfl))) ?_)
  refine nxt (x_seq (x_parW (wa_cons (wx_r (wr_of (en_lst (ds := [.int 1]) (ea_cons ex_cI ea_nil) (Nat.le_of_ble_eq_true rfl)) fun p hp => wa_x (a := .d (eL PyData.int (nums l))) (ex_is (ex_frz (en_lcTP (xs := l.map frQ) (fun _ => true) fst2 (fun x => [kv k, dv (eT frQ l), dv (eT frQ (meansL k l)), none, none, none, none, dv (fst2 x), dv (snd2 x)]) (ex_v rfl) (by rw [List.length_map]; omega) (gw_tup2 (by simp) (by simp)) (fun d hd => ?_) (fun d hd m => et_yes) (fun d hd _ m => ?_))) ?_) (wa_nil ⟨_, _, rfl, ?_⟩))))))
  · obtain ⟨z, hz, rfl⟩ := List.mem_map.mp hd
    exact gt_tup2
  · obtain ⟨z, hz, rfl⟩ := List.mem_map.mp hd
    exact ex_v rfl
  · rw [filter_yes, List.map_map]
    unfold nums eL
    rw [List.map_map]; rfl
  refine nxt (x_seq (x_forR2 (lo := 1) (n := (l.length : Int) + 1) (ea_cons ex_cI (ea_cons (ex_add (ex_len (e := frQ) (xs := l) (ex_v rfl)) ex_cI) ea_nil)) (by omega) (fun i ε L => ε = [kv k, dv (eT frQ l), dv (eT frQ (meansL k l)), lref p, lv (nums l), none, none, none, none] ∧ L = [.lst p ((wl oZ k (gt oZ (nums l)) i).map PyData.int)]) ⟨rfl, rfl⟩ ?_ ?_))
  · rintro j ε' L' hj ⟨rfl, rfl⟩
    have hj : j < l.length := by omega
    have hps : ((nums l).take (j + 1)).length = j + 1 := by rw [List.length_take]; omega
    refine x_seq (x_setV (w_callDL (wa_x (ex_v rfl) (wa_x (ex_frz (en_take (e := PyData.int) (xs := nums l) (ex_v rfl) (ex_v rfl) .d (by omega))) (wa_x (a := .v (.ref p)) (ex_v rfl) (wa_nil ⟨(k, (nums l).take (j + 1), wl oZ k (gt oZ (nums l)) j), p, (wl oZ k (gt oZ (nums l)) j).map PyData.int, 0, .z, (fun K F vs hd ha => ?_), step_ok hl h1 hj, fun x hx => ⟨rfl, ?_⟩⟩))))) (fun _ => .s (.s (.s (.s (.s (.s (.z))))))))
    · have e : ((1 : Int) + (j : Int)).toNat = j + 1 := by omega
      rw [e] at ha
      match vs, ha with
      | [a, b, c], ha => exact .cons ha.1 (.cons ha.2.1 (.cons (by rw [show c = V.ref p from ha.2.2.1]; exact hd) .nil))
    · have hx2 : x = nextN oZ k (gt oZ (nums l)) (gt oZ (wl oZ k (gt oZ (nums l)) j)) (j + 1) (j + 1) := by
        have hx : x = nextN oZ k (gt oZ ((nums l).take (j + 1))) (gt oZ (wl oZ k (gt oZ (nums l)) j)) ((nums l).take (j + 1)).length ((nums l).take (j + 1)).length := hx
        rw [hx, hps]
        refine next_congr oZ k (fun i hi => ?_) (fun _ _ => rfl) (Nat.le_refl _)
        unfold gt
        rw [List.getD_eq_getElem?_getD, List.getD_eq_getElem?_getD, List.getElem?_take_of_lt hi]
      have hwl : wl oZ k (gt oZ (nums l)) (j + 1) = wl oZ k (gt oZ (nums l)) j ++ [x] := by rw [hx2]; rfl
      have hxz : x = gt oZ (wl oZ k (gt oZ (nums l)) (j + 1)) (j + 1) := by
        rw [hwl]
        have := gt_new oZ (l := wl oZ k (gt oZ (nums l)) j) (x := x)
        rw [wl_len] at this
        exact this.symm
      have hxq : frQ (gt oQ (wl oQ k (gt oQ l) l.length) (j + 1)) = .tuple [.int x, .int 1] := by
        rw [wl_old oQ k (gt oQ l) (n := j + 1) (Nat.le_refl _) (by omega), ← wz_cast h1, ← hxz, frQ_int]
      refine nxt (x_seq (x_skip (et_noT (ex_same (d := .tuple [.int x, .int 1]) (ex_is (ex_at (e := frQ) (xs := meansL k l) (n := j) (ex_v rfl) (ex_sub (ex_v rfl) ex_cI) (by omega) (meansL_at hj)) (congrArg AD.d hxq)) (ex_tup (ds := [.int x, .int 1]) (ea_cons (ex_v rfl) (ea_cons ex_cI ea_nil)) (Nat.le_of_ble_eq_true rfl)) (hxq ▸ ok_fr _))) ?_))
      refine nxt (x_appW (e := PyData.int) (ex_v rfl) ⟨_, _, .z⟩ (wv_of (x := x) (ex_v rfl) ⟨_, _, .z, by rw [List.length_map, wl_len]; omega, nxt (x_end ⟨rfl, ?_⟩)⟩))
      rw [hwl, List.map_append]; rfl
  · rintro ε' L' ⟨rfl, rfl⟩
    exact nxt (x_retD q (wv_of (x := true) ex_cB rfl))
end K82

/-! ## FzZ7 -/
set_option Elab.async false
set_option linter.all false
set_option maxRecDepth 100000
set_option maxHeartbeats 2000000
set_option autoImplicit false
/-! FzZ7: a slice whose end is drawn. -/
namespace Fz
open PySem L2
section
variable {B : Bg} {ε : Eps} {L La Lb : Own} {te ti : TE} {α : Type} {e : α → PyData} {xs : List α} {κ : List α → Own → Prop}
theorem w_takeW (h : EX B te ε L (.d (eT e xs)) La) (h1 : WV B PyData.int ti ε La fun i L1 => 0 ≤ i ∧ κ (xs.take i.toNat) L1) : WV B (eT e) (tSl (rSlA B.K) te tNoPart (tPart ti)) ε L κ := fun F σ H rp Q q =>
  h F σ H rp _ fun v F1 H1 s1 r1 o1 => h1 F1 σ H1 r1 _ fun i L2 w F2 H2 ⟨hi, k⟩ s2 r2 o2 => by
    refine ⟨i, by cases o2; rfl, ?_⟩
    have o1 : Dq B.K F1 v (.tuple (xs.map e)) := o1
    obtain ⟨p, vs, rfl, g1, g2⟩ := tup_inv (dp_sub s2 o1)
    have ec : cutD (xs.map e) none (some i) = (xs.take i.toNat).map e := cut_to e xs hi
    refine ⟨p, vs, rfl, tq_sub r2.sub g1, fun c => ?_, fun _ p' hp => ?_⟩
    · refine q _ _ _ F2 H2 k (s1.tr s2) r2 (.tup g1 ?_)
      have e := cut_dp (lo := none) (hi := some i) g2
      have e2 : cutV vs none (some i) = vs := by
        unfold cutV
        rw [c.1, c.2, List.drop_zero, Nat.sub_zero, List.take_length]
      rw [e2, ec] at e
      exact e
    · have hF := sub_none r2.sub hp
      exact q _ _ _ _ _ k ((s1.tr s2).tr (sub_fresh hF)) (r2.grow hp) (.tup upd_same (dpa_sub (sub_fresh hF) (ec ▸ cut_dp g2)))
end
theorem kwX2 {F : Hp} {zs : List V} {x y : PyData} {K : PySem.W.Frag} (h2 : AdAll K F [.d x, .d y] zs) : DqAll K F (kwG 2 [0, 1] [] zs) [x, y] := by
  match zs, h2 with
  | [a, b], h => exact .cons h.1 (.cons h.2.1 .nil)
theorem kwX1 {F : Hp} {zs : List V} {x : PyData} {K : PySem.W.Frag} (h2 : AdAll K F [.d x] zs) : DqAll K F (kwG 1 [0] [] zs) [x] := by
  match zs, h2 with
  | [a], h => exact .cons h.1 .nil
end Fz

/-! ## WY2 -/
/-! WY2: means and parts undo one another. Plain mathematics. -/
set_option autoImplicit false
set_option linter.all false
namespace Means
def meansR (k : Kind) (ps : List Rat) : List Rat := (wl oQ k (gt oQ ps) ps.length).drop 1
def partsR (k : Kind) (ms : List Rat) : List Rat := fl oQ k (gt oQ (((1 : Int) : Rat) :: ms)) ms.length
def xoR (own : List Rat) (s : Nat) : Rat := gt oQ own (s - 1)
def turnR (k : Kind) (b : Bool) (own : List Rat) : List Rat := (List.range own.length).map fun i => evP (xoR own) (numsAt k b (i + 1))
theorem meansR_len (k : Kind) (l : List Rat) : (meansR k l).length = l.length := by
  unfold meansR
  rw [List.length_drop, wl_len]; omega
theorem partsR_len (k : Kind) (l : List Rat) : (partsR k l).length = l.length := fl_len oQ k _ _
theorem turnR_len (k : Kind) (b : Bool) (l : List Rat) : (turnR k b l).length = l.length := by unfold turnR; rw [List.length_map, List.length_range]
theorem gt_drop (l : List Rat) (i : Nat) : gt oQ (l.drop 1) i = gt oQ l (i + 1) := by
  unfold gt
  rw [List.getD_eq_getElem?_getD, List.getD_eq_getElem?_getD, List.getElem?_drop, Nat.add_comm]
theorem gt_ext {l m : List Rat} (hl : l.length = m.length) (h : ∀ i, i < l.length → gt oQ l i = gt oQ m i) : l = m := by
  refine List.ext_getElem? fun i => ?_
  by_cases c : i < l.length
  · rw [gt_at oQ c, gt_at oQ (hl ▸ c), h i c]
  · rw [List.getElem?_eq_none (by omega), List.getElem?_eq_none (by omega)]
theorem gt_turn {k : Kind} {b : Bool} {l : List Rat} {i : Nat} (h : i < l.length) : gt oQ (turnR k b l) i = evP (xoR l) (numsAt k b (i + 1)) := by
  unfold turnR gt
  rw [List.getD_eq_getElem?_getD, List.getElem?_map, List.getElem?_range h]; rfl
theorem means_turn (k : Kind) {l : List Rat} (h : l.length ≤ 8) : meansR k l = turnR k false l := by
  refine gt_ext (by rw [meansR_len, turnR_len]) fun i hi => ?_
  rw [meansR_len] at hi
  rw [gt_turn hi]
  unfold meansR
  rw [gt_drop, ← wl_old oQ k (gt oQ l) (i := i + 1) (n := l.length) (m := 8) (by omega) h]
  exact means_table k (gt oQ l) (by omega)
theorem parts_turn (k : Kind) {l : List Rat} (h : l.length ≤ 8) : partsR k l = turnR k true l := by
  refine gt_ext (by rw [partsR_len, turnR_len]) fun i hi => ?_
  rw [partsR_len] at hi
  rw [gt_turn hi]
  unfold partsR
  rw [← fl_old oQ k _ (i := i) (n := l.length) (m := 8) hi h, parts_table k _ rfl (by omega)]
  refine evP_congr fun t ht a ha => ?_
  have := (numsAt_good (by omega) ht).low a ha
  obtain ⟨c, rfl⟩ : ∃ c, a = c + 1 := ⟨a - 1, by omega⟩
  rfl
theorem rest_one (k : Kind) {w : Nat → Rat} (h0 : w 0 = 1) {m : Nat} (hm : 1 ≤ m) (h8 : m ≤ 8) : restS oQ k w m m = 1 := by
  cases k with
  | all =>
    show ((bc (m - 1) (m - 1) : Nat) : Int) * w (m - m) = (1 : Rat)
    have key : ∀ n : Fin 9, bc n.val n.val = 1 := by decide
    rw [key ⟨m - 1, by omega⟩, Nat.sub_self, h0]
    show ((1 : Int) : Rat) * 1 = 1
    grind
  | rows => show w (m - m) = 1; rw [Nat.sub_self, h0]
  | unc =>
    show rowG oQ w m (m - m) = 1
    rw [Nat.sub_self]
    clear hm h8
    induction m with
    | zero => rfl
    | succ m ih =>
      show ((0 : Int) : Rat) + rowG oQ w m 0 * w 0 = 1
      rw [ih, h0]; grind
theorem next_last (k : Kind) {p w : Nat → Rat} (h0 : w 0 = 1) {i : Nat} (h8 : i < 8) : nextN oQ k p w (i + 1) (i + 1) = nextN oQ k p w i (i + 1) + p i := by
  show smR oQ _ i + p i * restS oQ k w (i + 1) (i + 1) = _
  rw [rest_one k h0 (by omega) (by omega)]
  show _ = smR oQ _ i + p i
  grind
theorem wl_zero (k : Kind) (p : Nat → Rat) (n : Nat) : gt oQ (wl oQ k p n) 0 = 1 := by rw [wl_old oQ k p (n := 0) (Nat.le_refl _) (Nat.zero_le _)]; rfl
theorem undo1 (k : Kind) {l : List Rat} (h : l.length ≤ 8) : partsR k (meansR k l) = l := by
  have hw : ((1 : Int) : Rat) :: meansR k l = wl oQ k (gt oQ l) l.length := by
    have h1 : (wl oQ k (gt oQ l) l.length)[0]? = some 1 := by rw [gt_at oQ (by rw [wl_len]; omega), wl_zero]
    unfold meansR
    match hh : wl oQ k (gt oQ l) l.length with
    | [] => rw [hh] at h1; cases h1
    | a :: r => rw [hh] at h1; cases h1; rfl
  refine gt_ext (by rw [partsR_len, meansR_len]) fun i hi => ?_
  rw [partsR_len, meansR_len] at hi
  unfold partsR
  rw [meansR_len, hw]
  induction i using Nat.strongRecOn with
  | _ i ih =>
    rw [fl_at oQ k _ hi, wl_at oQ k (gt oQ l) hi, next_last k (wl_zero k _ _) (by omega)]
    rw [next_congr oQ k (p := gt oQ (fl oQ k (gt oQ (wl oQ k (gt oQ l) l.length)) l.length)) (q := gt oQ l) (w := gt oQ (wl oQ k (gt oQ l) l.length)) (v := gt oQ (wl oQ k (gt oQ l) l.length)) (cnt := i) (many := i + 1) (fun a ha => ih a ha (by omega)) (fun _ _ => rfl) (by omega)]
    show _ + _ - _ = _
    grind
theorem undo2 (k : Kind) {l : List Rat} (h : l.length ≤ 8) : meansR k (partsR k l) = l := by
  refine gt_ext (by rw [meansR_len, partsR_len]) fun i hi => ?_
  rw [meansR_len, partsR_len] at hi
  unfold meansR
  rw [gt_drop, partsR_len]
  have key : ∀ j, j ≤ l.length → gt oQ (wl oQ k (gt oQ (partsR k l)) l.length) j = gt oQ (((1 : Int) : Rat) :: l) j := fun j => by
    induction j using Nat.strongRecOn with
    | _ j ih =>
      intro hj
      cases j with
      | zero => rw [wl_zero]; rfl
      | succ j =>
        rw [wl_at oQ k _ hj]
        rw [next_congr oQ k (p := gt oQ (partsR k l)) (q := gt oQ (partsR k l)) (w := gt oQ (wl oQ k (gt oQ (partsR k l)) l.length)) (v := gt oQ (((1 : Int) : Rat) :: l)) (cnt := j + 1) (many := j + 1) (fun _ _ => rfl) (fun a ha => ih a ha (by omega)) (Nat.le_refl _)]
        rw [next_last k rfl (by omega)]
        have : gt oQ (partsR k l) j = gt oQ (((1 : Int) : Rat) :: l) (j + 1) - nextN oQ k (gt oQ (partsR k l)) (gt oQ (((1 : Int) : Rat) :: l)) j (j + 1) := fl_at oQ k _ hj
        rw [this]
        grind
  rw [key (i + 1) (by omega)]; rfl
/-- one way or the other -/
def goR (k : Kind) (b : Bool) (l : List Rat) : List Rat := if b then partsR k l else meansR k l
theorem go_turn (k : Kind) (b : Bool) {l : List Rat} (h : l.length ≤ 8) : goR k b l = turnR k b l := by
  cases b
  · exact means_turn k h
  · exact parts_turn k h
theorem go_undo (k : Kind) (b : Bool) {l : List Rat} (h : l.length ≤ 8) : goR k (!b) (goR k b l) = l := by
  cases b
  · exact undo1 k h
  · exact undo2 k h
theorem turn_take (k : Kind) (b : Bool) {l : List Rat} (h : l.length ≤ 8) (n : Nat) : turnR k b (l.take n) = (turnR k b l).take n := by
  refine gt_ext (by rw [turnR_len, List.length_take, List.length_take, turnR_len]) fun i hi => ?_
  rw [turnR_len] at hi
  rw [gt_turn hi]
  rw [List.length_take] at hi
  have e : gt oQ ((turnR k b l).take n) i = gt oQ (turnR k b l) i := by
    unfold gt
    rw [List.getD_eq_getElem?_getD, List.getD_eq_getElem?_getD, List.getElem?_take_of_lt (by omega)]
  rw [e, gt_turn (by omega)]
  refine evP_congr fun t ht a ha => ?_
  have h1 := (numsAt_good (by omega) ht).low a ha
  have h2 := (numsAt_good (by omega) ht).top a ha
  unfold xoR gt
  rw [List.getD_eq_getElem?_getD, List.getD_eq_getElem?_getD, List.getElem?_take_of_lt (by omega)]
end Means

/-! ## B16 -/
set_option Elab.async false
set_option linter.all false
set_option maxRecDepth 100000
set_option maxHeartbeats 4000000
set_option autoImplicit false
namespace K82
open PySem L2 Fz K80 Means
variable {P : Program} {w : World} {K : PySem.W.Frag} {mg : Str → Option Value} {base : Heap} {f : Addr} {fd : FuncData}
theorem go_due (k : Means.Kind) (b : Bool) {l : List Rat} (h : l.length ≤ 8) : (if b then partsL k l else meansL k l) = turned k b l := go_turn k b h
theorem turned_len (k : Means.Kind) (b : Bool) (l : List Rat) : (turned k b l).length = l.length := turnR_len k b l
theorem turned_take (k : Means.Kind) (b : Bool) {l : List Rat} (h : l.length ≤ 8) (n : Nat) : turned k b (l.take n) = (turned k b l).take n := turn_take k b h n
theorem parts_due (k : Means.Kind) {l : List Rat} (h : l.length ≤ 8) : partsL k l = turned k true l := parts_turn k h
theorem means_due (k : Means.Kind) {l : List Rat} (h : l.length ≤ 8) : meansL k l = turned k false l := means_turn k h
theorem undo_m (k : Means.Kind) {l : List Rat} (h : l.length ≤ 8) : meansL k (turned k true l) = l := by rw [← parts_due k h]; exact undo2 k h
theorem undo_p (k : Means.Kind) {l : List Rat} (h : l.length ≤ 8) : partsL k (turned k false l) = l := by rw [← means_due k h]; exact undo1 k h
theorem let_row {l : List Rat} (hl : l.length ≤ 8) (h : l.all letQ = true) : RowL l := ⟨hl, fun q hq => by
  have := List.all_eq_true.mp h q hq
  unfold letQ at this
  rw [Bool.and_eq_true] at this
  have h1 := of_decide_eq_true this.1
  have h2 := of_decide_eq_true this.2
  exact ⟨by omega, by omega⟩⟩
theorem RowL.take {l : List Rat} (h : RowL l) (n : Nat) : RowL (l.take n) := ⟨by rw [List.length_take]; have := h.len; omega, fun q hq => h.all q (List.mem_of_mem_take hq)⟩
section
variable {B : Bg} {ε : Eps} {L La Lb Lc : Own} {te ta tb tc : TE} {E : XK}
theorem ex_let {l : List Rat} (h : EX B te ε L (.d (eT frQ l)) La) (hl : l.length ≤ 8) : EX B (tCall (S_law_is_let B.K) [] E (tCons te tNil)) ε L (.d (.bool (l.all letQ))) La :=
  ex_of (e := PyData.bool) fun κ k => w_callD (wa_x h (wa_nil ⟨l, rfl, by show l.length ≤ 1000; omega, fun x hx => hx ▸ k⟩))
theorem ex_meansK {k : Means.Kind} {l : List Rat} (h : EX B ta ε L (.d (eK k)) La) (h2 : EX B tb ε La (.d (eT frQ l)) Lb) (hl : RowL l) : EX B (tCallK (S_means_of_parts B.K) (kwG 2 [0, 1]) E tNil (tCons ta (tCons tb tNil))) ε L (.d (eT frQ (meansL k l))) Lb :=
  ex_of (e := eT frQ) fun κ kk => w_callKD (wa_x h (wa_x h2 (wa_nil ⟨(k, l), (fun K F zs hz => kwX2 hz), hl, fun x hx => hx ▸ kk⟩)))
theorem ex_partsK {k : Means.Kind} {l : List Rat} (h : EX B ta ε L (.d (eK k)) La) (h2 : EX B tb ε La (.d (eT frQ l)) Lb) (hl : RowL l) : EX B (tCallK (S_parts_of_means B.K) (kwG 2 [0, 1]) E tNil (tCons ta (tCons tb tNil))) ε L (.d (eT frQ (partsL k l))) Lb :=
  ex_of (e := eT frQ) fun κ kk => w_callKD (wa_x h (wa_x h2 (wa_nil ⟨(k, l), (fun K F zs hz => kwX2 hz), hl, fun x hx => hx ▸ kk⟩)))
end
abbrev S_law_is_turned (K : PySem.W.Frag) : Sp := spG K (fun y : Means.Kind × Bool × List Rat × Bool => [eK y.1, .bool y.2.1, eT frQ y.2.2.1, eT frQ (turned y.1 y.2.1 y.2.2.1), .bool y.2.2.2]) (fun y => RowL y.2.2.1) PyData.bool (fun _ x => x = true)
theorem okd_law_is_turned (Fn : Fun K "_law_is_turned" "_law_is_turned" s_law_is_turned f fd) (T : Bt P mg base) (D_law_is_let : Df P w K mg base 41 "_law_is_let" ["row"] (S_law_is_let K)) (D_law_same : Df P w K mg base 44 "_law_same" ["told", "due"] (S_law_same K)) (D_parts_of_means : Df P w K mg base 48 "parts_of_means" ["kind", "means"] (S_parts_of_means K)) (D_means_of_parts : Df P w K mg base 48 "means_of_parts" ["kind", "parts"] (S_means_of_parts K)) (D_law_draw : Df P w K mg base 41 "_law_draw" ["bag", "below"] (S_law_draw K)) (DK_parts_of_means_kind_means : DfK P w K mg base 48 "parts_of_means" ["kind", "means"] ["kind", "means"] (kwG 2 [0, 1]) (kwG 2 [0, 1]) (S_parts_of_means K)) (DK_means_of_parts_kind_parts : DfK P w K mg base 48 "means_of_parts" ["kind", "parts"] ["kind", "parts"] (kwG 2 [0, 1]) (kwG 2 [0, 1]) (S_means_of_parts K)) : FnOk P w K mg base CX0 49 f fd ["bag", "kind", "is_back", "own", "due", "is_named"] (S_law_is_turned K) := by
  refine fn_G Fn sc_law_is_turned (by decide) (fun _ => rfl) fun cdv A outer s H E hr => ⟨_, (pss_cons (ps_if (pt_val (pv 2)) (pss_one (ps_set (i := 7) sc_law_is_turned.nd rfl (.inl rfl) (pe_ifExp (pt_val (pv 5)) (pe_callKD DK_parts_of_means_kind_means (hr.mono (by decide)) (by rfl) (pk_cons (pv 1) (pk_cons (pv 3) pk_nil))) (pe_callD D_parts_of_means (hr.mono (by decide)) (by rfl) (pa_cons (pv 1) (pa_cons (pv 3) pa_nil)))))) (pss_one (ps_set (i := 7) sc_law_is_turned.nd rfl (.inl rfl) (pe_ifExp (pt_val (pv 5)) (pe_callKD DK_means_of_parts_kind_parts (hr.mono (by decide)) (by rfl) (pk_cons (pv 1) (pk_cons (pv 3) pk_nil))) (pe_callD D_means_of_parts (hr.mono (by decide)) (by rfl) (pa_cons (pv 1) (pa_cons (pv 3) pa_nil)))))))
      (pss_cons (ps_if (pt_not (pt_val (pe_callD D_law_same (hr.mono (by decide)) (by rfl) (pa_cons (pv 7) (pa_cons (pv 4) pa_nil))))) (pss_one (ps_ret pe_bl)) pss_nil)
      (pss_cons (ps_if (pt_val (pe_callD D_law_is_let (hr.mono (by decide)) (by rfl) (pa_cons (pv 4) pa_nil))) (pss_cons (ps_set (i := 8) sc_law_is_turned.nd rfl (.inl rfl) (pe_ifExp (pt_val (pv 2)) (pe_callD D_means_of_parts (hr.mono (by decide)) (by rfl) (pa_cons (pv 1) (pa_cons (pv 4) pa_nil))) (pe_callD D_parts_of_means (hr.mono (by decide)) (by rfl) (pa_cons (pv 1) (pa_cons (pv 4) pa_nil)))))
      (pss_one (ps_if (pt_not (pt_val (pe_callD D_law_same (hr.mono (by decide)) (by rfl) (pa_cons (pv 8) (pa_cons (pv 3) pa_nil))))) (pss_one (ps_ret pe_bl)) pss_nil))) pss_nil)
      (pss_cons (ps_set (i := 6) sc_law_is_turned.nd rfl (.inl rfl) (pe_slice (r := rSlA K) sl_tupA (pv 3) po_none (po_some (pe_callD D_law_draw (hr.mono (by decide)) (by rfl) (pa_cons (pv 0) (pa_cons (pe_op op_add (pe_callB (r := Evl.rLenS K) call_len_seq (by rfl) T.n_len (by decide +kernel) (pa_cons (pv 3) pa_nil)) pe_int) pa_nil))))))
      (pss_cons (ps_set (i := 7) sc_law_is_turned.nd rfl (.inl rfl) (pe_ifExp (pt_val (pv 2)) (pe_callD D_parts_of_means (hr.mono (by decide)) (by rfl) (pa_cons (pv 1) (pa_cons (pv 6) pa_nil))) (pe_callD D_means_of_parts (hr.mono (by decide)) (by rfl) (pa_cons (pv 1) (pa_cons (pv 6) pa_nil)))))
      (pss_one (ps_ret (pe_callD D_law_same (hr.mono (by decide)) (by rfl) (pa_cons (pv 7) (pa_cons (pe_slice (r := rSlA K) sl_tupA (pv 4) po_none (po_some (pe_callB (r := Evl.rLenS K) call_len_seq (by rfl) T.n_len (by decide +kernel) (pa_cons (pv 6) pa_nil)))) pa_nil)))))))))), ?_⟩
  rintro B Q pb pc b ⟨k, back, own, named⟩ rfl hrow q
  dsimp only at hrow q
  have hl8 := hrow.len
  have hdl := turned_len k back own
  show Ho B _ [bagv pb, kv k, bv back, dv (eT frQ own), dv (eT frQ (turned k back own)), bv named, none, none, none] [b.at pb pc]
  cases back
  · have hdue := means_due k hl8
    refine x_seq (x_if (b := false) (et_test (ex_v rfl)) (fun h => nomatch h) fun h => ?_)
    refine x_set (a := .d (eT frQ (turned k false own))) (ex_if (et_test (ex_v rfl)) (fun _ => ex_is (ex_meansK (ex_v rfl) (ex_v rfl) hrow) (by rw [hdue])) (fun _ => ex_is (ex_means (ex_v rfl) (ex_v rfl) hrow) (by rw [hdue]))) ?_
    refine nxt (x_seq (x_skip (et_noT (ex_same (ex_v rfl) (ex_v rfl) (ok_row (by omega)))) ?_))
    refine nxt (x_seq (x_if (b := (turned k false own).all letQ) (et_test (ex_let (ex_v rfl) (by omega))) (fun hlet => ?_) fun _ => ?_))
    · refine x_seq (x_set (a := .d (eT frQ own)) (ex_if (L2 := _) (b := false) (et_test (ex_v rfl)) (fun h => nomatch h) (fun h => (ex_is (ex_parts (ex_v rfl) (ex_v rfl) (let_row (by omega) hlet)) (by rw [undo_p k hl8])))) ?_)
      refine nxt (x_skip (et_noT (ex_same (ex_v rfl) (ex_v rfl) (ok_row (by omega)))) ?_)
      refine x_seq (x_setV (w_takeW (e := frQ) (xs := own) (ex_v rfl) (w_drw (pb := pb) (pc := pc) rfl (ex_add (ex_len (e := frQ) (xs := own) (ex_v rfl)) ex_cI) (fun b' => .z) (by omega) fun x b1 x0 x1 => ⟨x0, ?_⟩)) (fun _ => .s (.s (.s (.s (.s (.s (.z))))))))
      have htl : (own.take x.toNat).length = x.toNat := by rw [List.length_take]; omega
      refine nxt (x_seq (x_set (a := .d (eT frQ ((turned k false own).take x.toNat))) (ex_if (L2 := _) (b := false) (et_test (ex_v rfl)) (fun h => nomatch h) (fun h => (ex_is (ex_means (ex_v rfl) (ex_v rfl) (hrow.take _)) (by rw [means_due k (by rw [List.length_take]; omega), turned_take k false hl8])))) ?_))
      exact nxt (x_retG q (wv_of (x := true) (ex_same (d := eT frQ ((turned k false own).take x.toNat)) (ex_v rfl) (ex_is (ex_take (e := frQ) (xs := turned k false own) (ex_v rfl) (ex_len (e := frQ) (xs := own.take x.toNat) (ex_v rfl)) (by omega)) (by rw [htl, Int.toNat_natCast])) (ok_row (by rw [List.length_take]; omega))) ⟨rfl, b1, List.mem_cons_self⟩))
    · refine x_next (nxt ?_)
      refine x_seq (x_setV (w_takeW (e := frQ) (xs := own) (ex_v rfl) (w_drw (pb := pb) (pc := pc) rfl (ex_add (ex_len (e := frQ) (xs := own) (ex_v rfl)) ex_cI) (fun b' => .z) (by omega) fun x b1 x0 x1 => ⟨x0, ?_⟩)) (fun _ => .s (.s (.s (.s (.s (.s (.z))))))))
      have htl : (own.take x.toNat).length = x.toNat := by rw [List.length_take]; omega
      refine nxt (x_seq (x_set (a := .d (eT frQ ((turned k false own).take x.toNat))) (ex_if (L2 := _) (b := false) (et_test (ex_v rfl)) (fun h => nomatch h) (fun h => (ex_is (ex_means (ex_v rfl) (ex_v rfl) (hrow.take _)) (by rw [means_due k (by rw [List.length_take]; omega), turned_take k false hl8])))) ?_))
      exact nxt (x_retG q (wv_of (x := true) (ex_same (d := eT frQ ((turned k false own).take x.toNat)) (ex_v rfl) (ex_is (ex_take (e := frQ) (xs := turned k false own) (ex_v rfl) (ex_len (e := frQ) (xs := own.take x.toNat) (ex_v rfl)) (by omega)) (by rw [htl, Int.toNat_natCast])) (ok_row (by rw [List.length_take]; omega))) ⟨rfl, b1, List.mem_cons_self⟩))
  · have hdue := parts_due k hl8
    refine x_seq (x_if (b := true) (et_test (ex_v rfl)) (fun h => ?_) fun h => nomatch h)
    refine x_set (a := .d (eT frQ (turned k true own))) (ex_if (et_test (ex_v rfl)) (fun _ => ex_is (ex_partsK (ex_v rfl) (ex_v rfl) hrow) (by rw [hdue])) (fun _ => ex_is (ex_parts (ex_v rfl) (ex_v rfl) hrow) (by rw [hdue]))) ?_
    refine nxt (x_seq (x_skip (et_noT (ex_same (ex_v rfl) (ex_v rfl) (ok_row (by omega)))) ?_))
    refine nxt (x_seq (x_if (b := (turned k true own).all letQ) (et_test (ex_let (ex_v rfl) (by omega))) (fun hlet => ?_) fun _ => ?_))
    · refine x_seq (x_set (a := .d (eT frQ own)) (ex_if (L2 := _) (b := true) (et_test (ex_v rfl)) (fun h => (ex_is (ex_means (ex_v rfl) (ex_v rfl) (let_row (by omega) hlet)) (by rw [undo_m k hl8]))) (fun h => nomatch h)) ?_)
      refine nxt (x_skip (et_noT (ex_same (ex_v rfl) (ex_v rfl) (ok_row (by omega)))) ?_)
      refine x_seq (x_setV (w_takeW (e := frQ) (xs := own) (ex_v rfl) (w_drw (pb := pb) (pc := pc) rfl (ex_add (ex_len (e := frQ) (xs := own) (ex_v rfl)) ex_cI) (fun b' => .z) (by omega) fun x b1 x0 x1 => ⟨x0, ?_⟩)) (fun _ => .s (.s (.s (.s (.s (.s (.z))))))))
      have htl : (own.take x.toNat).length = x.toNat := by rw [List.length_take]; omega
      refine nxt (x_seq (x_set (a := .d (eT frQ ((turned k true own).take x.toNat))) (ex_if (L2 := _) (b := true) (et_test (ex_v rfl)) (fun h => (ex_is (ex_parts (ex_v rfl) (ex_v rfl) (hrow.take _)) (by rw [parts_due k (by rw [List.length_take]; omega), turned_take k true hl8]))) (fun h => nomatch h)) ?_))
      exact nxt (x_retG q (wv_of (x := true) (ex_same (d := eT frQ ((turned k true own).take x.toNat)) (ex_v rfl) (ex_is (ex_take (e := frQ) (xs := turned k true own) (ex_v rfl) (ex_len (e := frQ) (xs := own.take x.toNat) (ex_v rfl)) (by omega)) (by rw [htl, Int.toNat_natCast])) (ok_row (by rw [List.length_take]; omega))) ⟨rfl, b1, List.mem_cons_self⟩))
    · refine x_next (nxt ?_)
      refine x_seq (x_setV (w_takeW (e := frQ) (xs := own) (ex_v rfl) (w_drw (pb := pb) (pc := pc) rfl (ex_add (ex_len (e := frQ) (xs := own) (ex_v rfl)) ex_cI) (fun b' => .z) (by omega) fun x b1 x0 x1 => ⟨x0, ?_⟩)) (fun _ => .s (.s (.s (.s (.s (.s (.z))))))))
      have htl : (own.take x.toNat).length = x.toNat := by rw [List.length_take]; omega
      refine nxt (x_seq (x_set (a := .d (eT frQ ((turned k true own).take x.toNat))) (ex_if (L2 := _) (b := true) (et_test (ex_v rfl)) (fun h => (ex_is (ex_parts (ex_v rfl) (ex_v rfl) (hrow.take _)) (by rw [parts_due k (by rw [List.length_take]; omega), turned_take k true hl8]))) (fun h => nomatch h)) ?_))
      exact nxt (x_retG q (wv_of (x := true) (ex_same (d := eT frQ ((turned k true own).take x.toNat)) (ex_v rfl) (ex_is (ex_take (e := frQ) (xs := turned k true own) (ex_v rfl) (ex_len (e := frQ) (xs := own.take x.toNat) (ex_v rfl)) (by omega)) (by rw [htl, Int.toNat_natCast])) (ok_row (by rw [List.length_take]; omega))) ⟨rfl, b1, List.mem_cons_self⟩))
end K82

/-! ## FzZ8 -/
set_option Elab.async false
set_option linter.all false
set_option maxRecDepth 100000
set_option maxHeartbeats 2000000
set_option autoImplicit false
/-! FzZ8: data that can be shown, dicts too; dicts written out, as data. -/
namespace Fz
open PySem L2 K80
structure Gd (k m : Nat) (d : PyData) : Prop where
  sh : d.showable = true
  dp : d.depth ≤ k
  lf : d.leavesShort 700 = true
  bk : d.bulk ≤ m
structure GdL (k m : Nat) (ds : List PyData) : Prop where
  sh : PyData.showableAll ds = true
  dp : PyData.depthAll ds ≤ k
  lf : PyData.leavesShortAll 700 ds = true
  bk : PyData.bulkAll ds ≤ m
theorem Nice.gd {k m : Nat} {d : PyData} (h : Nice k m d) : Gd k m d := ⟨h.sh, h.dp, h.lf, h.bk⟩
theorem gdl_nil {k m : Nat} : GdL k m [] := ⟨rfl, Nat.zero_le _, rfl, Nat.zero_le _⟩
theorem gdl_cons {k m n : Nat} {d : PyData} {ds : List PyData} (h : Gd k m d) (h2 : GdL k n ds) : GdL k (m + 1 + n) (d :: ds) := by
  refine ⟨?_, ?_, ?_, ?_⟩
  · show (d.showable && PyData.showableAll ds) = true
    rw [h.sh, h2.sh]; rfl
  · show max d.depth (PyData.depthAll ds) ≤ k
    exact Nat.max_le.mpr ⟨h.dp, h2.dp⟩
  · show (d.leavesShort 700 && PyData.leavesShortAll 700 ds) = true
    rw [h.lf, h2.lf]; rfl
  · show d.bulk + 1 + PyData.bulkAll ds ≤ m + 1 + n
    have := h.bk; have := h2.bk; omega
theorem Gd.mono {k k' m m' : Nat} {d : PyData} (h : Gd k m d) (hk : k ≤ k') (hm : m ≤ m') : Gd k' m' d := ⟨h.sh, Nat.le_trans h.dp hk, h.lf, Nat.le_trans h.bk hm⟩
theorem GdL.mono {k k' m m' : Nat} {ds : List PyData} (h : GdL k m ds) (hk : k ≤ k') (hm : m ≤ m') : GdL k' m' ds := ⟨h.sh, Nat.le_trans h.dp hk, h.lf, Nat.le_trans h.bk hm⟩
theorem gdl_app {k n : Nat} {es : List PyData} (h2 : GdL k n es) : ∀ {ds : List PyData} {m : Nat}, GdL k m ds → GdL k (m + n) (ds ++ es)
  | [], m, h => h2.mono (Nat.le_refl _) (by omega)
  | d :: ds, m, h => by
    have a1 : (d.showable && PyData.showableAll ds) = true := h.sh
    have a2 : max d.depth (PyData.depthAll ds) ≤ k := h.dp
    have a3 : (d.leavesShort 700 && PyData.leavesShortAll 700 ds) = true := h.lf
    have a4 : d.bulk + 1 + PyData.bulkAll ds ≤ m := h.bk
    rw [Bool.and_eq_true] at a1 a3
    have h1 : GdL k (PyData.bulkAll ds) ds := ⟨a1.2, Nat.le_trans (Nat.le_max_right _ _) a2, a3.2, Nat.le_refl _⟩
    exact (gdl_cons (m := d.bulk) ⟨a1.1, Nat.le_trans (Nat.le_max_left _ _) a2, a3.1, Nat.le_refl _⟩ (gdl_app h2 h1)).mono (Nat.le_refl _) (by omega)
theorem gdl_one {k m : Nat} {d : PyData} (h : Gd k m d) : GdL k (m + 1) [d] := gdl_cons (n := 0) h gdl_nil
theorem gdl_all {k m : Nat} : ∀ {ds : List PyData}, (∀ d ∈ ds, Gd k m d) → GdL k (ds.length * (m + 1)) ds
  | [], _ => gdl_nil
  | d :: ds, h => by
    have := gdl_cons (h d List.mem_cons_self) (gdl_all fun x hx => h x (List.mem_cons_of_mem _ hx))
    rw [List.length_cons, Nat.succ_mul, Nat.add_comm]
    exact this
theorem gd_tup {k m : Nat} {ds : List PyData} (h : GdL k m ds) : Gd (k + 1) m (.tuple ds) := ⟨h.sh, Nat.succ_le_succ h.dp, h.lf, h.bk⟩
theorem gd_lst {k m : Nat} {ds : List PyData} (h : GdL k m ds) : Gd (k + 1) m (.list ds) := ⟨h.sh, Nat.succ_le_succ h.dp, h.lf, h.bk⟩
theorem gd_int {i : Int} {k m : Nat} (h : Bd 1920 i) : Gd k m (.int i) := (nice_int h).gd
theorem gd_bool {b : Bool} {k m : Nat} : Gd k m (.bool b) := (nice_bool b).gd
theorem gd_none {k m : Nat} : Gd k m .none := nice_none.gd
theorem gd_str {s : Str} {k m : Nat} (h : (PyData.str s).leavesShort 700 = true := by decide +kernel) (h3 : (PyData.str s).bulk ≤ m := by decide +kernel) : Gd k m (.str s) := ⟨rfl, Nat.zero_le _, h, h3⟩
theorem gd_text {z : String} {k m : Nat} (h : z.toList.length ≤ m) : Gd k m (.str (Str.ofString z)) := by
  refine gd_str ?_ ?_
  · show (Str.ofString z).cps.toList.all (fun c => decide (c < 16 ^ 8)) = true
    refine List.all_eq_true.mpr fun c hc => decide_eq_true ?_
    rw [Str.ofString_eq_toList] at hc
    obtain ⟨x, _, rfl⟩ := List.mem_map.mp (show c ∈ z.toList.map Char.toNat from hc)
    have h1 : x.toNat < 0x110000 := by
      have := x.valid
      rcases this with h | h
      · exact Nat.lt_trans h (by decide)
      · exact h.2
    exact Nat.lt_trans h1 (by decide)
  · show (Str.ofString z).cps.size ≤ m
    have h2 : (Str.ofString z).cps.size = z.toList.length := PyProof.Rows.ofString_length z
    omega
theorem gd_two {k m n : Nat} {a b : PyData} (h : Gd k m a) (h2 : Gd k n b) : Gd (k + 1) (m + n + 2) (.tuple [a, b]) := gd_tup ((gdl_cons h (gdl_one h2)).mono (Nat.le_refl _) (by omega))
theorem Gd.show {k m : Nat} {d : PyData} (h : Gd k m d) (hk : k ≤ 64) (hm : m ≤ 23000) : d.showable = true ∧ d.depth ≤ 64 ∧ d.shown.length ≤ sizeLine := by
  refine ⟨h.sh, Nat.le_trans h.dp hk, ?_⟩
  have := PyData.shown_le_bulk 700 (by decide) d h.lf
  have h2 := h.bk
  have : (700 + 2) * d.bulk ≤ 702 * 23000 := Nat.mul_le_mul_left _ (Nat.le_trans h2 hm)
  rw [sizeLine_eq]
  omega
section
variable {B : Bg} {ε : Eps} {L La Lb : Own} {ty tv : TE}
theorem ex_disp1 {s : Str} {i : Int} : EX B (tDisp [(tC (.str s), tC (.int i))]) ε L (.d (.dict [(.str s, .int i)])) L := fun F σ H r Q q p hp => by
  have hF := sub_none r.sub hp
  refine ⟨upd_same, [(.inr s, .int i)], rfl, Nat.le_of_ble_eq_true rfl, ?_⟩
  rw [upd_upd]
  exact q _ _ _ (sub_fresh hF) (r.grow hp) (.dic upd_same rfl)
theorem ex_frzR {te : TE} {o : HO} {d : PyData} (h : EXr B te ε L o La) (hd : ∀ F p, F p = some o → Dq B.K F (.ref p) d) : EX B te ε L (.d d) La := fun F σ H rp Q q =>
  h F σ H rp _ fun p F1 H1 s1 hp r1 => by
    have h1 : H1 p = some o := (r1.own _ List.mem_cons_self).1
    have e1 : fps (.raw p o :: La) = p :: fps La := rfl
    have of := r1.off p (by rw [e1]; exact List.mem_cons_self)
    have nd := r1.nd
    rw [e1] at nd
    have nd' := List.nodup_cons.mp nd
    have sF : Sub F1 (upd F1 p o) := sub_fresh of.1
    have h0p : B.H0 p = none := of.2.resolve_left hp
    refine q _ (upd F1 p o) H1 (s1.tr sF) ⟨fun a u e => ?_, fun m hm => (r1.own m (List.mem_cons_of_mem _ hm)).subF sF, fun x hx => ?_, nd'.2, fun k x e => ?_, r1.len, r1.f0.tr sF, r1.h0, fun a g1 g2 => ?_, fun x hx => ?_⟩ (hd _ _ upd_same)
    · by_cases z : a = p
      · subst z; rw [upd_same] at e; cases e; exact h1
      · rw [upd_ne z] at e; exact r1.sub a u e
    · have ne : x ≠ p := fun z => nd'.1 (z ▸ hx)
      have := r1.off x (by rw [e1]; exact List.mem_cons_of_mem _ hx)
      exact ⟨by rw [upd_ne ne]; exact this.1, this.2⟩
    · obtain ⟨s, q1, q2⟩ := r1.sl k x e
      exact ⟨s, q1, q2.sub sF⟩
    · have ne : a ≠ p := fun z => g2 (z ▸ h0p)
      rw [upd_ne ne]; exact r1.nc a g1 g2
    · have := r1.mm x hx
      rw [e1] at this
      rcases List.mem_cons.mp this with z | z
      · exact absurd (z ▸ hx) hp
      · exact z
theorem ex_dispT {k : List Int} {z : Int} (hk : ∀ p, EX B ty ε (.raw p (.dT []) :: L) (.d (tupD k)) (.raw p (.dT []) :: La)) (hv : ∀ p, EX B tv ε (.raw p (.dT []) :: La) (.d (.int z)) (.raw p (.dT []) :: Lb)) : EX B (tDispT ty tv) ε L (.d (.dict [(tupD k, .int z)])) Lb :=
  ex_frzR (exr_disp hk hv) fun F p e => .dit e (by
    show [(PyData.tuple ((k.map Sum.inl).map keyD), some (PyData.int z))] = [(tupD k, some (.int z))]
    rw [List.map_map]; rfl)
end
end Fz

/-! ## B17 -/
set_option Elab.async false
set_option linter.all false
set_option maxRecDepth 100000
set_option maxHeartbeats 4000000
set_option autoImplicit false
namespace K82
open PySem L2 Fz K80 Means
variable {P : Program} {w : World} {K : PySem.W.Frag} {mg : Str → Option Value} {base : Heap} {f : Addr} {fd : FuncData}
/-! ### odd things -/
abbrev Gv (d : PyData) : Prop := Gd 3 50 d
theorem bd_len {i : Int} (h : Bd 110 i) : (toString i).toList.length ≤ 36 := by
  have big : (2 : Nat) ^ 110 ≤ 10 ^ 34 := by decide +kernel
  have nat : ∀ m : Nat, m < 2 ^ 110 → (Str.ofString (toString (m : Int))).length ≤ 34 := fun m hm => by
    refine PyProof.Rows.toString_length_le (by omega) (by decide) ?_
    have : (m : Int) < ((10 ^ 34 : Nat) : Int) := by
      have := Nat.lt_of_lt_of_le hm big
      omega
    rw [Int.natCast_pow] at this
    exact this
  cases i with
  | ofNat m =>
    have := nat m h
    rw [PyProof.Rows.ofString_length] at this
    exact Nat.le_trans this (by decide)
  | negSucc m =>
    have h1 := nat (m + 1) h
    have e : toString (Int.negSucc m) = "-" ++ toString ((m + 1 : Nat) : Int) := rfl
    rw [PyProof.Rows.ofString_length] at h1
    rw [e, String.toList_append, List.length_append]
    have e2 : ("-" : String).toList.length = 1 := rfl
    omega
theorem gi {i : Int} {k m : Nat} (h : Bd 110 i) : Gd k m (.int i) := gd_int (h.mono (by decide))
theorem gs {i : Int} {k : Nat} (h : Bd 110 i) : Gd k 36 (.str (Str.ofString (toString i))) := gd_text (bd_len h)
theorem log_of {i : Int} (h : Bd 110 i) : i.natAbs.log2 < 1920 := by
  by_cases c : i.natAbs = 0
  · rw [c]; decide
  · exact (Nat.log2_lt c).mpr (Nat.lt_trans h (Nat.pow_lt_pow_right (by decide) (by decide)))
theorem g2 {a b : PyData} (h : Gd 2 40 a) (h2 : Gd 2 0 b) : Gv (.tuple [a, b]) := (gd_two h h2).mono (Nat.le_refl _) (by decide)
theorem g2' {a b : PyData} (h : Gd 2 0 a) (h2 : Gd 2 40 b) : Gv (.tuple [a, b]) := (gd_two h h2).mono (Nat.le_refl _) (by decide)
abbrev S_law_odd (K : PySem.W.Frag) : Sp := spG K (fun y : (Int × Int) × Int => [.tuple [.int y.1.1, .int y.1.2], .int y.2]) (fun y => Bd 110 y.1.1 ∧ Bd 110 y.1.2) eD (fun _ d => Gv d)
section
variable {B : Bg} {ε : Eps} {L La Lb : Own} {E : XK} {pb pc : Addr} {te : TE}
theorem all5 {P : PyData → Prop} {a b c d e : PyData} (ha : P a) (hb : P b) (hc : P c) (hd : P d) (he : P e) : ∀ x ∈ [a, b, c, d, e], P x := fun x hx => by
  simp only [List.mem_cons, List.not_mem_nil, or_false] at hx
  rcases hx with rfl | rfl | rfl | rfl | rfl <;> assumption
theorem w_one {κ : PyData → Own → Prop} {ds : List PyData} {i : Nat} {b : Bag} {L2 : Bag → Own} (hb : ε[i]? = some (some (.v (.ref pb)))) (hn : EX B te ε L (.d (.list ds)) La) (hup : ∀ b', Up La (b.at pb pc) (b'.at pb pc) (L2 b')) (h0 : ds ≠ []) (h1 : ds.length ≤ 1000) (k : ∀ x b', x ∈ ds → κ x (L2 b')) : WV B eD (tCall (S_pick B.K) [] E (tCons (tVar i) (tCons te tNil))) ε L κ :=
  w_pck (e := eD) (xs := ds) (pb := pb) (pc := pc) hb (ex_is hn (by show _ = AD.d (.list (ds.map eD)); rw [show ds.map eD = ds from List.map_id' ds])) hup h0 (by omega) k
end
theorem okd_law_odd (Fn : Fun K "_law_odd" "_law_odd" s_law_odd f fd) (T : Bt P mg base) (D_law_draw : Df P w K mg base 41 "_law_draw" ["bag", "below"] (S_law_draw K)) (D_law_pick : Df P w K mg base 42 "_law_pick" ["bag", "some"] (S_law_pick K)) : FnOk P w K mg base CX0 43 f fd ["bag", "item", "way"] (S_law_odd K) := by
  refine fn_G Fn sc_law_odd (by decide) (fun _ => rfl) fun cdv A outer s H E hr => ⟨_, (pss_cons (ps_asg (pv 1) (pg_tup rfl (pgs_cons (pg_name (i := 3) sc_law_odd.nd rfl (Or.inl rfl)) (pgs_cons (pg_name (i := 4) sc_law_odd.nd rfl (Or.inl rfl)) pgs_nil))))
      (pss_cons (ps_set (i := 5) sc_law_odd.nd rfl (.inl rfl) (pe_op op_add pe_int (pe_callD D_law_draw (hr.mono (by decide)) (by rfl) (pa_cons (pv 0) (pa_cons pe_int pa_nil)))))
      (pss_cons (ps_if (pt_cmpR op_eq (pv 2) pe_int (nomark _)) (pss_one (ps_ret (pe_tup (pa_cons (pe_op op_mulW (pv 3) (pv 5)) (pa_cons (pe_op op_mulW (pv 4) (pv 5)) pa_nil))))) pss_nil)
      (pss_cons (ps_if (pt_cmpR op_eq (pv 2) pe_int (nomark _)) (pss_one (ps_ret (pe_tup (pa_cons (pe_un un_neg (pv 3)) (pa_cons (pe_un un_neg (pv 4)) pa_nil))))) pss_nil)
      (pss_cons (ps_if (pt_cmpR op_eq (pv 2) pe_int (nomark _)) (pss_one (ps_ret (pe_tup (pa_cons (pv 3) (pa_cons pe_int pa_nil))))) pss_nil)
      (pss_cons (ps_if (pt_cmpR op_eq (pv 2) pe_int (nomark _)) (pss_one (ps_ret (pe_callD D_law_pick (hr.mono (by decide)) (by rfl) (pa_cons (pv 0) (pa_cons (pe_lst (pa_cons (pe_tup (pa_cons pe_bl (pa_cons pe_int pa_nil))) (pa_cons (pe_tup (pa_cons pe_bl (pa_cons pe_int pa_nil))) (pa_cons (pe_tup (pa_cons pe_int (pa_cons pe_bl pa_nil))) (pa_cons (pe_tup (pa_cons (pv 3) (pa_cons pe_bl pa_nil))) (pa_cons (pe_tup (pa_cons pe_bl (pa_cons pe_int pa_nil))) pa_nil)))))) pa_nil))))) pss_nil)
      (pss_cons (ps_if (pt_cmpR op_eq (pv 2) pe_int (nomark _)) (pss_one (ps_ret (pe_lst (pa_cons (pv 3) (pa_cons (pv 4) pa_nil))))) pss_nil)
      (pss_cons (ps_if (pt_cmpR op_eq (pv 2) pe_int (nomark _)) (pss_one (ps_ret (pe_callD D_law_pick (hr.mono (by decide)) (by rfl) (pa_cons (pv 0) (pa_cons (pe_lst (pa_cons (pe_tup (pa_cons (pv 3) (pa_cons (pv 4) (pa_cons pe_int pa_nil)))) (pa_cons (pe_tup (pa_cons (pv 3) pa_nil)) (pa_cons (pe_tup pa_nil) (pa_cons (pe_tup (pa_cons (pe_tup (pa_cons (pv 3) (pa_cons (pv 4) pa_nil))) pa_nil)) (pa_cons (pe_tup (pa_cons (pe_tup (pa_cons (pv 3) pa_nil)) (pa_cons (pv 4) pa_nil))) pa_nil)))))) pa_nil))))) pss_nil)
      (pss_cons (ps_if (pt_cmpR op_eq (pv 2) pe_int (nomark _)) (pss_cons (ps_set (i := 6) sc_law_odd.nd rfl (.inl rfl) (pe_lst (pa_cons pe_non (pa_cons (pv 3) (pa_cons (pe_callTy call_str_int (by rfl) T.n_str (by decide +kernel) (pa_cons (pv 3) pa_nil)) (pa_cons (pe_tup (pa_cons (pe_callTy call_str_int (by rfl) T.n_str (by decide +kernel) (pa_cons (pv 3) pa_nil)) (pa_cons (pv 4) pa_nil))) (pa_cons (pe_tup (pa_cons (pv 3) (pa_cons (pe_callTy call_str_int (by rfl) T.n_str (by decide +kernel) (pa_cons (pv 4) pa_nil)) pa_nil))) (pa_cons (pe_tup (pa_cons pe_non (pa_cons pe_int pa_nil))) (pa_cons (pe_tup (pa_cons (pv 3) (pa_cons pe_non pa_nil))) pa_nil)))))))))
      (pss_one (ps_ret (pe_callD D_law_pick (hr.mono (by decide)) (by rfl) (pa_cons (pv 0) (pa_cons (pv 6) pa_nil)))))) pss_nil)
      (pss_cons (ps_if (pt_cmpR op_eq (pv 2) pe_int (nomark _)) (pss_one (ps_ret (pe_callD D_law_pick (hr.mono (by decide)) (by rfl) (pa_cons (pv 0) (pa_cons (pe_lst (pa_cons (pe_tup (pa_cons (pe_op op_add (pe_op op_powW pe_int pe_int) pe_int) (pa_cons pe_int pa_nil))) (pa_cons (pe_tup (pa_cons (pe_op op_sub (pe_un un_neg (pe_op op_powW pe_int pe_int)) pe_int) (pa_cons pe_int pa_nil))) (pa_cons (pe_tup (pa_cons (pe_op op_powW (pe_op op_powW pe_int pe_int) pe_int) (pa_cons pe_int pa_nil))) (pa_cons (pe_tup (pa_cons (pe_op op_add (pe_op op_powW pe_int pe_int) pe_int) (pa_cons pe_int pa_nil))) pa_nil))))) pa_nil))))) pss_nil)
      (pss_cons (ps_if (pt_cmpR op_eq (pv 2) pe_int (nomark _)) (pss_one (ps_ret (pe_callD D_law_pick (hr.mono (by decide)) (by rfl) (pa_cons (pv 0) (pa_cons (pe_lst (pa_cons (pe_tup (pa_cons pe_int (pa_cons (pe_op op_add (pe_op op_powW pe_int pe_int) pe_int) pa_nil))) (pa_cons (pe_tup (pa_cons (pe_un un_neg pe_int) (pa_cons (pe_op op_add (pe_op op_powW pe_int pe_int) pe_int) pa_nil))) (pa_cons (pe_tup (pa_cons pe_int (pa_cons (pe_op op_powW pe_int pe_int) pa_nil))) (pa_cons (pe_tup (pa_cons pe_int (pa_cons (pe_op op_powW (pe_op op_powW pe_int pe_int) pe_int) pa_nil))) (pa_cons (pe_tup (pa_cons pe_int (pa_cons (pe_op op_powW pe_int pe_int) pa_nil))) pa_nil)))))) pa_nil))))) pss_nil)
      (pss_cons (ps_if (pt_cmpR op_eq (pv 2) pe_int (nomark _)) (pss_one (ps_ret (pe_callD D_law_pick (hr.mono (by decide)) (by rfl) (pa_cons (pv 0) (pa_cons (pe_lst (pa_cons (pe_tup (pa_cons (pe_op op_powW pe_int pe_int) (pa_cons pe_int pa_nil))) (pa_cons (pe_tup (pa_cons (pe_un un_neg (pe_op op_powW pe_int pe_int)) (pa_cons pe_int pa_nil))) (pa_cons (pe_tup (pa_cons pe_int (pa_cons (pe_op op_powW pe_int pe_int) pa_nil))) (pa_cons (pe_tup (pa_cons (pe_op op_sub (pe_op op_powW pe_int pe_int) pe_int) (pa_cons (pe_op op_powW pe_int pe_int) pa_nil))) (pa_cons (pe_tup (pa_cons pe_int (pa_cons pe_int pa_nil))) pa_nil)))))) pa_nil))))) pss_nil)
      (pss_one (ps_ret (pv 1))))))))))))))), ?_⟩
  rintro B Q pb pc b ⟨⟨a, c⟩, way⟩ rfl ⟨ha, hc⟩ q
  dsimp only at ha hc q
  show Ho B _ [bagv pb, dv (.tuple [.int a, .int c]), iv way, none, none, none, none] [b.at pb pc]
  refine x_seq (x_asg (ex_v rfl) gt_tup2 ?_)
  refine x_sq (x_setV (w_add (wv_of ex_cI (w_drw (pb := pb) (pc := pc) rfl ex_cI (fun b' => .z) (by decide) fun x b1 x0 x1 => ?_))) (fun _ => .s (.s (.s (.s (.s (.z)))))))
  have ht : Bd 4 (2 + x) := Bd.of (k := 4) (n := 11) (by omega) (by omega) (by decide)
  have p57 : ∀ {ε : Eps} {L : Own}, EX B (tOp (rI CPowW fun i j => .int (i ^ j.toNat)) (tOp (rI CPowW fun i j => .int (i ^ j.toNat)) (tC (.int 10)) (tC (.int 57))) (tC (.int 7))) ε L (.d (.int (((10 : Int) ^ 57) ^ 7))) L := ex_powW (ex_powW ex_cI ex_cI ⟨by decide, by decide +kernel⟩) ex_cI ⟨by decide, by decide +kernel⟩
  have p30 : ∀ {ε : Eps} {L : Own}, EX B (tOp (rI CPowW fun i j => .int (i ^ j.toNat)) (tC (.int 10)) (tC (.int 30))) ε L (.d (.int ((10 : Int) ^ 30))) L := ex_powW ex_cI ex_cI ⟨by decide, by decide +kernel⟩
  have p31 : ∀ {ε : Eps} {L : Own}, EX B (tOp (rI CPowW fun i j => .int (i ^ j.toNat)) (tC (.int 10)) (tC (.int 31))) ε L (.d (.int ((10 : Int) ^ 31))) L := ex_powW ex_cI ex_cI ⟨by decide, by decide +kernel⟩
  have con : ∀ {i : Int} {k m : Nat}, i.natAbs < 2 ^ 1920 → Gd k m (.int i) := fun h => gd_int h
  refine nxt (x_seq (x_if (et_test (ex_eqI (ex_v rfl) ex_cI)) (fun _ => ?_) fun _ => x_next (nxt ?_)))
  · exact x_retG q (wv_of (x := .tuple [.int (a * (2 + x)), .int (c * (2 + x))]) (ex_tup (ds := [.int (a * (2 + x)), .int (c * (2 + x))]) (ea_cons (ex_mul (ex_v rfl) (ex_v rfl) (cmul ha ht (by decide))) (ea_cons (ex_mul (ex_v rfl) (ex_v rfl) (cmul hc ht (by decide))) ea_nil)) (Nat.le_of_ble_eq_true rfl)) ⟨g2 (gd_int ((ha.mul ht).mono (by decide))) (gd_int ((hc.mul ht).mono (by decide))), b1, List.mem_cons_self⟩)
  refine x_seq (x_if (et_test (ex_eqI (ex_v rfl) ex_cI)) (fun _ => ?_) fun _ => x_next (nxt ?_))
  · exact x_retG q (wv_of (x := .tuple [.int (-a), .int (-c)]) (ex_tup (ds := [.int (-a), .int (-c)]) (ea_cons (ex_neg (ex_v rfl)) (ea_cons (ex_neg (ex_v rfl)) ea_nil)) (Nat.le_of_ble_eq_true rfl)) ⟨Gd.mono (k := 3) (m := 2) (gd_tup (gdl_cons (m := 0) (n := 1) (gi ha.neg) (gdl_cons (m := 0) (n := 0) (gi hc.neg) gdl_nil))) (by decide) (by decide), b1, List.mem_cons_self⟩)
  refine x_seq (x_if (et_test (ex_eqI (ex_v rfl) ex_cI)) (fun _ => ?_) fun _ => x_next (nxt ?_))
  · exact x_retG q (wv_of (x := .tuple [.int a, .int 0]) (ex_tup (ds := [.int a, .int 0]) (ea_cons (ex_v rfl) (ea_cons ex_cI ea_nil)) (Nat.le_of_ble_eq_true rfl)) ⟨Gd.mono (k := 3) (m := 2) (gd_tup (gdl_cons (m := 0) (n := 1) (gi ha) (gdl_cons (m := 0) (n := 0) (con (by decide +kernel)) gdl_nil))) (by decide) (by decide), b1, List.mem_cons_self⟩)
  refine x_seq (x_if (et_test (ex_eqI (ex_v rfl) ex_cI)) (fun _ => ?_) fun _ => x_next (nxt ?_))
  · exact x_retG q (w_one (pb := pb) (pc := pc) (ds := [.tuple [.bool true, .int 1], .tuple [.bool false, .int 1], .tuple [.int 1, .bool true], .tuple [.int a, .bool true], .tuple [.bool true, .int 2]]) rfl (ex_frz (en_lst (ds := [.tuple [.bool true, .int 1], .tuple [.bool false, .int 1], .tuple [.int 1, .bool true], .tuple [.int a, .bool true], .tuple [.bool true, .int 2]]) (ea_cons (ex_tup (ds := [.bool true, .int 1]) (ea_cons ex_cB (ea_cons ex_cI ea_nil)) (Nat.le_of_ble_eq_true rfl)) (ea_cons (ex_tup (ds := [.bool false, .int 1]) (ea_cons ex_cB (ea_cons ex_cI ea_nil)) (Nat.le_of_ble_eq_true rfl)) (ea_cons (ex_tup (ds := [.int 1, .bool true]) (ea_cons ex_cI (ea_cons ex_cB ea_nil)) (Nat.le_of_ble_eq_true rfl)) (ea_cons (ex_tup (ds := [.int a, .bool true]) (ea_cons (ex_v rfl) (ea_cons ex_cB ea_nil)) (Nat.le_of_ble_eq_true rfl)) (ea_cons (ex_tup (ds := [.bool true, .int 2]) (ea_cons ex_cB (ea_cons ex_cI ea_nil)) (Nat.le_of_ble_eq_true rfl)) ea_nil))))) (Nat.le_of_ble_eq_true rfl))) (fun b' => .z) (by simp) (Nat.le_of_ble_eq_true rfl) fun x b' hx => ⟨(show ∀ d ∈ [.tuple [.bool true, .int 1], .tuple [.bool false, .int 1], .tuple [.int 1, .bool true], .tuple [.int a, .bool true], .tuple [.bool true, .int 2]], Gv d from (List.forall_mem_cons.mpr ⟨(Gd.mono (k := 3) (m := 2) (gd_tup (gdl_cons (m := 0) (n := 1) gd_bool (gdl_cons (m := 0) (n := 0) (con (by decide +kernel)) gdl_nil))) (by decide) (by decide)), (List.forall_mem_cons.mpr ⟨(Gd.mono (k := 3) (m := 2) (gd_tup (gdl_cons (m := 0) (n := 1) gd_bool (gdl_cons (m := 0) (n := 0) (con (by decide +kernel)) gdl_nil))) (by decide) (by decide)), (List.forall_mem_cons.mpr ⟨(Gd.mono (k := 3) (m := 2) (gd_tup (gdl_cons (m := 0) (n := 1) (con (by decide +kernel)) (gdl_cons (m := 0) (n := 0) gd_bool gdl_nil))) (by decide) (by decide)), (List.forall_mem_cons.mpr ⟨(Gd.mono (k := 3) (m := 2) (gd_tup (gdl_cons (m := 0) (n := 1) (gi ha) (gdl_cons (m := 0) (n := 0) gd_bool gdl_nil))) (by decide) (by decide)), (List.forall_mem_cons.mpr ⟨(Gd.mono (k := 3) (m := 2) (gd_tup (gdl_cons (m := 0) (n := 1) gd_bool (gdl_cons (m := 0) (n := 0) (con (by decide +kernel)) gdl_nil))) (by decide) (by decide)), fun _ h => nomatch h⟩)⟩)⟩)⟩)⟩)) x hx, b', List.mem_cons_self⟩)
  refine x_seq (x_if (et_test (ex_eqI (ex_v rfl) ex_cI)) (fun _ => ?_) fun _ => x_next (nxt ?_))
  · exact x_retG q (wv_of (x := .list [.int a, .int c]) (ex_frz (en_lst (ds := [.int a, .int c]) (ea_cons (ex_v rfl) (ea_cons (ex_v rfl) ea_nil)) (Nat.le_of_ble_eq_true rfl))) ⟨Gd.mono (k := 3) (m := 2) (gd_lst (gdl_cons (m := 0) (n := 1) (gi ha) (gdl_cons (m := 0) (n := 0) (gi hc) gdl_nil))) (by decide) (by decide), b1, List.mem_cons_self⟩)
  refine x_seq (x_if (et_test (ex_eqI (ex_v rfl) ex_cI)) (fun _ => ?_) fun _ => x_next (nxt ?_))
  · exact x_retG q (w_one (pb := pb) (pc := pc) (ds := [.tuple [.int a, .int c, .int 1], .tuple [.int a], .tuple [], .tuple [.tuple [.int a, .int c]], .tuple [.tuple [.int a], .int c]]) rfl (ex_frz (en_lst (ds := [.tuple [.int a, .int c, .int 1], .tuple [.int a], .tuple [], .tuple [.tuple [.int a, .int c]], .tuple [.tuple [.int a], .int c]]) (ea_cons (ex_tup (ds := [.int a, .int c, .int 1]) (ea_cons (ex_v rfl) (ea_cons (ex_v rfl) (ea_cons ex_cI ea_nil))) (Nat.le_of_ble_eq_true rfl)) (ea_cons (ex_tup (ds := [.int a]) (ea_cons (ex_v rfl) ea_nil) (Nat.le_of_ble_eq_true rfl)) (ea_cons (ex_tup (ds := []) ea_nil (Nat.zero_le _)) (ea_cons (ex_tup (ds := [.tuple [.int a, .int c]]) (ea_cons (ex_tup (ds := [.int a, .int c]) (ea_cons (ex_v rfl) (ea_cons (ex_v rfl) ea_nil)) (Nat.le_of_ble_eq_true rfl)) ea_nil) (Nat.le_of_ble_eq_true rfl)) (ea_cons (ex_tup (ds := [.tuple [.int a], .int c]) (ea_cons (ex_tup (ds := [.int a]) (ea_cons (ex_v rfl) ea_nil) (Nat.le_of_ble_eq_true rfl)) (ea_cons (ex_v rfl) ea_nil)) (Nat.le_of_ble_eq_true rfl)) ea_nil))))) (Nat.le_of_ble_eq_true rfl))) (fun b' => .z) (by simp) (Nat.le_of_ble_eq_true rfl) fun x b' hx => ⟨(show ∀ d ∈ [.tuple [.int a, .int c, .int 1], .tuple [.int a], .tuple [], .tuple [.tuple [.int a, .int c]], .tuple [.tuple [.int a], .int c]], Gv d from (List.forall_mem_cons.mpr ⟨(Gd.mono (k := 3) (m := 3) (gd_tup (gdl_cons (m := 0) (n := 2) (gi ha) (gdl_cons (m := 0) (n := 1) (gi hc) (gdl_cons (m := 0) (n := 0) (con (by decide +kernel)) gdl_nil)))) (by decide) (by decide)), (List.forall_mem_cons.mpr ⟨(Gd.mono (k := 3) (m := 1) (gd_tup (gdl_cons (m := 0) (n := 0) (gi ha) gdl_nil)) (by decide) (by decide)), (List.forall_mem_cons.mpr ⟨(Gd.mono (k := 3) (m := 0) (gd_tup gdl_nil) (by decide) (by decide)), (List.forall_mem_cons.mpr ⟨(Gd.mono (k := 3) (m := 3) (gd_tup (gdl_cons (m := 2) (n := 0) (gd_tup (gdl_cons (m := 0) (n := 1) (gi ha) (gdl_cons (m := 0) (n := 0) (gi hc) gdl_nil))) gdl_nil)) (by decide) (by decide)), (List.forall_mem_cons.mpr ⟨(Gd.mono (k := 3) (m := 3) (gd_tup (gdl_cons (m := 1) (n := 1) (gd_tup (gdl_cons (m := 0) (n := 0) (gi ha) gdl_nil)) (gdl_cons (m := 0) (n := 0) (gi hc) gdl_nil))) (by decide) (by decide)), fun _ h => nomatch h⟩)⟩)⟩)⟩)⟩)) x hx, b', List.mem_cons_self⟩)
  refine x_seq (x_if (et_test (ex_eqI (ex_v rfl) ex_cI)) (fun _ => ?_) fun _ => x_next (nxt ?_))
  · refine x_seq (x_set (a := .d (.list [.none, .int a, .str (Str.ofString (toString a)), .tuple [.str (Str.ofString (toString a)), .int c], .tuple [.int a, .str (Str.ofString (toString c))], .tuple [.none, .int 1], .tuple [.int a, .none]])) (ex_frz (en_lst (ds := [.none, .int a, .str (Str.ofString (toString a)), .tuple [.str (Str.ofString (toString a)), .int c], .tuple [.int a, .str (Str.ofString (toString c))], .tuple [.none, .int 1], .tuple [.int a, .none]]) (ea_cons ex_cN (ea_cons (ex_v rfl) (ea_cons (ex_strS (ex_v rfl) (log_of ha)) (ea_cons (ex_tup (ds := [.str (Str.ofString (toString a)), .int c]) (ea_cons (ex_strS (ex_v rfl) (log_of ha)) (ea_cons (ex_v rfl) ea_nil)) (Nat.le_of_ble_eq_true rfl)) (ea_cons (ex_tup (ds := [.int a, .str (Str.ofString (toString c))]) (ea_cons (ex_v rfl) (ea_cons (ex_strS (ex_v rfl) (log_of hc)) ea_nil)) (Nat.le_of_ble_eq_true rfl)) (ea_cons (ex_tup (ds := [.none, .int 1]) (ea_cons ex_cN (ea_cons ex_cI ea_nil)) (Nat.le_of_ble_eq_true rfl)) (ea_cons (ex_tup (ds := [.int a, .none]) (ea_cons (ex_v rfl) (ea_cons ex_cN ea_nil)) (Nat.le_of_ble_eq_true rfl)) ea_nil))))))) (Nat.le_of_ble_eq_true rfl))) ?_)
    exact nxt (x_retG q (w_one (pb := pb) (pc := pc) (ds := [.none, .int a, .str (Str.ofString (toString a)), .tuple [.str (Str.ofString (toString a)), .int c], .tuple [.int a, .str (Str.ofString (toString c))], .tuple [.none, .int 1], .tuple [.int a, .none]]) rfl (ex_v rfl) (fun b' => .z) (by simp) (Nat.le_of_ble_eq_true rfl) fun x b' hx => ⟨(show ∀ d ∈ [.none, .int a, .str (Str.ofString (toString a)), .tuple [.str (Str.ofString (toString a)), .int c], .tuple [.int a, .str (Str.ofString (toString c))], .tuple [.none, .int 1], .tuple [.int a, .none]], Gv d from (List.forall_mem_cons.mpr ⟨(Gd.mono (k := 3) (m := 0) gd_none (by decide) (by decide)), (List.forall_mem_cons.mpr ⟨(Gd.mono (k := 3) (m := 0) (gi ha) (by decide) (by decide)), (List.forall_mem_cons.mpr ⟨(Gd.mono (k := 3) (m := 36) (gs ha) (by decide) (by decide)), (List.forall_mem_cons.mpr ⟨(Gd.mono (k := 3) (m := 38) (gd_tup (gdl_cons (m := 36) (n := 1) (gs ha) (gdl_cons (m := 0) (n := 0) (gi hc) gdl_nil))) (by decide) (by decide)), (List.forall_mem_cons.mpr ⟨(Gd.mono (k := 3) (m := 38) (gd_tup (gdl_cons (m := 0) (n := 37) (gi ha) (gdl_cons (m := 36) (n := 0) (gs hc) gdl_nil))) (by decide) (by decide)), (List.forall_mem_cons.mpr ⟨(Gd.mono (k := 3) (m := 2) (gd_tup (gdl_cons (m := 0) (n := 1) gd_none (gdl_cons (m := 0) (n := 0) (con (by decide +kernel)) gdl_nil))) (by decide) (by decide)), (List.forall_mem_cons.mpr ⟨(Gd.mono (k := 3) (m := 2) (gd_tup (gdl_cons (m := 0) (n := 1) (gi ha) (gdl_cons (m := 0) (n := 0) gd_none gdl_nil))) (by decide) (by decide)), fun _ h => nomatch h⟩)⟩)⟩)⟩)⟩)⟩)⟩)) x hx, b', List.mem_cons_self⟩))
  refine x_seq (x_if (et_test (ex_eqI (ex_v rfl) ex_cI)) (fun _ => ?_) fun _ => x_next (nxt ?_))
  · exact x_retG q (w_one (pb := pb) (pc := pc) (ds := [.tuple [.int (((10 : Int) ^ 30) + 1), .int 1], .tuple [.int (-((10 : Int) ^ 30) - 1), .int 1], .tuple [.int ((((10 : Int) ^ 57) ^ 7)), .int 1], .tuple [.int (((10 : Int) ^ 31) + 1), .int 2]]) rfl (ex_frz (en_lst (ds := [.tuple [.int (((10 : Int) ^ 30) + 1), .int 1], .tuple [.int (-((10 : Int) ^ 30) - 1), .int 1], .tuple [.int ((((10 : Int) ^ 57) ^ 7)), .int 1], .tuple [.int (((10 : Int) ^ 31) + 1), .int 2]]) (ea_cons (ex_tup (ds := [.int (((10 : Int) ^ 30) + 1), .int 1]) (ea_cons (ex_add p30 ex_cI) (ea_cons ex_cI ea_nil)) (Nat.le_of_ble_eq_true rfl)) (ea_cons (ex_tup (ds := [.int (-((10 : Int) ^ 30) - 1), .int 1]) (ea_cons (ex_sub (ex_neg p30) ex_cI) (ea_cons ex_cI ea_nil)) (Nat.le_of_ble_eq_true rfl)) (ea_cons (ex_tup (ds := [.int ((((10 : Int) ^ 57) ^ 7)), .int 1]) (ea_cons p57 (ea_cons ex_cI ea_nil)) (Nat.le_of_ble_eq_true rfl)) (ea_cons (ex_tup (ds := [.int (((10 : Int) ^ 31) + 1), .int 2]) (ea_cons (ex_add p31 ex_cI) (ea_cons ex_cI ea_nil)) (Nat.le_of_ble_eq_true rfl)) ea_nil)))) (Nat.le_of_ble_eq_true rfl))) (fun b' => .z) (by simp) (Nat.le_of_ble_eq_true rfl) fun x b' hx => ⟨(show ∀ d ∈ [.tuple [.int (((10 : Int) ^ 30) + 1), .int 1], .tuple [.int (-((10 : Int) ^ 30) - 1), .int 1], .tuple [.int ((((10 : Int) ^ 57) ^ 7)), .int 1], .tuple [.int (((10 : Int) ^ 31) + 1), .int 2]], Gv d from (List.forall_mem_cons.mpr ⟨(Gd.mono (k := 3) (m := 2) (gd_tup (gdl_cons (m := 0) (n := 1) (con (by decide +kernel)) (gdl_cons (m := 0) (n := 0) (con (by decide +kernel)) gdl_nil))) (by decide) (by decide)), (List.forall_mem_cons.mpr ⟨(Gd.mono (k := 3) (m := 2) (gd_tup (gdl_cons (m := 0) (n := 1) (con (by decide +kernel)) (gdl_cons (m := 0) (n := 0) (con (by decide +kernel)) gdl_nil))) (by decide) (by decide)), (List.forall_mem_cons.mpr ⟨(Gd.mono (k := 3) (m := 2) (gd_tup (gdl_cons (m := 0) (n := 1) (con (by decide +kernel)) (gdl_cons (m := 0) (n := 0) (con (by decide +kernel)) gdl_nil))) (by decide) (by decide)), (List.forall_mem_cons.mpr ⟨(Gd.mono (k := 3) (m := 2) (gd_tup (gdl_cons (m := 0) (n := 1) (con (by decide +kernel)) (gdl_cons (m := 0) (n := 0) (con (by decide +kernel)) gdl_nil))) (by decide) (by decide)), fun _ h => nomatch h⟩)⟩)⟩)⟩)) x hx, b', List.mem_cons_self⟩)
  refine x_seq (x_if (et_test (ex_eqI (ex_v rfl) ex_cI)) (fun _ => ?_) fun _ => x_next (nxt ?_))
  · exact x_retG q (w_one (pb := pb) (pc := pc) (ds := [.tuple [.int 1, .int (((10 : Int) ^ 30) + 1)], .tuple [.int (-1), .int (((10 : Int) ^ 30) + 1)], .tuple [.int 0, .int (((10 : Int) ^ 30))], .tuple [.int 3, .int ((((10 : Int) ^ 57) ^ 7))], .tuple [.int 7, .int (((10 : Int) ^ 31))]]) rfl (ex_frz (en_lst (ds := [.tuple [.int 1, .int (((10 : Int) ^ 30) + 1)], .tuple [.int (-1), .int (((10 : Int) ^ 30) + 1)], .tuple [.int 0, .int (((10 : Int) ^ 30))], .tuple [.int 3, .int ((((10 : Int) ^ 57) ^ 7))], .tuple [.int 7, .int (((10 : Int) ^ 31))]]) (ea_cons (ex_tup (ds := [.int 1, .int (((10 : Int) ^ 30) + 1)]) (ea_cons ex_cI (ea_cons (ex_add p30 ex_cI) ea_nil)) (Nat.le_of_ble_eq_true rfl)) (ea_cons (ex_tup (ds := [.int (-1), .int (((10 : Int) ^ 30) + 1)]) (ea_cons (ex_neg ex_cI) (ea_cons (ex_add p30 ex_cI) ea_nil)) (Nat.le_of_ble_eq_true rfl)) (ea_cons (ex_tup (ds := [.int 0, .int (((10 : Int) ^ 30))]) (ea_cons ex_cI (ea_cons p30 ea_nil)) (Nat.le_of_ble_eq_true rfl)) (ea_cons (ex_tup (ds := [.int 3, .int ((((10 : Int) ^ 57) ^ 7))]) (ea_cons ex_cI (ea_cons p57 ea_nil)) (Nat.le_of_ble_eq_true rfl)) (ea_cons (ex_tup (ds := [.int 7, .int (((10 : Int) ^ 31))]) (ea_cons ex_cI (ea_cons p31 ea_nil)) (Nat.le_of_ble_eq_true rfl)) ea_nil))))) (Nat.le_of_ble_eq_true rfl))) (fun b' => .z) (by simp) (Nat.le_of_ble_eq_true rfl) fun x b' hx => ⟨(show ∀ d ∈ [.tuple [.int 1, .int (((10 : Int) ^ 30) + 1)], .tuple [.int (-1), .int (((10 : Int) ^ 30) + 1)], .tuple [.int 0, .int (((10 : Int) ^ 30))], .tuple [.int 3, .int ((((10 : Int) ^ 57) ^ 7))], .tuple [.int 7, .int (((10 : Int) ^ 31))]], Gv d from (List.forall_mem_cons.mpr ⟨(Gd.mono (k := 3) (m := 2) (gd_tup (gdl_cons (m := 0) (n := 1) (con (by decide +kernel)) (gdl_cons (m := 0) (n := 0) (con (by decide +kernel)) gdl_nil))) (by decide) (by decide)), (List.forall_mem_cons.mpr ⟨(Gd.mono (k := 3) (m := 2) (gd_tup (gdl_cons (m := 0) (n := 1) (con (by decide +kernel)) (gdl_cons (m := 0) (n := 0) (con (by decide +kernel)) gdl_nil))) (by decide) (by decide)), (List.forall_mem_cons.mpr ⟨(Gd.mono (k := 3) (m := 2) (gd_tup (gdl_cons (m := 0) (n := 1) (con (by decide +kernel)) (gdl_cons (m := 0) (n := 0) (con (by decide +kernel)) gdl_nil))) (by decide) (by decide)), (List.forall_mem_cons.mpr ⟨(Gd.mono (k := 3) (m := 2) (gd_tup (gdl_cons (m := 0) (n := 1) (con (by decide +kernel)) (gdl_cons (m := 0) (n := 0) (con (by decide +kernel)) gdl_nil))) (by decide) (by decide)), (List.forall_mem_cons.mpr ⟨(Gd.mono (k := 3) (m := 2) (gd_tup (gdl_cons (m := 0) (n := 1) (con (by decide +kernel)) (gdl_cons (m := 0) (n := 0) (con (by decide +kernel)) gdl_nil))) (by decide) (by decide)), fun _ h => nomatch h⟩)⟩)⟩)⟩)⟩)) x hx, b', List.mem_cons_self⟩)
  refine x_seq (x_if (et_test (ex_eqI (ex_v rfl) ex_cI)) (fun _ => ?_) fun _ => x_next (nxt ?_))
  · exact x_retG q (w_one (pb := pb) (pc := pc) (ds := [.tuple [.int (((10 : Int) ^ 30)), .int 1], .tuple [.int (-((10 : Int) ^ 30)), .int 1], .tuple [.int 1, .int (((10 : Int) ^ 30))], .tuple [.int (((10 : Int) ^ 30) - 1), .int (((10 : Int) ^ 30))], .tuple [.int 0, .int 1]]) rfl (ex_frz (en_lst (ds := [.tuple [.int (((10 : Int) ^ 30)), .int 1], .tuple [.int (-((10 : Int) ^ 30)), .int 1], .tuple [.int 1, .int (((10 : Int) ^ 30))], .tuple [.int (((10 : Int) ^ 30) - 1), .int (((10 : Int) ^ 30))], .tuple [.int 0, .int 1]]) (ea_cons (ex_tup (ds := [.int (((10 : Int) ^ 30)), .int 1]) (ea_cons p30 (ea_cons ex_cI ea_nil)) (Nat.le_of_ble_eq_true rfl)) (ea_cons (ex_tup (ds := [.int (-((10 : Int) ^ 30)), .int 1]) (ea_cons (ex_neg p30) (ea_cons ex_cI ea_nil)) (Nat.le_of_ble_eq_true rfl)) (ea_cons (ex_tup (ds := [.int 1, .int (((10 : Int) ^ 30))]) (ea_cons ex_cI (ea_cons p30 ea_nil)) (Nat.le_of_ble_eq_true rfl)) (ea_cons (ex_tup (ds := [.int (((10 : Int) ^ 30) - 1), .int (((10 : Int) ^ 30))]) (ea_cons (ex_sub p30 ex_cI) (ea_cons p30 ea_nil)) (Nat.le_of_ble_eq_true rfl)) (ea_cons (ex_tup (ds := [.int 0, .int 1]) (ea_cons ex_cI (ea_cons ex_cI ea_nil)) (Nat.le_of_ble_eq_true rfl)) ea_nil))))) (Nat.le_of_ble_eq_true rfl))) (fun b' => .z) (by simp) (Nat.le_of_ble_eq_true rfl) fun x b' hx => ⟨(show ∀ d ∈ [.tuple [.int (((10 : Int) ^ 30)), .int 1], .tuple [.int (-((10 : Int) ^ 30)), .int 1], .tuple [.int 1, .int (((10 : Int) ^ 30))], .tuple [.int (((10 : Int) ^ 30) - 1), .int (((10 : Int) ^ 30))], .tuple [.int 0, .int 1]], Gv d from (List.forall_mem_cons.mpr ⟨(Gd.mono (k := 3) (m := 2) (gd_tup (gdl_cons (m := 0) (n := 1) (con (by decide +kernel)) (gdl_cons (m := 0) (n := 0) (con (by decide +kernel)) gdl_nil))) (by decide) (by decide)), (List.forall_mem_cons.mpr ⟨(Gd.mono (k := 3) (m := 2) (gd_tup (gdl_cons (m := 0) (n := 1) (con (by decide +kernel)) (gdl_cons (m := 0) (n := 0) (con (by decide +kernel)) gdl_nil))) (by decide) (by decide)), (List.forall_mem_cons.mpr ⟨(Gd.mono (k := 3) (m := 2) (gd_tup (gdl_cons (m := 0) (n := 1) (con (by decide +kernel)) (gdl_cons (m := 0) (n := 0) (con (by decide +kernel)) gdl_nil))) (by decide) (by decide)), (List.forall_mem_cons.mpr ⟨(Gd.mono (k := 3) (m := 2) (gd_tup (gdl_cons (m := 0) (n := 1) (con (by decide +kernel)) (gdl_cons (m := 0) (n := 0) (con (by decide +kernel)) gdl_nil))) (by decide) (by decide)), (List.forall_mem_cons.mpr ⟨(Gd.mono (k := 3) (m := 2) (gd_tup (gdl_cons (m := 0) (n := 1) (con (by decide +kernel)) (gdl_cons (m := 0) (n := 0) (con (by decide +kernel)) gdl_nil))) (by decide) (by decide)), fun _ h => nomatch h⟩)⟩)⟩)⟩)⟩)) x hx, b', List.mem_cons_self⟩)
  exact x_retG q (wv_of (x := .tuple [.int a, .int c]) (ex_v rfl) ⟨Gd.mono (k := 3) (m := 2) (gd_tup (gdl_cons (m := 0) (n := 1) (gi ha) (gdl_one (m := 0) (gi hc)))) (by decide) (by decide), b1, List.mem_cons_self⟩)
end K82

/-! ## FzZ9 -/
set_option Elab.async false
set_option linter.all false
set_option maxRecDepth 100000
set_option maxHeartbeats 2000000
set_option autoImplicit false
/-! FzZ9: lists times a drawn number; a drawn thing stored; list(t) of a drawn tuple. -/
namespace Fz
open PySem L2
section
variable {B : Bg} {ε : Eps} {L La Lb : Own} {te ta tb to ti : TE} {α : Type} {e : α → PyData} {D : Ends}
theorem w_repZ {κ : List α → Own → Prop} (h : WV B (eL e) ta ε L fun xs L1 => WV B PyData.int tb ε L1 fun n L2 => (-1000 ≤ n ∧ n ≤ 100000 ∧ xs.length * n.toNat ≤ 100000) ∧ κ (List.replicate n.toNat xs).flatten L2) : WV B (eL e) (tOp rRep ta tb) ε L κ :=
  w_frz (fun F σ H r Q q => h F σ H r _ fun xs L1 v F1 H1 k s1 r1 o1 => k F1 σ H1 r1 _ fun n L2 w F2 H2 ⟨hn, k2⟩ s2 r2 o2 => by
    have o1' : Dq B.K F2 v (eL e xs) := dp_sub s2 o1
    have ew : w = .int n := int_inv o2
    subst ew
    cases o1' with
    | @lst p vs _ g1 g2 =>
      refine ⟨p, n, vs, rfl, rfl, r2.sub _ _ g1, by omega, by omega, Evl.sz_of (by rw [dpa_len g2, List.length_map]; exact hn.2.2), fun p' hp' => q p' (.lst p' ((List.replicate n.toNat xs).flatten.map e) :: L2) F2 _ ⟨_, _, _, r2.newM hp', rfl, rfl, k2⟩ (s1.tr s2) (r2.alloc hp' rfl ⟨_, upd_same, ?_⟩)⟩
      have : ∀ m : Nat, DqAll B.K F2 (List.replicate m vs).flatten ((List.replicate m xs).flatten.map e) := fun m => by
        induction m with
        | zero => exact .nil
        | succ m ih => rw [List.replicate_succ, List.replicate_succ, List.flatten_cons, List.flatten_cons, List.map_append]; exact dpa_app g2 ih
      exact this n.toNat)
theorem wr_catW {x : AD} {κ : Addr → Own → Prop} (ha : EX B ta ε L x La) (h : WV B (eL e) tb ε La fun ys L1 => ∃ ds, IsM L1 x ds ∧ ds.length + ys.length ≤ 100000 ∧ ∀ p, p ∉ B.M → κ p (.lst p (ds ++ ys.map e) :: L1)) : WR B (tOp rCat ta tb) ε L κ := fun F σ H r Q q =>
  ha F σ H r _ fun v F1 H1 s1 r1 o1 => h F1 σ H1 r1 _ fun ys L1 w F2 H2 ⟨ds, hx, hl, k⟩ s2 r2 o2 => by
    obtain ⟨p, vs, rfl, g1, g2⟩ := hx.get r2 (o1.sub s2)
    have o2' : Dq B.K F2 w (eL e ys) := o2
    cases o2' with
    | @lst p' ws _ g3 g4 =>
      exact ⟨p, p', vs, ws, rfl, rfl, g1, r2.sub _ _ g3, Evl.sz_of (by rw [dpa_len g2, dpa_len g4, List.length_map]; exact hl), fun n hn => q n _ F2 _ (k n (r2.newM hn)) (s1.tr s2) (r2.alloc hn rfl ⟨_, upd_same, dpa_app g2 g4⟩)⟩
theorem wr_listT {κ : Addr → Own → Prop} (h : WV B (eT e) te ε L fun xs L1 => ∀ p, p ∉ B.M → κ p (.lst p (xs.map e) :: L1)) : WR B (tCB (rListOf B.K) (tCons te tNil)) ε L κ := fun F σ H r Q q =>
  h F σ H r _ fun xs L1 v F1 H1 k s1 r1 o1 => by
    have o1' : Dq B.K F1 v (.tuple (xs.map e)) := o1
    obtain ⟨p, vs, rfl, g1, g2⟩ := tup_inv o1'
    exact ⟨p, vs, rfl, .inr (tq_sub r1.sub g1), fun l hl => q l _ F1 _ (k l (r1.newM hl)) s1 (r1.alloc hl rfl ⟨vs, upd_same, g2⟩)⟩
theorem ixN_nat {n j : Nat} {i : Int} (hi : i = (j : Int)) (h : j < n) : ixN n i = some j := by
  subst hi
  unfold ixN
  rw [if_pos (by omega), if_pos (by omega), Int.toNat_natCast]
theorem x_setIxW (h : WV B e te ε L fun x L1 => ∃ (i : Int) (k j : Nat) (p : Addr) (ds : List PyData), EX B to ε L1 (.v (.ref p)) L1 ∧ EX B ti ε L1 (.d (.int i)) L1 ∧ L1[k]? = some (.lst p ds) ∧ ixN ds.length i = some j ∧ Ho B D.nx ε (L1.set k (.lst p (ds.set j (e x))))) : Ho B (tAsg te (gSub to ti rSetL) D) ε L := fun F σ H r =>
  h F σ H r _ fun x L1 y F1 H1 ⟨i, k, j, p, ds, ho, hi, hk, hj, q⟩ s1 r1 o1 => ho F1 σ H1 r1 _ fun v F2 H2 s2 r2 o2 => hi F2 σ H2 r2 _ fun w F3 H3 s3 r3 o3 => by
    have ev : v = .ref p := o2
    have ew : w = .int i := int_inv o3
    subst ev ew
    obtain ⟨vs, g1, g2⟩ := r3.own _ (List.mem_of_getElem? hk)
    exact ⟨p, vs, i, j, rfl, rfl, g1, by rw [dpa_len g2]; exact hj, q F3 σ _ (r3.setL hk (dpa_set (dp_sub (s2.tr s3) o1) j g2))⟩
end
end Fz

/-! ## B18 -/
set_option Elab.async false
set_option linter.all false
set_option maxRecDepth 100000
set_option maxHeartbeats 4000000
set_option autoImplicit false
namespace K82
open PySem L2 Fz K80 Means
variable {P : Program} {w : World} {K : PySem.W.Frag} {mg : Str → Option Value} {base : Heap} {f : Addr} {fd : FuncData}
/-! ### words for things of any form -/
def prD (a b : Int) : PyData := .tuple [.int a, .int b]
def repT (n : Nat) (d : PyData) : PyData := .tuple (List.replicate n d)
def vals0 : List PyData := [.tuple [], repT 8 (prD 0 1), repT 8 (prD 1 (10 ^ 30)), repT 9 (prD 0 1), repT 9 .none, repT 500 (prD 2 4)]
def someL : List PyData := [.none, .bool true, .int 0, .str "", .str "form", .list [], .list [prD 1 2], .dict [], .dict [(.str "a", .int 1)], .dict [(prD 1 2, .int 3)], prD 1 2, .int ((10 ^ 57) ^ 7), .tuple [.tuple []], .tuple [.str "1", .str "2"]]
theorem gd_pr {k : Nat} {a b : Int} (ha : Bd 1920 a) (hb : Bd 1920 b) : Gd (k + 1) 2 (prD a b) := gd_two (m := 0) (n := 0) (gd_int ha) (gd_int hb)
theorem gd_rep {k m n : Nat} {d : PyData} (h : Gd k m d) : Gd (k + 1) (n * (m + 1)) (repT n d) := by
  have := gdl_all (ds := List.replicate n d) (k := k) (m := m) fun x hx => by rw [(List.mem_replicate.mp hx).2]; exact h
  rw [List.length_replicate] at this
  exact gd_tup this
theorem gd_vals0 : GdL 4 1590 vals0 := by
  have b : ∀ {i : Int}, i.natAbs < 2 ^ 1920 → Bd 1920 i := fun h => h
  refine (gdl_cons (m := 0) (gd_tup (k := 3) gdl_nil) (gdl_cons (m := 24) (Gd.mono (gd_rep (k := 2) (m := 2) (gd_pr (b (by decide +kernel)) (b (by decide +kernel)))) (by decide) (by decide)) (gdl_cons (m := 24) (Gd.mono (gd_rep (k := 2) (m := 2) (gd_pr (b (by decide +kernel)) (b (by decide +kernel)))) (by decide) (by decide)) (gdl_cons (m := 27) (Gd.mono (gd_rep (k := 2) (m := 2) (gd_pr (b (by decide +kernel)) (b (by decide +kernel)))) (by decide) (by decide)) (gdl_cons (m := 9) (Gd.mono (gd_rep (k := 2) (m := 0) gd_none) (by decide) (by decide)) (gdl_cons (m := 1500) (n := 0) (Gd.mono (gd_rep (k := 2) (m := 2) (gd_pr (b (by decide +kernel)) (b (by decide +kernel)))) (by decide) (by decide)) gdl_nil)))))).mono (Nat.le_refl _) (by decide)
theorem gd_some : ∀ x ∈ someL, Gd 4 20 x := fun x hx => by
  have b : ∀ {i : Int}, i.natAbs < 2 ^ 1920 → Bd 1920 i := fun h => h
  unfold someL at hx
  simp only [List.mem_cons, List.not_mem_nil, or_false] at hx
  rcases hx with rfl | rfl | rfl | rfl | rfl | rfl | rfl | rfl | rfl | rfl | rfl | rfl | rfl | rfl
  · exact gd_none
  · exact gd_bool
  · exact gd_int (b (by decide +kernel))
  · exact gd_str
  · exact gd_str
  · exact (gd_lst (k := 3) gdl_nil)
  · exact (gd_lst (k := 3) (gdl_one (m := 2) (gd_pr (b (by decide +kernel)) (b (by decide +kernel))))).mono (by decide) (by decide)
  · exact ⟨rfl, by decide +kernel, rfl, by decide +kernel⟩
  · exact ⟨by decide +kernel, by decide +kernel, by decide +kernel, by decide +kernel⟩
  · exact ⟨by decide +kernel, by decide +kernel, by decide +kernel, by decide +kernel⟩
  · exact (gd_pr (k := 3) (b (by decide +kernel)) (b (by decide +kernel))).mono (by decide) (by decide)
  · exact gd_int (b (by decide +kernel))
  · exact (gd_tup (k := 3) (gdl_one (m := 0) (gd_tup (k := 2) gdl_nil))).mono (by decide) (by decide)
  · exact (gd_two (k := 3) (m := 5) (n := 5) gd_str gd_str).mono (by decide) (by decide)
theorem ok_err {n : Nat} (d : PyData) : okS (n + 2) (meansErr d) := by
  have hs : ∀ {z : Str} {n : Nat}, SeqAt.shaped (.str z) = true → okS (n + 1) (.str z) := fun h => h
  unfold meansErr
  split
  · split
    · exact hs (by decide +kernel)
    · unfold oddOf
      split
      · trivial
      · refine ⟨Nat.le_of_ble_eq_true rfl, fun x hx => ?_⟩
        simp only [List.mem_cons, List.not_mem_nil, or_false] at hx
        rcases hx with rfl | rfl
        · exact hs (by decide +kernel)
        · trivial
  · exact hs (by decide +kernel)
theorem gd_fr {q : Rat} {k : Nat} (h : Lt (2 ^ 101) q) : Gd (k + 1) 2 (frQ q) := by
  refine gd_pr ?_ ?_
  · exact (le_bd h.1).mono (by decide)
  · exact (le_bd (z := (q.den : Int)) (by rw [Int.natAbs_natCast]; exact h.2)).mono (by decide)
section
variable {B : Bg} {ε : Eps} {L La Lb : Own} {te ta tb : TE} {E : XK} {d : PyData}
theorem ex_err (h : EX B te ε L (.d d) La) : EX B (tCall (S_means_error B.K) [] E (tCons te tNil)) ε L (.d (meansErr d)) La :=
  ex_of (e := eD) fun κ k => w_callD (wa_x h (wa_nil ⟨d, rfl, trivial, fun x hx => hx ▸ k⟩))
theorem ex_errK (h : EX B te ε L (.d d) La) : EX B (tCallK (S_means_error B.K) (kwG 1 [0]) E tNil (tCons te tNil)) ε L (.d (meansErr d)) La :=
  ex_of (e := eD) fun κ k => w_callKD (wa_x h (wa_nil ⟨d, (fun K F zs hz => kwX1 hz), trivial, fun x hx => hx ▸ k⟩))
theorem ex_pr {a b : Int} : EX B (tTup (tCons (tC (.int a)) (tCons (tC (.int b)) tNil))) ε L (.d (prD a b)) L := ex_tup (ds := [.int a, .int b]) (ea_cons ex_cI (ea_cons ex_cI ea_nil)) (Nat.le_of_ble_eq_true rfl)
theorem ex_repT {n : Nat} (h : EX B te ε L (.d d) La) (hn : 1 ≤ n ∧ n ≤ 1000) : EX B (tOp (rRepT1 B.K) (tTup (tCons te tNil)) (tC (.int (n : Int)))) ε L (.d (repT n d)) La :=
  ex_is (ex_rep1 (ds := [d]) (n := (n : Int)) (ex_tup (ds := [d]) (ea_cons h ea_nil) (Nat.le_of_ble_eq_true rfl)) ex_cI (by simp) (Nat.le_of_ble_eq_true rfl) (by omega)) (by rw [Int.toNat_natCast, rep1]; rfl)
end
abbrev S_law_are_words_right (K : PySem.W.Frag) : Sp := spG K (fun _ : Unit => []) (fun _ => True) PyData.bool (fun _ x => x = true)
def ways : List Int := [0, 0, 1, 2, 3, 3, 4, 5, 6, 7, 7, 8, 8, 9, 9, 10, 10, 11]
theorem okd_law_are_words_right (Fn : Fun K "_law_are_words_right" "_law_are_words_right" s_law_are_words_right f fd) (T : Bt P mg base) (D_law_odd : Df P w K mg base 43 "_law_odd" ["bag", "item", "way"] (S_law_odd K)) (D_law_same : Df P w K mg base 44 "_law_same" ["told", "due"] (S_law_same K)) (D_law_pick : Df P w K mg base 42 "_law_pick" ["bag", "some"] (S_law_pick K)) (D_law_row : Df P w K mg base 43 "_law_row" ["bag", "n", "mode"] (S_law_row K)) (D_law_draw : Df P w K mg base 41 "_law_draw" ["bag", "below"] (S_law_draw K)) (D_law_word : Df P w K mg base 43 "_law_word" ["value"] (S_law_word K)) (D_means_error : Df P w K mg base 44 "means_error" ["value"] (S_means_error K)) (DK_means_error_value : DfK P w K mg base 44 "means_error" ["value"] ["value"] (kwG 1 [0]) (kwG 1 [0]) (S_means_error K)) : GOk P w K mg base 45 f fd ["bag"] (S_law_are_words_right K) := by
  refine g_G Fn sc_law_are_words_right (by decide) (fun _ => rfl) fun cdv A outer s H hr hG => ⟨_, (pss_cons (ps_set (i := 1) sc_law_are_words_right.nd rfl (.inl rfl) (pe_lst (pa_cons (pe_tup pa_nil) (pa_cons (pe_op (r := rRepT1 K) op_repT1 (pe_tup (pa_cons (pe_tup (pa_cons pe_int (pa_cons pe_int pa_nil))) pa_nil)) pe_int) (pa_cons (pe_op (r := rRepT1 K) op_repT1 (pe_tup (pa_cons (pe_tup (pa_cons pe_int (pa_cons (pe_op op_powW pe_int pe_int) pa_nil))) pa_nil)) pe_int) (pa_cons (pe_op (r := rRepT1 K) op_repT1 (pe_tup (pa_cons (pe_tup (pa_cons pe_int (pa_cons pe_int pa_nil))) pa_nil)) pe_int) (pa_cons (pe_op (r := rRepT1 K) op_repT1 (pe_tup (pa_cons pe_non pa_nil)) pe_int) (pa_cons (pe_op (r := rRepT1 K) op_repT1 (pe_tup (pa_cons (pe_tup (pa_cons pe_int (pa_cons pe_int pa_nil))) pa_nil)) pe_int) pa_nil))))))))
      (pss_cons (ps_set (i := 2) sc_law_are_words_right.nd rfl (.inr rfl) (pe_lst (pa_cons pe_non (pa_cons pe_bl (pa_cons pe_int (pa_cons pe_str (pa_cons pe_str (pa_cons (pe_lst pa_nil) (pa_cons (pe_lst (pa_cons (pe_tup (pa_cons pe_int (pa_cons pe_int pa_nil))) pa_nil)) (pa_cons pe_dnewK (pa_cons (pe_disp (pps_cons pe_str pe_int pps_nil) (by rfl) (by rfl) (fun z => by cases z) (by decide)) (pa_cons (pe_dispT (hu_in hr) (pe_tup (pa_cons pe_int (pa_cons pe_int pa_nil))) pe_int) (pa_cons (pe_tup (pa_cons pe_int (pa_cons pe_int pa_nil))) (pa_cons (pe_op op_powW (pe_op op_powW pe_int pe_int) pe_int) (pa_cons (pe_tup (pa_cons (pe_tup pa_nil) pa_nil)) (pa_cons (pe_tup (pa_cons pe_str (pa_cons pe_str pa_nil))) pa_nil))))))))))))))))
      (pss_cons (ps_expr (pe_bm PySem.F.plainAttrs_list PySem.F.slot_list_extend PySem.F.type_list_extend mt_extend (pv 1) (pa_cons (pe_lc (own := [("turn", 13)]) rfl sc_law_are_words_right.nd (pi_range1 (by rfl) T.n_range (pa_cons pe_int pa_nil)) (blkOk_by (own := [("turn", 13)]) (N := ["bag", "values", "some", "way", "dues", "kept", "value", "due", "again", "many", "row", "at", "later", "turn"]) (sc := defScope s_law_are_words_right) (by decide +kernel)) (fun _ _ _ _ _ => (pg_name (i := 13) sc_law_are_words_right.nd rfl (Or.inl rfl))) (fun _ _ _ _ _ => pts_nil) (fun _ _ _ _ _ => (pe_callD D_law_pick (hr.mono (by decide)) (by rfl) (pa_cons (pv 0) (pa_cons (pv 2) pa_nil))))) pa_nil)))
      (pss_cons (ps_for PassesOwn.never rfl (pi_list (pe_lst (pa_cons pe_int (pa_cons pe_int (pa_cons pe_int (pa_cons pe_int (pa_cons pe_int (pa_cons pe_int (pa_cons pe_int (pa_cons pe_int (pa_cons pe_int (pa_cons pe_int (pa_cons pe_int (pa_cons pe_int (pa_cons pe_int (pa_cons pe_int (pa_cons pe_int (pa_cons pe_int (pa_cons pe_int (pa_cons pe_int pa_nil)))))))))))))))))))) (pg_name (i := 3) sc_law_are_words_right.nd rfl (Or.inl rfl)) (pss_cons (ps_set (i := 9) sc_law_are_words_right.nd rfl (.inl rfl) (pe_ifExp (pt_cmpR op_eq (pe_callD D_law_draw (hr.mono (by decide)) (by rfl) (pa_cons (pv 0) (pa_cons pe_int pa_nil))) pe_int (nomark _)) pe_int (pe_op op_add pe_int (pe_callD D_law_draw (hr.mono (by decide)) (by rfl) (pa_cons (pv 0) (pa_cons pe_int pa_nil))))))
      (pss_cons (ps_set (i := 10) sc_law_are_words_right.nd rfl (.inl rfl) (pe_callTy (r := rListOf K) call_list_of (by rfl) T.n_list (by decide +kernel) (pa_cons (pe_callD D_law_row (hr.mono (by decide)) (by rfl) (pa_cons (pv 0) (pa_cons (pv 9) (pa_cons (pe_callD D_law_pick (hr.mono (by decide)) (by rfl) (pa_cons (pv 0) (pa_cons (pe_lst (pa_cons pe_str (pa_cons pe_str (pa_cons pe_str pa_nil)))) pa_nil))) pa_nil)))) pa_nil)))
      (pss_cons (ps_expr (pe_bm PySem.F.plainAttrs_list PySem.F.slot_list_append PySem.F.type_list_append mt_append (pv 1) (pa_cons (pe_tupleOf (by rfl) T.n_tuple (pv 10)) pa_nil)))
      (pss_cons (ps_set (i := 11) sc_law_are_words_right.nd rfl (.inl rfl) (pe_ifExp (pt_cmpR op_eq (pe_callD D_law_draw (hr.mono (by decide)) (by rfl) (pa_cons (pv 0) (pa_cons pe_int pa_nil))) pe_int (nomark _)) (pe_op op_sub (pv 9) pe_int) (pe_callD D_law_draw (hr.mono (by decide)) (by rfl) (pa_cons (pv 0) (pa_cons (pv 9) pa_nil)))))
      (pss_cons (ps_asg (pe_callD D_law_odd (hr.mono (by decide)) (by rfl) (pa_cons (pv 0) (pa_cons (pe_ix (r := rIxL K) ix_list (pv 10) (pv 11) (fun _ _ => rfl)) (pa_cons (pv 3) pa_nil)))) (pg_sub (pv 10) (pv 11) set_list))
      (Evl.pss_cut (ps_if (PW.pt (pw_and (pt_cmpR op_lt (pv 3) pe_int (nomark _)) (pw_and1 (pt_cmpR op_eq (pe_callD D_law_draw (hr.mono (by decide)) (by rfl) (pa_cons (pv 0) (pa_cons pe_int pa_nil))) pe_int (nomark _))))) (pss_cons (ps_set (i := 12) sc_law_are_words_right.nd rfl (.inl rfl) (pe_callD D_law_draw (hr.mono (by decide)) (by rfl) (pa_cons (pv 0) (pa_cons (pv 9) pa_nil))))
      (pss_one (ps_asg (pe_callD D_law_odd (hr.mono (by decide)) (by rfl) (pa_cons (pv 0) (pa_cons (pe_tup (pa_cons pe_int (pa_cons pe_int pa_nil))) (pa_cons (pe_callD D_law_draw (hr.mono (by decide)) (by rfl) (pa_cons (pv 0) (pa_cons pe_int pa_nil))) pa_nil)))) (pg_sub (pv 10) (pv 12) set_list)))) pss_nil)
      (Evl.pss_cut (ps_if (pt_cmpR op_eq (pv 3) pe_int (nomark _)) (pss_one (ps_set (i := 10) sc_law_are_words_right.nd rfl (.inl rfl) (pe_op op_cat (pv 10) (pe_op op_rep (pe_lst (pa_cons (pe_tup (pa_cons pe_int (pa_cons pe_int pa_nil))) pa_nil)) (pe_op op_sub (pe_op op_add (pe_op op_sub pe_int (pv 9)) (pe_callD D_law_draw (hr.mono (by decide)) (by rfl) (pa_cons (pv 0) (pa_cons pe_int pa_nil)))) (pe_callD D_law_draw (hr.mono (by decide)) (by rfl) (pa_cons (pv 0) (pa_cons pe_int pa_nil)))))))) pss_nil)
      (pss_one (ps_expr (pe_bm PySem.F.plainAttrs_list PySem.F.slot_list_append PySem.F.type_list_append mt_append (pv 1) (pa_cons (pe_ifExp (pt_cmpR op_eq (pv 3) pe_int (nomark _)) (pv 10) (pe_tupleOf (by rfl) T.n_tuple (pv 10))) pa_nil))))))))))))
      (pss_cons (ps_par (i := 4) (j := 5) (by rfl) sc_law_are_words_right.nd rfl rfl (by decide) rfl rfl (pa_cons (pe_lc (own := [("value", 6)]) rfl sc_law_are_words_right.nd (pi_list (pv 1)) (blkOk_by (own := [("value", 6)]) (N := ["bag", "values", "some", "way", "dues", "kept", "value", "due", "again", "many", "row", "at", "later", "turn"]) (sc := defScope s_law_are_words_right) (by decide +kernel)) (fun _ _ _ _ _ => (pg_name (i := 6) sc_law_are_words_right.nd rfl (Or.inl rfl))) (fun _ _ _ _ _ => pts_nil) (fun _ _ _ _ _ => (pe_callD D_law_word (hr.mono (by decide)) (by rfl) (pa_cons (pv 6) pa_nil)))) (pa_cons (pe_callB (r := rReprN K) (call_reprN hr hG T.hpl.1) (by rfl) T.n_repr (by decide +kernel) (pa_cons (pv 1) pa_nil)) pa_nil)) (by rfl))
      (pss_cons (ps_for PassesOwn.never rfl (RZ.pi_zipA (by rfl) T.n_zip (pa_cons (pv 1) (pa_cons (pv 4) pa_nil))) (pg_tup rfl (pgs_cons (pg_name (i := 6) sc_law_are_words_right.nd rfl (Or.inl rfl)) (pgs_cons (pg_name (i := 7) sc_law_are_words_right.nd rfl (Or.inl rfl)) pgs_nil))) (pss_one (ps_if (pt_not (pt_val (pe_callD D_law_same (hr.mono (by decide)) (by rfl) (pa_cons (pe_callD D_means_error (hr.mono (by decide)) (by rfl) (pa_cons (pv 6) pa_nil)) (pa_cons (pv 7) pa_nil))))) (pss_one (ps_ret pe_bl)) pss_nil)))
      (pss_cons (ps_setLc (i := 8) (own := [("value", 6)]) rfl sc_law_are_words_right.nd rfl rfl (sw_true rfl rfl rfl (by decide +kernel)) (pi_list (pv 1)) (blkOk_by (own := [("value", 6)]) (N := ["bag", "values", "some", "way", "dues", "kept", "value", "due", "again", "many", "row", "at", "later", "turn"]) (sc := defScope s_law_are_words_right) (by decide +kernel)) (fun _ _ _ _ _ => (pg_name (i := 6) sc_law_are_words_right.nd rfl (Or.inl rfl))) (fun _ _ _ _ _ => pts_nil) (fun _ _ _ _ _ => (pe_callKD DK_means_error_value (hr.mono (by decide)) (by rfl) (pk_cons (pv 6) pk_nil))))
      (pss_one (ps_ret (pe_and (pe_cmpR op_eq (pe_callB (r := rReprN K) (call_reprN hr hG T.hpl.1) (by rfl) T.n_repr (by decide +kernel) (pa_cons (pv 1) pa_nil)) (pv 5) (nomark _)) (pe_one (pe_callD D_law_same (hr.mono (by decide)) (by rfl) (pa_cons (pe_tupleOf (by rfl) T.n_tuple (pv 8)) (pa_cons (pe_tupleOf (by rfl) T.n_tuple (pv 4)) pa_nil)))))))))))))), ?_⟩
  rintro B Q pb pc b _ rfl _ q
  show Ho B _ [bagv pb, none, none, none, none, none, none, none, none, none, none, none, none, none] [b.at pb pc]
  have p30 : ∀ {ε : Eps} {L : Own}, EX B (tOp (rI CPowW fun i j => .int (i ^ j.toNat)) (tC (.int 10)) (tC (.int 30))) ε L (.d (.int ((10 : Int) ^ 30))) L := ex_powW ex_cI ex_cI ⟨by decide, by decide +kernel⟩
  have p57 : ∀ {ε : Eps} {L : Own}, EX B (tOp (rI CPowW fun i j => .int (i ^ j.toNat)) (tOp (rI CPowW fun i j => .int (i ^ j.toNat)) (tC (.int 10)) (tC (.int 57))) (tC (.int 7))) ε L (.d (.int (((10 : Int) ^ 57) ^ 7))) L := ex_powW (ex_powW ex_cI ex_cI ⟨by decide, by decide +kernel⟩) ex_cI ⟨by decide, by decide +kernel⟩
  refine x_seq (x_setN (en_lst (ds := vals0) (ea_cons (ex_tup (ds := []) ea_nil (Nat.zero_le _)) (ea_cons (ex_repT (n := 8) ex_pr (by decide)) (ea_cons (ex_repT (n := 8) (ex_tup (ds := [.int 1, .int (10 ^ 30)]) (ea_cons ex_cI (ea_cons p30 ea_nil)) (Nat.le_of_ble_eq_true rfl)) (by decide)) (ea_cons (ex_repT (n := 9) ex_pr (by decide)) (ea_cons (ex_repT (n := 9) ex_cN (by decide)) (ea_cons (ex_repT (n := 500) ex_pr (by decide)) ea_nil)))))) (Nat.le_of_ble_eq_true rfl)) fun p hp => ?_)
  refine x_sq (x_set (a := .d (.list someL)) (ex_frz (en_lst (ds := someL) (ea_cons ex_cN (ea_cons ex_cB (ea_cons ex_cI (ea_cons ex_cS (ea_cons ex_cS (ea_cons (ex_frz (en_lst (ds := []) ea_nil (Nat.zero_le _))) (ea_cons (ex_frz (en_lst (ds := [prD 1 2]) (ea_cons ex_pr ea_nil) (Nat.le_of_ble_eq_true rfl))) (ea_cons ex_dnew (ea_cons ex_disp1 (ea_cons (ex_dispT (k := [1, 2]) (fun p => ex_pr) (fun p => ex_cI)) (ea_cons ex_pr (ea_cons p57 (ea_cons (ex_tup (ds := [.tuple []]) (ea_cons (ex_tup (ds := []) ea_nil (Nat.zero_le _)) ea_nil) (Nat.le_of_ble_eq_true rfl)) (ea_cons (ex_tup (ds := [.str "1", .str "2"]) (ea_cons ex_cS (ea_cons ex_cS ea_nil)) (Nat.le_of_ble_eq_true rfl)) ea_nil)))))))))))))) (Nat.le_of_ble_eq_true rfl))) ?_)
  refine x_sq (x_extW (ex_v rfl) ⟨_, _, .z⟩ (w_frz (wr_lcR1 (n := 4) (ea_cons ex_cI ea_nil) (by decide) (fun i acc L => ∃ b : Bag, acc.length = i ∧ (∀ d ∈ acc, Gd 4 20 d) ∧ L = [.lst p vals0, b.at pb pc]) ⟨b, rfl, (fun _ h => nomatch h), rfl⟩ (by simp) ?_ ?_)))
  · rintro i hi acc L' ⟨b1, hl, ha, rfl⟩
    refine ⟨by omega, _, gt_name, fun m => wt_of et_yes ⟨fun _ => ?_, (fun h => nomatch h)⟩⟩
    refine w_one (pb := pb) (pc := pc) (ds := someL) rfl (ex_v rfl) (fun b' => .s .z) (by unfold someL; simp) (Nat.le_of_ble_eq_true rfl) fun z b2 hz => ⟨[.lst p vals0, b2.at pb pc], rfl, b2, by rw [List.length_append, hl]; rfl, fun d hd => ?_, rfl⟩
    rcases List.mem_append.mp hd with h | h
    · exact ha d h
    · rw [List.mem_singleton.mp h]; exact gd_some z hz
  rintro p2 acc L' hp2 ⟨b1, hl, ha, rfl⟩
  have hl4 : acc.length = 4 := hl
  refine ⟨acc, _, .list acc, hp2, rfl, rfl, acc, vals0, _, rfl, .z, by rw [hl4]; decide, ?_⟩
  have g0 : GdL 4 1700 (vals0 ++ acc) := (gdl_app (gdl_all ha) gd_vals0).mono (Nat.le_refl _) (by rw [hl4]; decide)
  have l0 : (vals0 ++ acc).length = 10 := by rw [List.length_append, hl4]; rfl
  generalize vals0 ++ acc = v0 at g0 l0
  refine nxt (x_seq (x_forL (ds := ways.map PyData.int) (ex_frz (en_lst (ds := ways.map PyData.int) (ea_cons ex_cI (ea_cons ex_cI (ea_cons ex_cI (ea_cons ex_cI (ea_cons ex_cI (ea_cons ex_cI (ea_cons ex_cI (ea_cons ex_cI (ea_cons ex_cI (ea_cons ex_cI (ea_cons ex_cI (ea_cons ex_cI (ea_cons ex_cI (ea_cons ex_cI (ea_cons ex_cI (ea_cons ex_cI (ea_cons ex_cI (ea_cons ex_cI ea_nil)))))))))))))))))) (Nat.le_of_ble_eq_true rfl))) (fun v i ε L => ∃ (vs : List PyData) (b : Bag), GdL 4 (1700 + 600 * i) vs ∧ vs.length = 10 + 2 * i ∧ ε = [bagv pb, lref p, dv (.list someL), none, none, none, none, none, none, none, none, none, none, none] ∧ L = [.lst p vs, b.at pb pc, .know v (.list (ways.map PyData.int))]) (fun v => ⟨v0, b1, g0, l0, rfl, rfl⟩) (fun v i ε' L' ⟨_, _, _, _, _, h⟩ => by rw [h]; simp) ?_ ?_))
  · rintro v i d ε' L' hd ⟨vs, b, hg, hvl, rfl, rfl⟩
    obtain ⟨way, hway, rfl⟩ := map_at hd
    have hi : i < 18 := (List.getElem?_eq_some_iff.mp hway).1
    refine ⟨_, gt_name, x_seq (x_setV (wv_mono (κ := fun m L1 => ∃ (n : Nat) (b : Bag), m = (n : Int) ∧ (1 ≤ n ∧ n ≤ 8) ∧ L1 = [.lst p vs, b.at pb pc, .know v (.list (ways.map PyData.int))]) (w_if (wt_test (w_eq (w_drw (pb := pb) (pc := pc) rfl ex_cI (fun b' => .s .z) (by decide) fun y b2 y0 y1 => wv_of ex_cI ⟨fun _ => wv_of (x := (8 : Int)) ex_cI ⟨8, b2, rfl, by decide, rfl⟩, fun _ => w_add (wv_of ex_cI (w_drw (pb := pb) (pc := pc) rfl ex_cI (fun b' => .s .z) (by decide) fun z b3 z0 z1 => ⟨(1 + z).toNat, b3, by omega, by omega, rfl⟩))⟩)))) fun m L1 ⟨n, b2, hm, hn, hL⟩ => ?_) (fun _ => .s (.s (.s (.s (.s (.s (.s (.s (.s (.z)))))))))))⟩
    subst hm hL
    refine nxt (x_seq (x_setO (wr_listT (e := frQ) (w_callG (pb := pb) (pc := pc) (wa_x (ex_v rfl) (wa_x (ex_v rfl) (wa_v (e := PyData.str) (w_pck (e := PyData.str) (xs := ["small", "middle", "integers"]) (pb := pb) (pc := pc) rfl (ex_frz (en_lst (ds := [.str "small", .str "middle", .str "integers"]) (ea_cons ex_cS (ea_cons ex_cS (ea_cons ex_cS ea_nil))) (Nat.le_of_ble_eq_true rfl))) (fun b' => .s .z) (by simp) (by decide) fun mode b3 hmode => wa_nil ⟨(n, mode), b3, _, rfl, fun b' => .s .z, hn.2, fun l b4 hl => fun r hr => ?_⟩)))))) (fun _ => .s (.s (.s (.s (.s (.s (.s (.s (.s (.s (.z)))))))))))))
    have hll : l.length = n := hl.len
    refine nxt (x_seq (x_appW (e := eD) (ex_v rfl) ⟨_, _, .s .z⟩ (wv_of (x := .tuple (l.map frQ)) (ex_tupL (ds := l.map frQ) (ex_v rfl) (.o (k := 0) rfl)) ⟨_, _, .s .z, by omega, ?_⟩)))
    refine nxt (x_seq (x_setV (wv_mono (κ := fun m L1 => ∃ (a : Nat) (b : Bag), m = (a : Int) ∧ a < n ∧ L1 = [.lst r (l.map frQ), .lst p (vs ++ [.tuple (l.map frQ)]), b.at pb pc, .know v (.list (ways.map PyData.int))]) (w_if (wt_test (w_eq (w_drw (pb := pb) (pc := pc) rfl ex_cI (fun b' => .s (.s .z)) (by decide) fun y b2 y0 y1 => wv_of ex_cI ⟨fun _ => wv_of (ex_sub (ex_v rfl) ex_cI) ⟨n - 1, b2, by omega, by omega, rfl⟩, fun _ => w_drw (pb := pb) (pc := pc) rfl (ex_v rfl) (fun b' => .s (.s .z)) (by omega) fun z b3 z0 z1 => ⟨z.toNat, b3, by omega, by omega, rfl⟩⟩)))) fun m L1 ⟨a, b5, hm, ha, hL⟩ => ?_) (fun _ => .s (.s (.s (.s (.s (.s (.s (.s (.s (.s (.s (.z))))))))))))))
    subst hm hL
    have hla : l[a]? = some (gt oQ l a) := gt_at oQ (by omega)
    have hlt := hl.all _ (List.mem_of_getElem? hla)
    have gvf : ∀ d ∈ l.map frQ, Gv d := fun d hd => by
      obtain ⟨z, hz, rfl⟩ := List.mem_map.mp hd
      exact (gd_fr (k := 2) (hl.all z hz)).mono (by decide) (by decide)
    refine nxt (x_seq (x_setIxW (e := eD) (w_callG (pb := pb) (pc := pc) (wa_x (ex_v rfl) (wa_x (ex_atl (e := frQ) (xs := l) (n := a) (ex_v rfl) (ex_v rfl) (.o (k := 0) rfl) rfl hla) (wa_x (ex_v rfl) (wa_nil ⟨(((gt oQ l a).num, ((gt oQ l a).den : Int)), way), b5, _, rfl, fun b' => .s (.s .z), ⟨(le_bd hlt.1).mono (by decide), (le_bd (z := ((gt oQ l a).den : Int)) (by rw [Int.natAbs_natCast]; exact hlt.2)).mono (by decide)⟩, fun od b6 hod => ⟨(a : Int), 0, a, r, l.map frQ, ex_v rfl, ex_v rfl, rfl, ixN_nat rfl (by rw [List.length_map]; omega), ?_⟩⟩)))))))
    have gset : ∀ (ds : List PyData) (j : Nat) (x : PyData), (∀ d ∈ ds, Gv d) → Gv x → ∀ d ∈ ds.set j x, Gv d := fun ds j x h1 h2 d hd => by
      rcases List.mem_or_eq_of_mem_set hd with h | h
      · exact h1 d h
      · rw [h]; exact h2
    have g1 := gset _ a _ gvf hod
    refine nxt (x_cut (M := fun ε L => ∃ (ds : List PyData) (b : Bag), (∀ d ∈ ds, Gv d) ∧ ds.length = n ∧ ε = [bagv pb, lref p, dv (.list someL), iv way, none, none, none, none, none, iv (n : Int), lref r, none, none, none] ∧ L = [.lst r ds, .lst p (vs ++ [.tuple (l.map frQ)]), b.at pb pc, .know v (.list (ways.map PyData.int))]) ?_ ?_)
    · refine x_ifW (wt_and (wt_of (et_test (ex_lt (ex_v rfl) ex_cI)) ⟨fun _ => wt_test (w_eq (w_drw (pb := pb) (pc := pc) rfl ex_cI (fun b' => .s (.s .z)) (by decide) fun y b7 y0 y1 => wv_of ex_cI ⟨fun _ => ?_, fun _ => ?_⟩)), fun _ => ⟨(fun h => nomatch h), fun _ => ?_⟩⟩))
      · refine x_seq (x_setV (w_drw (pb := pb) (pc := pc) rfl (ex_v rfl) (fun b' => .s (.s .z)) (by omega) fun lat b8 z0 z1 => ?_) (fun _ => .s (.s (.s (.s (.s (.s (.s (.s (.s (.s (.s (.s (.z))))))))))))))
        refine nxt (x_setIxW (e := eD) (w_callG (pb := pb) (pc := pc) (wa_x (ex_v rfl) (wa_x ex_pr (wa_v (e := PyData.int) (w_drw (pb := pb) (pc := pc) rfl ex_cI (fun b' => .s (.s .z)) (by decide) fun wy b9 w0 w1 => wa_nil ⟨((1, 2), wy), b9, _, rfl, fun b' => .s (.s .z), ⟨by show Bd 110 (1 : Int); unfold Bd; decide, by show Bd 110 (2 : Int); unfold Bd; decide⟩, fun od2 b10 hod2 => ⟨lat, 0, lat.toNat, r, (l.map frQ).set a od, ex_v rfl, ex_v rfl, rfl, ixN_nat (by omega) (by rw [List.length_set, List.length_map]; omega), ?_⟩⟩))))))
        exact nxt (x_end ⟨((l.map frQ).set a od).set lat.toNat od2, b10, gset _ _ _ g1 hod2, by rw [List.length_set, List.length_set, List.length_map, hll], rfl, rfl⟩)
      · exact x_next (nxt (x_end ⟨(l.map frQ).set a od, b7, g1, by rw [List.length_set, List.length_map, hll], rfl, rfl⟩))
      · exact x_next (nxt (x_end ⟨(l.map frQ).set a od, b6, g1, by rw [List.length_set, List.length_map, hll], rfl, rfl⟩))
    rintro ε' L' ⟨ds, b7, hds, hdl, rfl, rfl⟩
    refine x_cut (M := fun ε L => ∃ (r : Addr) (ds : List PyData) (b : Bag), r ∉ B.M ∧ (∀ d ∈ ds, Gv d) ∧ ds.length ≤ 11 ∧ ε = [bagv pb, lref p, dv (.list someL), iv way, none, none, none, none, none, none, lref r, none, none, none] ∧ L = [.lst r ds, .lst p (vs ++ [.tuple (l.map frQ)]), b.at pb pc, .know v (.list (ways.map PyData.int))]) ?_ ?_
    · refine x_if (et_test (ex_eqI (ex_v rfl) ex_cI)) (fun _ => ?_) fun _ => x_next (nxt (x_end ⟨r, ds, b7, hr, hds, by omega, rfl, rfl⟩))
      refine x_setO (wr_catW (e := eD) (ex_v rfl) (w_repZ (e := eD) (wv_of (x := [prD 1 2]) (ex_frz (en_lst (ds := [prD 1 2]) (ea_cons ex_pr ea_nil) (Nat.le_of_ble_eq_true rfl))) (w_sub (w_add (wv_of (ex_sub ex_cI (ex_v rfl)) (w_drw (pb := pb) (pc := pc) rfl ex_cI (fun b' => .s (.s .z)) (by decide) fun y b8 y0 y1 => w_drw (pb := pb) (pc := pc) rfl ex_cI (fun b' => .s (.s .z)) (by decide) fun z b9 z0 z1 => ⟨⟨by omega, by omega, by show 1 * _ ≤ _; omega⟩, ds, .o (k := 0) rfl, ?_, fun r2 hr2 => ?_⟩))))))) (fun _ => .s (.s (.s (.s (.s (.s (.s (.s (.s (.s (.z)))))))))))
      · rw [rep1, List.length_replicate]; omega
      · refine nxt (ho_drop (k := 1) (m := .lst r ds) ?_ rfl (fun x hx => by rw [List.mem_singleton.mp hx]; exact hr))
        refine x_end ⟨r2, _, b9, hr2, ?_, ?_, rfl, rfl⟩
        · intro d hd
          rw [rep1] at hd
          rcases List.mem_append.mp hd with h | h
          · exact hds d h
          · obtain ⟨z, hz, rfl⟩ := List.mem_map.mp h
            rw [(List.mem_replicate.mp hz).2]
            exact (gd_pr (k := 2) (by unfold Bd; decide +kernel) (by unfold Bd; decide +kernel)).mono (by decide) (by decide)
        · rw [rep1, List.length_append, List.length_map, List.length_replicate]; omega
    rintro ε' L' ⟨r2, ds2, b8, hr2, hds2, hdl2, rfl, rfl⟩
    have fin : ∀ x : PyData, Gd 4 561 x → GdL 4 (1700 + 600 * (i + 1)) ((vs ++ [.tuple (l.map frQ)]) ++ [x]) := fun x hx => by
      have h1 : GdL 3 (l.length * (2 + 1)) (l.map frQ) := by
        have := gdl_all (ds := l.map frQ) (k := 3) (m := 2) fun d hd => by
          obtain ⟨z, hz, rfl⟩ := List.mem_map.mp hd
          exact gd_fr (k := 2) (hl.all z hz)
        rw [List.length_map] at this
        exact this
      exact (gdl_app (gdl_one hx) (gdl_app (gdl_one (gd_tup h1)) hg)).mono (Nat.le_refl _) (by omega)
    have hds3 : GdL 3 561 ds2 := (gdl_all hds2).mono (Nat.le_refl _) (by omega)
    have len1 : (vs ++ [PyData.tuple (l.map frQ)]).length < 100000 := by rw [List.length_append, hvl]; show _ + 1 < _; omega
    have len2 : ∀ x : PyData, ((vs ++ [PyData.tuple (l.map frQ)]) ++ [x]).length = 10 + 2 * (i + 1) := fun x => by rw [List.length_append, List.length_append, hvl]; show _ + 1 + 1 = _; omega
    refine x_appW (e := eD) (ex_v rfl) ⟨_, _, .s .z⟩ (w_if (wt_of (et_test (ex_eqI (ex_v rfl) ex_cI)) ⟨fun _ => wv_of (x := .list ds2) (ex_frzV (k := 0) rfl rfl hr2) ⟨_, _, .z, len1, nxt (x_end ⟨_, b8, fin _ (gd_lst hds3), len2 _, rfl, rfl⟩)⟩, fun _ => wv_of (x := .tuple ds2) (ex_tupL (ds := ds2) (ex_v rfl) (.o (k := 0) rfl)) ⟨_, _, .s .z, len1, nxt (ho_off hr2 (x_end ⟨_, b8, fin _ (gd_tup hds3), len2 _, rfl, rfl⟩))⟩⟩))
  · rintro v ε' L' ⟨vs, b, hg, hvl, rfl, rfl⟩
    have hg : GdL 4 12500 vs := hg
    have hvl : vs.length = 46 := hvl
    have hsh := (gd_lst hg).show (by decide) (by decide)
    refine nxt (ho_drop (k := 2) (m := .know v (.list (ways.map PyData.int))) ?_ rfl (fun x hx => nomatch hx))
    show Ho B _ _ [.lst p vs, b.at pb pc]
    refine ho_frz (i := 1) (ε' := [bagv pb, dv (.list vs), dv (.list someL), none, none, none, none, none, none, none, none, none, none, none]) hp rfl rfl ?_
    have comp : ∀ {ε : Eps} {L : Own}, True := trivial
    refine x_seq (x_par (a := .d (.list (vs.map meansErr))) (ea_cons (ex_is (ex_frz (en_lcLP (xs := vs) (fun _ => true) meansErr (fun d => [bagv pb, dv (.list vs), dv (.list someL), none, none, none, dv d, none, none, none, none, none, none, none]) (ex_v rfl) (by omega) (gw_name (by simp)) (fun d hd => gt_name) (fun d hd m => et_yes) (fun d hd _ m => ex_err (ex_v rfl)))) (by rw [filter_yes])) (ea_cons (ex_repN (ex_v rfl) hsh.1 hsh.2.1 hsh.2.2) ea_nil)) ?_)
    refine nxt (x_seq (x_forZL (ds := vs) (es := vs.map meansErr) (ea_cons (ex_v rfl) (ea_cons (ex_v rfl) ea_nil)) (by rw [List.length_map]; exact Nat.le_refl _) (fun u1 u2 i ε L => ε = [bagv pb, dv (.list vs), dv (.list someL), none, dv (.list (vs.map meansErr)), dv (.str (PyData.list vs).shown), none, none, none, none, none, none, none, none] ∧ L = [b.at pb pc, .know u1 (.list vs), .know u2 (.list (vs.map meansErr))]) (fun u1 u2 => ⟨rfl, rfl⟩) (fun u1 u2 i ε' L' ⟨_, h⟩ => by rw [h]; simp) ?_ ?_))
    · rintro u1 u2 i d e ε' L' hd he ⟨rfl, rfl⟩
      rw [List.getElem?_map, hd] at he
      cases he
      exact ⟨_, gt_tup2, x_skip (et_noT (ex_same (d := meansErr d) (ex_err (ex_v rfl)) (ex_v rfl) (ok_err d))) (nxt (x_end ⟨rfl, rfl⟩))⟩
    · rintro u1 u2 ε' L' ⟨rfl, rfl⟩
      refine nxt (ho_drop (k := 2) (m := .know u2 (.list (vs.map meansErr))) ?_ rfl (fun x hx => nomatch hx))
      show Ho B _ _ [b.at pb pc, .know u1 (.list vs)]
      refine ho_drop (k := 1) (m := .know u1 (.list vs)) ?_ rfl (fun x hx => nomatch hx)
      show Ho B _ _ [b.at pb pc]
      refine x_seq (x_set (a := .d (.list (vs.map meansErr))) (ex_is (ex_frz (en_lcLP (xs := vs) (fun _ => true) meansErr (fun d => [bagv pb, dv (.list vs), dv (.list someL), none, dv (.list (vs.map meansErr)), dv (.str (PyData.list vs).shown), dv d, none, none, none, none, none, none, none]) (ex_v rfl) (by omega) (gw_name (by simp)) (fun d hd => gt_name) (fun d hd m => et_yes) (fun d hd _ m => ex_errK (ex_v rfl)))) (by rw [filter_yes])) ?_)
      have ok : okS 3 (.tuple (vs.map meansErr)) := ⟨by rw [List.length_map]; omega, fun x hx => by
        obtain ⟨z, _, rfl⟩ := List.mem_map.mp hx
        exact ok_err z⟩
      exact nxt (x_retG q (wv_of (x := true) (ex_andV (b := true) (c := true) (ex_boolE (ex_eqS (ex_repN (ex_v rfl) hsh.1 hsh.2.1 hsh.2.2) (ex_v rfl)) (decide_eq_true rfl)) (fun _ => ex_same (d := .tuple (vs.map meansErr)) (ex_tupL (ds := vs.map meansErr) (ex_v rfl) .d) (ex_tupL (ds := vs.map meansErr) (ex_v rfl) .d) ok) (fun h => nomatch h)) ⟨rfl, b, List.mem_cons_self⟩))
end K82

/-! ## B19 -/
set_option Elab.async false
set_option linter.all false
set_option maxRecDepth 100000
set_option maxHeartbeats 4000000
set_option autoImplicit false
namespace Fz
open PySem L2
section
variable {B : Bg} {ε : Eps} {L : Own} {te ta tb : TE} {tt : TT}
theorem wr_if {κ : Addr → Own → Prop} (h : WT B tt ε L fun b L1 => (b = true → WR B ta ε L1 κ) ∧ (b = false → WR B tb ε L1 κ)) : WR B (tIf tt ta tb) ε L κ := fun F σ H r Q q => h F σ H r _ fun b L1 F1 H1 k s1 r1 => by
  cases b with
  | true => exact k.1 rfl F1 σ H1 r1 Q fun x L' F' H' c s r' => q x L' F' H' c (s1.tr s) r'
  | false => exact k.2 rfl F1 σ H1 r1 Q fun x L' F' H' c s r' => q x L' F' H' c (s1.tr s) r'
theorem wr_mono {κ κ' : Addr → Own → Prop} (h : WR B te ε L κ) (k : ∀ p L', κ p L' → κ' p L') : WR B te ε L κ' := fun F σ H r Q q => h F σ H r Q fun p L' F' H' c => q p L' F' H' (k p L' c)
end
end Fz
namespace K82
open PySem L2 Fz K80 Means
variable {P : Program} {w : World} {K : PySem.W.Frag} {mg : Str → Option Value} {base : Heap} {f : Addr} {fd : FuncData}
abbrev Ask := Means.Kind × Bool × List Rat
def ask (y : Ask) : PyData := .tuple [eK y.1, .bool y.2.1, eT frQ y.2.2, eT frQ (turned y.1 y.2.1 y.2.2)]
def numsL (k : Means.Kind) (b : Bool) : PyData := eL (eL pairE) ((List.range 9).map (numsAt k b))
section
variable {B : Bg} {ε : Eps} {L La Lb : Own} {te ta tb : TE} {E : XK}
theorem ex_numbers {k : Means.Kind} {b : Bool} (h : EX B ta ε L (.d (eK k)) La) (h2 : EX B tb ε La (.d (.bool b)) Lb) : EX B (tCall (S_law_numbers B.K) [] E (tCons ta (tCons tb tNil))) ε L (.d (numsL k b)) Lb :=
  ex_of (e := eL (eL pairE)) (a := (List.range 9).map (numsAt k b)) fun κ kk => w_callD (wa_x h (wa_x h2 (wa_nil ⟨(k, b), rfl, trivial, fun x hx => hx ▸ kk⟩)))
theorem ex_turned {k : Means.Kind} {b : Bool} {l : List Rat} (h : EX B ta ε L (.d (numsL k b)) La) (h2 : EX B tb ε La (.d (eT frQ l)) Lb) (hl : RowL l) : EX B (tCall (S_law_turned B.K) [] E (tCons ta (tCons tb tNil))) ε L (.d (eT frQ (turned k b l))) Lb :=
  ex_of (e := eT frQ) fun κ kk => w_callD (wa_x h (wa_x h2 (wa_nil ⟨(k, b, l), rfl, hl, fun x hx => hx ▸ kk⟩)))
end
theorem row_gd {l : List Rat} (h : RowL l) : Gd 3 24 (eT frQ l) := by
  have h1 : GdL 2 (l.length * (2 + 1)) (l.map frQ) := by
    have := gdl_all (ds := l.map frQ) (k := 2) (m := 2) fun d hd => by
      obtain ⟨z, hz, rfl⟩ := List.mem_map.mp hd
      exact gd_fr (k := 1) (h.all z hz)
    rw [List.length_map] at this
    exact this
  exact (gd_tup h1).mono (Nat.le_refl _) (by have := h.len; omega)
abbrev S_law_all (K : PySem.W.Frag) : Sp := spLaw K
abbrev S_law (K : PySem.W.Frag) : Sp := spLaw K
theorem okd_law_all (Fn : Fun K "_law_all" "_law_all" s_law_all f fd) (T : Bt P mg base) (D_law_own_bag : Df P w K mg base 41 "_law_own_bag" ["script"] (S_law_own_bag K)) (D_law_pick : Df P w K mg base 42 "_law_pick" ["bag", "some"] (S_law_pick K)) (D_law_are_words_right : GDf P w K mg base 45 "_law_are_words_right" ["bag"] (S_law_are_words_right K)) (D_law_draw : Df P w K mg base 41 "_law_draw" ["bag", "below"] (S_law_draw K)) (D_law_numbers : Df P w K mg base 42 "_law_numbers" ["kind", "is_back"] (S_law_numbers K)) (D_law_are_steps_kept : Df P w K mg base 49 "_law_are_steps_kept" ["kind", "parts"] (S_law_are_steps_kept K)) (D_law_same : Df P w K mg base 44 "_law_same" ["told", "due"] (S_law_same K)) (D_law_row : Df P w K mg base 43 "_law_row" ["bag", "n", "mode"] (S_law_row K)) (D_law_turned : Df P w K mg base 42 "_law_turned" ["numbers", "own"] (S_law_turned K)) (D_parts_of_means : Df P w K mg base 48 "parts_of_means" ["kind", "means"] (S_parts_of_means K)) (D_means_of_parts : Df P w K mg base 48 "means_of_parts" ["kind", "parts"] (S_means_of_parts K)) (D_law_is_turned : Df P w K mg base 49 "_law_is_turned" ["bag", "kind", "is_back", "own", "due", "is_named"] (S_law_is_turned K)) : GOk P w K mg base 50 f fd ["script"] (S_law_all K) := by
  refine g_S Fn sc_law_all (by decide) fun cdv A outer s H hr hG => ⟨_, (pss_cons (ps_set (i := 1) sc_law_all.nd rfl (.inl rfl) (pe_callD D_law_own_bag (hr.mono (by decide)) (by rfl) (pa_cons (pv 0) pa_nil)))
      (pss_cons (ps_set (i := 2) sc_law_all.nd rfl (.inl rfl) (pe_callD D_law_pick (hr.mono (by decide)) (by rfl) (pa_cons (pv 1) (pa_cons (pe_lst (pa_cons (pe_lst (pa_cons pe_str (pa_cons pe_str (pa_cons pe_str pa_nil)))) (pa_cons (pe_lst (pa_cons pe_str (pa_cons pe_str (pa_cons pe_str pa_nil)))) (pa_cons (pe_lst (pa_cons pe_str (pa_cons pe_str (pa_cons pe_str pa_nil)))) pa_nil)))) pa_nil))))
      (pss_cons (ps_par (i := 3) (j := 4) (by rfl) sc_law_all.nd rfl rfl (by decide) rfl rfl (pa_cons (pe_callD D_law_draw (hr.mono (by decide)) (by rfl) (pa_cons (pv 1) (pa_cons pe_int pa_nil))) (pa_cons (pe_lst pa_nil) pa_nil)) (by rfl))
      (pss_cons (ps_for PassesOwn.never rfl (pi_enum (by rfl) T.n_enumerate (pa_cons (pv 2) pa_nil)) (pg_tup rfl (pgs_cons (pg_name (i := 5) sc_law_all.nd rfl (Or.inl rfl)) (pgs_cons (pg_name (i := 6) sc_law_all.nd rfl (Or.inl rfl)) pgs_nil))) (pss_cons (ps_par (i := 10) (j := 11) (by rfl) sc_law_all.nd rfl rfl (by decide) rfl rfl (pa_cons (pe_cmpR op_eq (pe_callD D_law_draw (hr.mono (by decide)) (by rfl) (pa_cons (pv 1) (pa_cons pe_int pa_nil))) pe_int (nomark _)) (pa_cons (pe_cmpR op_eq (pe_callD D_law_draw (hr.mono (by decide)) (by rfl) (pa_cons (pv 1) (pa_cons pe_int pa_nil))) pe_int (nomark _)) pa_nil)) (by rfl))
      (pss_cons (ps_for PassesOwn.never rfl (pi_list (pe_lst (pa_cons pe_bl (pa_cons pe_bl pa_nil)))) (pg_name (i := 7) sc_law_all.nd rfl (Or.inl rfl)) (pss_cons (ps_set (i := 12) sc_law_all.nd rfl (.inl rfl) (pe_callD D_law_numbers (hr.mono (by decide)) (by rfl) (pa_cons (pv 6) (pa_cons (pv 7) pa_nil))))
      (pss_cons (ps_set (i := 13) sc_law_all.nd rfl (.inl rfl) (pe_ifExp (pt_cmpR op_eq (pv 7) (pv 10) (nomark _)) (pe_lst (pa_cons pe_str pa_nil)) (pe_lst (pa_cons (pe_callD D_law_pick (hr.mono (by decide)) (by rfl) (pa_cons (pv 1) (pa_cons (pe_lst (pa_cons pe_str (pa_cons pe_str (pa_cons pe_str pa_nil)))) pa_nil))) pa_nil))))
      (Evl.pss_cut (ps_if (PW.pt (pw_and (pt_cmpR op_eq (pv 5) (pv 3) (nomark _)) (pw_and1 (pt_cmpR op_eq (pv 7) (pv 11) (nomark _))))) (pss_one (ps_expr (pe_bm PySem.F.plainAttrs_list PySem.F.slot_list_append PySem.F.type_list_append mt_append (pv 13) (pa_cons pe_str pa_nil)))) pss_nil)
      (pss_one (ps_for PassesOwn.never rfl (pi_list (pv 13)) (pg_name (i := 14) sc_law_all.nd rfl (Or.inl rfl)) (pss_cons (ps_set (i := 15) sc_law_all.nd rfl (.inl rfl) (pe_ifExp (pt_cmpR op_eq (pe_callD D_law_draw (hr.mono (by decide)) (by rfl) (pa_cons (pv 1) (pa_cons pe_int pa_nil))) pe_int (nomark _)) pe_int (pe_callD D_law_draw (hr.mono (by decide)) (by rfl) (pa_cons (pv 1) (pa_cons pe_int pa_nil)))))
      (pss_cons (ps_set (i := 8) sc_law_all.nd rfl (.inl rfl) (pe_callD D_law_row (hr.mono (by decide)) (by rfl) (pa_cons (pv 1) (pa_cons (pv 15) (pa_cons (pv 14) pa_nil)))))
      (pss_cons (ps_par (i := 9) (j := 16) (by rfl) sc_law_all.nd rfl rfl (by decide) rfl rfl (pa_cons (pe_callD D_law_turned (hr.mono (by decide)) (by rfl) (pa_cons (pv 12) (pa_cons (pv 8) pa_nil))) (pa_cons (pe_callB (r := rReprN K) (call_reprN hr hG T.hpl.1) (by rfl) T.n_repr (by decide +kernel) (pa_cons (pv 8) pa_nil)) pa_nil)) (by rfl))
      (pss_cons (ps_if (PW.pt (pw_or (pt_not (pt_val (pe_callD D_law_is_turned (hr.mono (by decide)) (by rfl) (pa_cons (pv 1) (pa_cons (pv 6) (pa_cons (pv 7) (pa_cons (pv 8) (pa_cons (pv 9) (pa_cons (pe_cmpR op_eq (pe_callD D_law_draw (hr.mono (by decide)) (by rfl) (pa_cons (pv 1) (pa_cons pe_int pa_nil))) pe_int (nomark _)) pa_nil))))))))) (pw_or1 (pt_cmpR op_ne (pe_callB (r := rReprN K) (call_reprN hr hG T.hpl.1) (by rfl) T.n_repr (by decide +kernel) (pa_cons (pv 8) pa_nil)) (pv 16) (nomark _))))) (pss_one (ps_ret pe_bl)) pss_nil)
      (pss_one (ps_expr (pe_bm PySem.F.plainAttrs_list PySem.F.slot_list_append PySem.F.type_list_append mt_append (pv 4) (pa_cons (pe_tup (pa_cons (pv 6) (pa_cons (pv 7) (pa_cons (pv 8) (pa_cons (pv 9) pa_nil))))) pa_nil))))))))))))))
      (pss_one (ps_if (pt_not (pt_val (pe_callD D_law_are_steps_kept (hr.mono (by decide)) (by rfl) (pa_cons (pv 6) (pa_cons (pe_callD D_law_row (hr.mono (by decide)) (by rfl) (pa_cons (pv 1) (pa_cons (pe_callD D_law_draw (hr.mono (by decide)) (by rfl) (pa_cons (pv 1) (pa_cons pe_int pa_nil))) (pa_cons pe_str pa_nil)))) pa_nil))))) (pss_one (ps_ret pe_bl)) pss_nil)))))
      (pss_cons (ps_for PassesOwn.never rfl (pi_list (pv 4)) (pg_tup rfl (pgs_cons (pg_name (i := 6) sc_law_all.nd rfl (Or.inl rfl)) (pgs_cons (pg_name (i := 7) sc_law_all.nd rfl (Or.inl rfl)) (pgs_cons (pg_name (i := 8) sc_law_all.nd rfl (Or.inl rfl)) (pgs_cons (pg_name (i := 9) sc_law_all.nd rfl (Or.inl rfl)) pgs_nil))))) (pss_one (ps_if (pt_not (pt_val (pe_callD D_law_same (hr.mono (by decide)) (by rfl) (pa_cons (pe_ifExp (pt_val (pv 7)) (pe_callD D_parts_of_means (hr.mono (by decide)) (by rfl) (pa_cons (pv 6) (pa_cons (pv 8) pa_nil))) (pe_callD D_means_of_parts (hr.mono (by decide)) (by rfl) (pa_cons (pv 6) (pa_cons (pv 8) pa_nil)))) (pa_cons (pv 9) pa_nil))))) (pss_one (ps_ret pe_bl)) pss_nil)))
      (pss_one (ps_ret (pe_callG hG D_law_are_words_right (hr.mono (by decide)) (by rfl) (pa_cons (pv 1) pa_nil))))))))), ?_⟩
  rintro B Q a ns rfl hl q
  show Ho B _ [bagv a, none, none, none, none, none, none, none, none, none, none, none, none, none, none, none, none] [.seq a (ns.map PyData.int)]
  refine x_seq (x_setOwn (k := 0) (ex_v rfl) rfl hl fun pb pc b hpb hpc => ?_)
  refine x_sq (x_setV (w_pck (e := eL eK) (xs := [[.all, .unc, .rows], [.rows, .unc, .all], [.unc, .all, .rows]]) (pb := pb) (pc := pc) rfl (ex_frz (en_lst (ds := [eL eK [.all, .unc, .rows], eL eK [.rows, .unc, .all], eL eK [.unc, .all, .rows]]) (ea_cons (ex_frz (en_lst (ds := [eK .all, eK .unc, eK .rows]) (ea_cons ex_cS (ea_cons ex_cS (ea_cons ex_cS ea_nil))) (Nat.le_of_ble_eq_true rfl))) (ea_cons (ex_frz (en_lst (ds := [eK .rows, eK .unc, eK .all]) (ea_cons ex_cS (ea_cons ex_cS (ea_cons ex_cS ea_nil))) (Nat.le_of_ble_eq_true rfl))) (ea_cons (ex_frz (en_lst (ds := [eK .unc, eK .all, eK .rows]) (ea_cons ex_cS (ea_cons ex_cS (ea_cons ex_cS ea_nil))) (Nat.le_of_ble_eq_true rfl))) ea_nil))) (Nat.le_of_ble_eq_true rfl))) (fun b' => .z) (by simp) (by decide) fun kinds b1 hkinds => ?_) (fun _ => .s (.s (.z))))
  have hk3 : kinds.length = 3 := by
    simp only [List.mem_cons, List.not_mem_nil, or_false] at hkinds
    rcases hkinds with rfl | rfl | rfl <;> rfl
  refine x_sq (x_parW (wa_v (e := PyData.int) (w_drw (pb := pb) (pc := pc) rfl ex_cI (fun b' => .z) (by decide) fun great b2 g0 g1 => wa_cons (wx_r (wr_of (en_lst (ds := []) ea_nil (Nat.zero_le _)) fun p hp => wa_nil ⟨_, _, rfl, ?_⟩)))))
  refine x_sq (x_forE (ds := kinds.map eK) (ea_cons (ex_v rfl) ea_nil) (fun v i ε L => ∃ (ys : List Ask) (b : Bag), (∀ y ∈ ys, RowL y.2.2) ∧ ys.length ≤ 4 * i ∧ ε = [bagv a, bagv pb, dv (eL eK kinds), iv great, lref p, none, none, none, none, none, none, none, none, none, none, none, none] ∧ L = [.lst p (ys.map ask), b.at pb pc, .seq a (ns.map PyData.int), .know v (.list (kinds.map eK))]) (fun v => ⟨[], b2, (fun _ h => nomatch h), Nat.zero_le _, rfl, rfl⟩) (fun v i ε' L' ⟨_, _, _, _, _, h⟩ => by rw [h]; simp) ?_ ?_)
  · rintro v i d ε' L' hd ⟨ys, b, hys, hyl, rfl, rfl⟩
    obtain ⟨k, hk, rfl⟩ := map_at hd
    have hi := (List.getElem?_eq_some_iff.mp hk).1
    refine ⟨_, gt_tup2 (d := .int (i : Int)) (e := eK k), x_seq (x_parW (wa_v (e := PyData.bool) (w_eq (w_drw (pb := pb) (pc := pc) rfl ex_cI (fun b' => .s .z) (by decide) fun x b3 x0 x1 => wv_of ex_cI (wa_v (e := PyData.bool) (w_eq (w_drw (pb := pb) (pc := pc) rfl ex_cI (fun b' => .s .z) (by decide) fun y b4 y0 y1 => wv_of ex_cI (wa_nil ⟨_, _, rfl, ?_⟩))))))))⟩
    generalize decide (x = 0) = flip
    generalize decide (y = 0) = trn
    refine nxt (x_seq (x_forL (ds := [false, true].map PyData.bool) (ex_frz (en_lst (ds := [.bool false, .bool true]) (ea_cons ex_cB (ea_cons ex_cB ea_nil)) (Nat.le_of_ble_eq_true rfl))) (fun u t ε L => ∃ (ys : List Ask) (b : Bag), (∀ y ∈ ys, RowL y.2.2) ∧ ys.length ≤ 4 * i + 2 * t ∧ ε = [bagv a, bagv pb, dv (eL eK kinds), iv great, lref p, iv (i : Int), kv k, none, none, none, bv flip, bv trn, none, none, none, none, none] ∧ L = [.lst p (ys.map ask), b.at pb pc, .seq a (ns.map PyData.int), .know v (.list (kinds.map eK)), .know u (.list ([false, true].map PyData.bool))]) (fun u => ⟨ys, b4, hys, by omega, rfl, rfl⟩) (fun u t ε' L' ⟨_, _, _, _, _, h⟩ => by rw [h]; simp) ?_ ?_))
    · rintro u t d ε' L' hd ⟨ys, b, hys, hyl, rfl, rfl⟩
      obtain ⟨back, hback, rfl⟩ := map_at hd
      have ht : t < 2 := (List.getElem?_eq_some_iff.mp hback).1
      refine ⟨_, gt_name, x_seq (x_set (a := .d (numsL k back)) (ex_numbers (ex_v rfl) (ex_v rfl)) ?_)⟩
      refine nxt (x_seq (x_setO (wr_mono (κ := fun r L1 => r ∉ B.M ∧ ∃ (m : Str) (b : Bag), L1 = [.lst r [.str m], .lst p (ys.map ask), b.at pb pc, .seq a (ns.map PyData.int), .know v (.list (kinds.map eK)), .know u (.list ([false, true].map PyData.bool))]) (wr_if (wt_of (et_test (ex_eqB (ex_v rfl) (ex_v rfl))) ⟨fun _ => wr_of (en_lst (ds := [.str "small"]) (ea_cons ex_cS ea_nil) (Nat.le_of_ble_eq_true rfl)) fun r hr => ⟨hr, _, b, rfl⟩, fun _ => w_lst (wa_v (e := PyData.str) (w_pck (e := PyData.str) (xs := ["middle", "integers", "tops"]) (pb := pb) (pc := pc) rfl (ex_frz (en_lst (ds := [.str "middle", .str "integers", .str "tops"]) (ea_cons ex_cS (ea_cons ex_cS (ea_cons ex_cS ea_nil))) (Nat.le_of_ble_eq_true rfl))) (fun b' => .s .z) (by simp) (by decide) fun m b5 hm => wa_nil ⟨[.str m], rfl, Nat.le_of_ble_eq_true rfl, fun r hr => ⟨hr, _, b5, rfl⟩⟩))⟩)) fun r L1 ⟨hr, m, b5, hL⟩ => ?_) (fun _ => .s (.s (.s (.s (.s (.s (.s (.s (.s (.s (.s (.s (.s (.z))))))))))))))))
      subst hL
      refine nxt (x_cut (M := fun ε L => ∃ ms : List Str, ms.length ≤ 2 ∧ ε = [bagv a, bagv pb, dv (eL eK kinds), iv great, lref p, iv (i : Int), kv k, bv back, none, none, bv flip, bv trn, dv (numsL k back), lref r, none, none, none] ∧ L = [.lst r (ms.map PyData.str), .lst p (ys.map ask), b5.at pb pc, .seq a (ns.map PyData.int), .know v (.list (kinds.map eK)), .know u (.list ([false, true].map PyData.bool))]) ?_ ?_)
      · refine x_if (et_and (et_test (ex_eqI (ex_v rfl) (ex_v rfl))) (fun _ => et_test (ex_eqB (ex_v rfl) (ex_v rfl))) (fun _ => rfl)) (fun _ => ?_) fun _ => x_next (nxt (x_end ⟨[m], Nat.le_of_ble_eq_true rfl, rfl, rfl⟩))
        exact x_appW (e := PyData.str) (ex_v rfl) ⟨_, _, .z⟩ (wv_of (x := ("great" : Str)) ex_cS ⟨_, _, .z, Nat.lt_of_le_of_lt (Nat.le_refl 1) (by decide), nxt (x_end ⟨[m, "great"], Nat.le_of_ble_eq_true rfl, rfl, rfl⟩)⟩)
      rintro ε' L' ⟨ms, hms, rfl, rfl⟩
      refine x_forO (p := r) (ds := ms.map PyData.str) (ex_v rfl) (fun s ε L => ∃ (ys : List Ask) (b : Bag), (∀ y ∈ ys, RowL y.2.2) ∧ ys.length ≤ 4 * i + 2 * t + s ∧ ε = [bagv a, bagv pb, dv (eL eK kinds), iv great, lref p, iv (i : Int), kv k, bv back, none, none, bv flip, bv trn, dv (numsL k back), lref r, none, none, none] ∧ L = [.lst r (ms.map PyData.str), .lst p (ys.map ask), b.at pb pc, .seq a (ns.map PyData.int), .know v (.list (kinds.map eK)), .know u (.list ([false, true].map PyData.bool))]) ⟨ys, b5, hys, by omega, rfl, rfl⟩ (fun s ε' L' ⟨_, _, _, _, _, h⟩ => by rw [h]; exact List.mem_cons_self) ?_ ?_
      · rintro s d ε' L' hd ⟨ys, b, hys, hyl, rfl, rfl⟩
        obtain ⟨mode, hmode, rfl⟩ := map_at hd
        have hs := (List.getElem?_eq_some_iff.mp hmode).1
        refine ⟨_, gt_name, x_seq (x_setV (wv_mono (κ := fun z L1 => ∃ (n : Nat) (b : Bag), z = (n : Int) ∧ n ≤ 8 ∧ L1 = [.lst r (ms.map PyData.str), .lst p (ys.map ask), b.at pb pc, .seq a (ns.map PyData.int), .know v (.list (kinds.map eK)), .know u (.list ([false, true].map PyData.bool))]) (w_if (wt_test (w_eq (w_drw (pb := pb) (pc := pc) rfl ex_cI (fun b' => .s (.s .z)) (by decide) fun y b6 y0 y1 => wv_of ex_cI ⟨fun _ => wv_of (x := (8 : Int)) ex_cI ⟨8, b6, rfl, Nat.le_refl _, rfl⟩, fun _ => w_drw (pb := pb) (pc := pc) rfl ex_cI (fun b' => .s (.s .z)) (by decide) fun z b7 z0 z1 => ⟨z.toNat, b7, by omega, by omega, rfl⟩⟩)))) fun z L1 ⟨n, b8, hz, hn, hL⟩ => ?_) (fun _ => .s (.s (.s (.s (.s (.s (.s (.s (.s (.s (.s (.s (.s (.s (.s (.z)))))))))))))))))⟩
        subst hz hL
        refine nxt (x_seq (x_setV (w_callG (pb := pb) (pc := pc) (wa_x (ex_v rfl) (wa_x (ex_v rfl) (wa_x (ex_v rfl) (wa_nil ⟨(n, mode), b8, _, rfl, fun b' => .s (.s .z), hn, fun own b9 hown => ?_⟩))))) (fun _ => .s (.s (.s (.s (.s (.s (.s (.s (.z)))))))))))
        have hrow : RowL own := ⟨by rw [hown.len]; exact hn, hown.all⟩
        have hsh := (row_gd hrow).show (by decide) (by decide)
        refine nxt (x_seq (x_par (ea_cons (ex_turned (ex_v rfl) (ex_v rfl) hrow) (ea_cons (ex_repN (ex_v rfl) hsh.1 hsh.2.1 hsh.2.2) ea_nil)) ?_))
        refine nxt (x_seq (x_skipW (wt_orF (wt_noT (w_callG (pb := pb) (pc := pc) (wa_x (ex_v rfl) (wa_x (ex_v rfl) (wa_x (ex_v rfl) (wa_x (ex_v rfl) (wa_x (ex_v rfl) (wa_v (e := PyData.bool) (w_eq (w_drw (pb := pb) (pc := pc) rfl ex_cI (fun b' => .s (.s .z)) (by decide) fun x b10 x0 x1 => wv_of ex_cI (wa_nil ⟨(k, back, own, decide (x = 0)), b10, _, rfl, fun b' => .s (.s .z), hrow, fun x b11 hx => ⟨hx, rfl, wt_of (et_is (et_test (ex_neS (ex_repN (ex_v rfl) hsh.1 hsh.2.1 hsh.2.2) (ex_v rfl))) (by rw [decide_eq_true rfl]; rfl)) ⟨rfl, ?_⟩⟩⟩))))))))))))))
        refine nxt (x_appW (e := ask) (ex_v rfl) ⟨_, _, .s .z⟩ (wv_of (x := (k, back, own)) (ex_tup (ds := [eK k, .bool back, eT frQ own, eT frQ (turned k back own)]) (ea_cons (ex_v rfl) (ea_cons (ex_v rfl) (ea_cons (ex_v rfl) (ea_cons (ex_v rfl) ea_nil)))) (Nat.le_of_ble_eq_true rfl)) ⟨_, _, .s .z, by rw [List.length_map]; omega, nxt (x_end ⟨ys ++ [(k, back, own)], b11, fun y hy => ?_, by rw [List.length_append]; show _ + 1 ≤ _; omega, rfl, by rw [List.map_append]; rfl⟩)⟩))
        rcases List.mem_append.mp hy with h | h
        · exact hys y h
        · rw [List.mem_singleton.mp h]; exact hrow
      · rintro ε' L' ⟨ys, b, hys, hyl, rfl, rfl⟩
        rw [List.length_map] at hyl
        exact nxt (ho_off hr (x_end ⟨ys, b, hys, by omega, rfl, rfl⟩))
    · rintro u ε' L' ⟨ys, b, hys, hyl, rfl, rfl⟩
      have hyl : ys.length ≤ 4 * i + 2 * 2 := hyl
      refine nxt (ho_drop (k := 4) (m := .know u (.list ([false, true].map PyData.bool))) ?_ rfl (fun x hx => nomatch hx))
      show Ho B _ _ [.lst p (ys.map ask), b.at pb pc, .seq a (ns.map PyData.int), .know v (.list (kinds.map eK))]
      refine x_skipW (wt_noT (w_callD (wa_x (ex_v rfl) (wa_v (e := eT frQ) (w_callG (pb := pb) (pc := pc) (wa_x (ex_v rfl) (wa_v (e := PyData.int) (w_drw (pb := pb) (pc := pc) rfl ex_cI (fun b' => .s .z) (by decide) fun z b6 z0 z1 => wa_x ex_cS (wa_nil ⟨(z.toNat, "integers"), b6, _, ?_, fun b' => .s .z, by show z.toNat ≤ 8; omega, fun l b7 hl => wa_nil ⟨(k, l), rfl, ⟨⟨by show l.length ≤ 8; rw [hl.len]; show z.toNat ≤ 8; omega, hl.all⟩, hl.one rfl⟩, fun x hx => ⟨hx, rfl, ?_⟩⟩⟩)))))))))
      · show [AD.v (.ref pb), AD.d (.int z), AD.d (.str "integers")] = [AD.v (.ref pb), AD.d (.int ((z.toNat : Nat) : Int)), AD.d (.str "integers")]
        rw [Int.toNat_of_nonneg z0]
      · exact nxt (x_end ⟨ys, b7, hys, by omega, rfl, rfl⟩)
  · rintro v ε' L' ⟨ys, b, hys, hyl, rfl, rfl⟩
    refine nxt (ho_drop (k := 3) (m := .know v (.list (kinds.map eK))) ?_ rfl (fun x hx => nomatch hx))
    show Ho B _ _ [.lst p (ys.map ask), b.at pb pc, .seq a (ns.map PyData.int)]
    refine x_seq (x_forO (p := p) (ds := ys.map ask) (ex_v rfl) (fun i ε L => ε = [bagv a, bagv pb, dv (eL eK kinds), iv great, lref p, none, none, none, none, none, none, none, none, none, none, none, none] ∧ L = [.lst p (ys.map ask), b.at pb pc, .seq a (ns.map PyData.int)]) ⟨rfl, rfl⟩ (fun i ε' L' ⟨_, h⟩ => by rw [h]; exact List.mem_cons_self) ?_ ?_)
    · rintro i d ε' L' hd ⟨rfl, rfl⟩
      obtain ⟨⟨k, back, own⟩, hy, rfl⟩ := map_at hd
      have hrow : RowL own := hys _ (List.mem_of_getElem? hy)
      have h8 := hrow.len
      refine ⟨_, gt_tup4, x_skip (et_noT (ex_same (d := eT frQ (turned k back own)) (ex_if (b := back) (et_test (ex_v rfl)) (fun h => ex_is (ex_parts (k := k) (l := own) (ex_v rfl) (ex_v rfl) hrow) (by rw [parts_due k h8, h])) (fun h => ex_is (ex_means (k := k) (l := own) (ex_v rfl) (ex_v rfl) hrow) (by rw [means_due k h8, h]))) (ex_v rfl) (ok_row (by rw [turned_len]; omega)))) (nxt (x_end ⟨rfl, rfl⟩))⟩
    · rintro ε' L' ⟨rfl, rfl⟩
      exact nxt (x_retS q (w_callG (pb := pb) (pc := pc) (wa_x (ex_v rfl) (wa_nil ⟨(), b, _, rfl, fun b' => .s .z, trivial, fun x b' hx => hx⟩))))
theorem okd_law (Fn : Fun K "law" "law" s_law f fd) (T : Bt P mg base) (D_law_all : GDf P w K mg base 50 "_law_all" ["script"] (S_law_all K)) : GOk P w K mg base 51 f fd ["script"] (S_law K) := by
  refine g_S Fn sc_law (by decide) fun cdv A outer s H hr hG => ⟨_, (pss_one (ps_try_thru0 (pss_one (ps_ret (pe_callG hG D_law_all (hr.mono (by decide)) (by rfl) (pa_cons (pv 0) pa_nil)))))), ?_⟩
  rintro B Q a ns rfl hl q
  exact x_retLaw q rfl .z hl
end K82

/-! ## Fin82 -/
set_option Elab.async false
set_option linter.all false
set_option maxRecDepth 100000
set_option maxHeartbeats 4000000
set_option autoImplicit false
namespace K82
open PySem L2 Fz
theorem kb1 {K : PySem.W.Frag} {fd : FuncData} {ps ks : List Str} {idx : List Nat} (hp : ps.length = 1) (h : ∀ a : Value, bindArgs fd ⟨[], ks.zip [a]⟩ = pure (ps.zip (kwG 1 idx [] [a]))) : KBinds K fd ps ks (kwG 1 idx) (kwG 1 idx) :=
  ⟨fun s us ws _ hl => by
    obtain ⟨rfl, hw⟩ := kwG_shape (m := 0) (hl.trans hp)
    match ws, hw with
    | [a], _ => exact .of_eq (h a), fun r q => kwG_vals r q⟩
theorem kb4 {K : PySem.W.Frag} {fd : FuncData} {ps ks : List Str} {idx : List Nat} (hp : ps.length = 4) (h : ∀ a b c d : Value, bindArgs fd ⟨[], ks.zip [a, b, c, d]⟩ = pure (ps.zip (kwG 4 idx [] [a, b, c, d]))) : KBinds K fd ps ks (kwG 4 idx) (kwG 4 idx) :=
  ⟨fun s us ws _ hl => by
    obtain ⟨rfl, hw⟩ := kwG_shape (m := 3) (hl.trans hp)
    match ws, hw with
    | [a, b, c, d], _ => exact .of_eq (h a b c d), fun r q => kwG_vals r q⟩
theorem all_mk {l : PySem.W.OpenLaw} {w : World} {K : PySem.W.Frag} {h : Heap} {mg : Str → Option Value} {fa : Addr} (X : K.In h) (G : h.Ns mainGlobals mg) (hfa : mg "law" = some (.ref fa)) (ht : l.prog.given.tree = none)
    {f0 f1 f2 f3 f4 f5 f6 f7 f8 f9 f10 f11 f12 f13 f14 f15 f16 f17 f18 f19 f20 f21 f22 f23 f24 f25 f26 f27 f28 f29 f30 f31 f32 f33 f34 f35 f36 : Addr} {od0 an0 od1 an1 od2 an2 od3 an3 od4 an4 od5 an5 od6 an6 od7 an7 od8 an8 od9 an9 od10 an10 od11 an11 od12 an12 od13 an13 od14 an14 od15 an15 od16 an16 od17 an17 od18 an18 od19 an19 od20 an20 od21 an21 od22 an22 od23 an23 od24 an24 od25 an25 od26 an26 od27 an27 od28 an28 od29 an29 od30 an30 od31 an31 od32 an32 od33 an33 od34 an34 od35 an35 od36 an36 : Option Addr} {sl0 sl1 sl2 sl3 sl4 sl5 sl6 sl7 sl8 sl9 sl10 sl11 sl12 sl13 sl14 sl15 sl16 sl17 sl18 sl19 sl20 sl21 sl22 sl23 sl24 sl25 sl26 sl27 sl28 sl29 sl30 sl31 sl32 sl33 sl34 sl35 sl36 : Array (Option Value)}
    {oc0 kV0 dc0 pm0 cd0 ct0 oc1 kV1 dc1 pm1 cd1 ct1 oc2 kV2 dc2 pm2 cd2 ct2 oc3 kV3 dc3 pm3 cd3 ct3 oc4 kV4 dc4 pm4 cd4 ct4 oc5 kV5 dc5 pm5 cd5 ct5 oc6 kV6 dc6 pm6 cd6 ct6 oc7 kV7 dc7 pm7 cd7 ct7 oc8 kV8 dc8 pm8 cd8 ct8 oc9 kV9 dc9 pm9 cd9 ct9 oc10 kV10 dc10 pm10 cd10 ct10 oc11 kV11 dc11 pm11 cd11 ct11 oc12 kV12 dc12 pm12 cd12 ct12 oc13 kV13 dc13 pm13 cd13 ct13 oc14 kV14 dc14 pm14 cd14 ct14 oc15 kV15 dc15 pm15 cd15 ct15 oc16 kV16 dc16 pm16 cd16 ct16 oc17 kV17 dc17 pm17 cd17 ct17 oc18 kV18 dc18 pm18 cd18 ct18 oc19 kV19 dc19 pm19 cd19 ct19 oc20 kV20 dc20 pm20 cd20 ct20 oc21 kV21 dc21 pm21 cd21 ct21 oc22 kV22 dc22 pm22 cd22 ct22 oc23 kV23 dc23 pm23 cd23 ct23 oc24 kV24 dc24 pm24 cd24 ct24 oc25 kV25 dc25 pm25 cd25 ct25 oc26 kV26 dc26 pm26 cd26 ct26 oc27 kV27 dc27 pm27 cd27 ct27 oc28 kV28 dc28 pm28 cd28 ct28 oc29 kV29 dc29 pm29 cd29 ct29 oc30 kV30 dc30 pm30 cd30 ct30 oc31 kV31 dc31 pm31 cd31 ct31 oc32 kV32 dc32 pm32 cd32 ct32 oc33 kV33 dc33 pm33 cd33 ct33 oc34 kV34 dc34 pm34 cd34 ct34 oc35 kV35 dc35 pm35 cd35 ct35 oc36 kV36 dc36 pm36 cd36 ct36 : Value} {t0 t1 : Tok}
    (a0 : PySem.W.nsIn K mainGlobals "is_integer" = some (some (.ref f0))) (l0 : K.lookup f0 = some ⟨oc0, od0, .func (PySem.W.fnOf "is_integer" "is_integer" (defArgs s_is_integer) (defBody s_is_integer) (defScope s_is_integer) .none kV0 dc0 pm0 an0 cd0 ct0), sl0⟩) (c0 : PySem.W.codeIn K cd0 "is_integer" = true) (k0 : PySem.W.keepIn K (.ref f0) = true)
    (a1 : PySem.W.nsIn K mainGlobals "common_measure" = some (some (.ref f1))) (l1 : K.lookup f1 = some ⟨oc1, od1, .func (PySem.W.fnOf "common_measure" "common_measure" (defArgs s_common_measure) (defBody s_common_measure) (defScope s_common_measure) .none kV1 dc1 pm1 an1 cd1 ct1), sl1⟩) (c1 : PySem.W.codeIn K cd1 "common_measure" = true) (k1 : PySem.W.keepIn K (.ref f1) = true)
    (a2 : PySem.W.nsIn K mainGlobals "fraction_of" = some (some (.ref f2))) (l2 : K.lookup f2 = some ⟨oc2, od2, .func (PySem.W.fnOf "fraction_of" "fraction_of" (defArgs s_fraction_of) (defBody s_fraction_of) (defScope s_fraction_of) .none kV2 dc2 pm2 an2 cd2 ct2), sl2⟩) (c2 : PySem.W.codeIn K cd2 "fraction_of" = true) (k2 : PySem.W.keepIn K (.ref f2) = true)
    (a3 : PySem.W.nsIn K mainGlobals "fraction_plus" = some (some (.ref f3))) (l3 : K.lookup f3 = some ⟨oc3, od3, .func (PySem.W.fnOf "fraction_plus" "fraction_plus" (defArgs s_fraction_plus) (defBody s_fraction_plus) (defScope s_fraction_plus) .none kV3 dc3 pm3 an3 cd3 ct3), sl3⟩) (c3 : PySem.W.codeIn K cd3 "fraction_plus" = true) (k3 : PySem.W.keepIn K (.ref f3) = true)
    (a4 : PySem.W.nsIn K mainGlobals "fraction_less" = some (some (.ref f4))) (l4 : K.lookup f4 = some ⟨oc4, od4, .func (PySem.W.fnOf "fraction_less" "fraction_less" (defArgs s_fraction_less) (defBody s_fraction_less) (defScope s_fraction_less) .none kV4 dc4 pm4 an4 cd4 ct4), sl4⟩) (c4 : PySem.W.codeIn K cd4 "fraction_less" = true) (k4 : PySem.W.keepIn K (.ref f4) = true)
    (a5 : PySem.W.nsIn K mainGlobals "fraction_times" = some (some (.ref f5))) (l5 : K.lookup f5 = some ⟨oc5, od5, .func (PySem.W.fnOf "fraction_times" "fraction_times" (defArgs s_fraction_times) (defBody s_fraction_times) (defScope s_fraction_times) .none kV5 dc5 pm5 an5 cd5 ct5), sl5⟩) (c5 : PySem.W.codeIn K cd5 "fraction_times" = true) (k5 : PySem.W.keepIn K (.ref f5) = true)
    (a6 : PySem.W.nsIn K mainGlobals "fraction_sum" = some (some (.ref f6))) (l6 : K.lookup f6 = some ⟨oc6, od6, .func (PySem.W.fnOf "fraction_sum" "fraction_sum" (defArgs s_fraction_sum) (defBody s_fraction_sum) (defScope s_fraction_sum) .none kV6 dc6 pm6 an6 cd6 ct6), sl6⟩) (c6 : PySem.W.codeIn K cd6 "fraction_sum" = true) (k6 : PySem.W.keepIn K (.ref f6) = true)
    (a7 : PySem.W.nsIn K mainGlobals "is_great_fraction" = some (some (.ref f7))) (l7 : K.lookup f7 = some ⟨oc7, od7, .func (PySem.W.fnOf "is_great_fraction" "is_great_fraction" (defArgs s_is_great_fraction) (defBody s_is_great_fraction) (defScope s_is_great_fraction) .none kV7 dc7 pm7 an7 cd7 ct7), sl7⟩) (c7 : PySem.W.codeIn K cd7 "is_great_fraction" = true) (k7 : PySem.W.keepIn K (.ref f7) = true)
    (a8 : PySem.W.nsIn K mainGlobals "is_fraction" = some (some (.ref f8))) (l8 : K.lookup f8 = some ⟨oc8, od8, .func (PySem.W.fnOf "is_fraction" "is_fraction" (defArgs s_is_fraction) (defBody s_is_fraction) (defScope s_is_fraction) .none kV8 dc8 pm8 an8 cd8 ct8), sl8⟩) (c8 : PySem.W.codeIn K cd8 "is_fraction" = true) (k8 : PySem.W.keepIn K (.ref f8) = true)
    (a9 : PySem.W.nsIn K mainGlobals "chosen_count" = some (some (.ref f9))) (l9 : K.lookup f9 = some ⟨oc9, od9, .func (PySem.W.fnOf "chosen_count" "chosen_count" (defArgs s_chosen_count) (defBody s_chosen_count) (defScope s_chosen_count) .none kV9 dc9 pm9 an9 cd9 ct9), sl9⟩) (c9 : PySem.W.codeIn K cd9 "chosen_count" = true) (k9 : PySem.W.keepIn K (.ref f9) = true)
    (a10 : PySem.W.nsIn K mainGlobals "means_error" = some (some (.ref f10))) (l10 : K.lookup f10 = some ⟨oc10, od10, .func (PySem.W.fnOf "means_error" "means_error" (defArgs s_means_error) (defBody s_means_error) (defScope s_means_error) .none kV10 dc10 pm10 an10 cd10 ct10), sl10⟩) (c10 : PySem.W.codeIn K cd10 "means_error" = true) (k10 : PySem.W.keepIn K (.ref f10) = true)
    (a11 : PySem.W.nsIn K mainGlobals "gap_share" = some (some (.ref f11))) (l11 : K.lookup f11 = some ⟨oc11, od11, .func (PySem.W.fnOf "gap_share" "gap_share" (defArgs s_gap_share) (defBody s_gap_share) (defScope s_gap_share) .none kV11 dc11 pm11 an11 cd11 ct11), sl11⟩) (c11 : PySem.W.codeIn K cd11 "gap_share" = true) (k11 : PySem.W.keepIn K (.ref f11) = true)
    (a12 : PySem.W.nsIn K mainGlobals "rest_share" = some (some (.ref f12))) (l12 : K.lookup f12 = some ⟨oc12, od12, .func (PySem.W.fnOf "rest_share" "rest_share" (defArgs s_rest_share) (defBody s_rest_share) (defScope s_rest_share) .none kV12 dc12 pm12 an12 cd12 ct12), sl12⟩) (c12 : PySem.W.codeIn K cd12 "rest_share" = true) (k12 : PySem.W.keepIn K (.ref f12) = true)
    (a13 : PySem.W.nsIn K mainGlobals "next_mean" = some (some (.ref f13))) (l13 : K.lookup f13 = some ⟨oc13, od13, .func (PySem.W.fnOf "next_mean" "next_mean" (defArgs s_next_mean) (defBody s_next_mean) (defScope s_next_mean) .none kV13 dc13 pm13 an13 cd13 ct13), sl13⟩) (c13 : PySem.W.codeIn K cd13 "next_mean" = true) (k13 : PySem.W.keepIn K (.ref f13) = true)
    (a14 : PySem.W.nsIn K mainGlobals "means_of_parts" = some (some (.ref f14))) (l14 : K.lookup f14 = some ⟨oc14, od14, .func (PySem.W.fnOf "means_of_parts" "means_of_parts" (defArgs s_means_of_parts) (defBody s_means_of_parts) (defScope s_means_of_parts) .none kV14 dc14 pm14 an14 cd14 ct14), sl14⟩) (c14 : PySem.W.codeIn K cd14 "means_of_parts" = true) (k14 : PySem.W.keepIn K (.ref f14) = true)
    (a15 : PySem.W.nsIn K mainGlobals "parts_of_means" = some (some (.ref f15))) (l15 : K.lookup f15 = some ⟨oc15, od15, .func (PySem.W.fnOf "parts_of_means" "parts_of_means" (defArgs s_parts_of_means) (defBody s_parts_of_means) (defScope s_parts_of_means) .none kV15 dc15 pm15 an15 cd15 ct15), sl15⟩) (c15 : PySem.W.codeIn K cd15 "parts_of_means" = true) (k15 : PySem.W.keepIn K (.ref f15) = true)
    (a16 : PySem.W.nsIn K mainGlobals "_law_own_bag" = some (some (.ref f16))) (l16 : K.lookup f16 = some ⟨oc16, od16, .func (PySem.W.fnOf "_law_own_bag" "_law_own_bag" (defArgs s_law_own_bag) (defBody s_law_own_bag) (defScope s_law_own_bag) .none kV16 dc16 pm16 an16 cd16 ct16), sl16⟩) (c16 : PySem.W.codeIn K cd16 "_law_own_bag" = true) (k16 : PySem.W.keepIn K (.ref f16) = true)
    (a17 : PySem.W.nsIn K mainGlobals "_law_draw" = some (some (.ref f17))) (l17 : K.lookup f17 = some ⟨oc17, od17, .func (PySem.W.fnOf "_law_draw" "_law_draw" (defArgs s_law_draw) (defBody s_law_draw) (defScope s_law_draw) .none kV17 dc17 pm17 an17 cd17 ct17), sl17⟩) (c17 : PySem.W.codeIn K cd17 "_law_draw" = true) (k17 : PySem.W.keepIn K (.ref f17) = true)
    (a18 : PySem.W.nsIn K mainGlobals "_law_pick" = some (some (.ref f18))) (l18 : K.lookup f18 = some ⟨oc18, od18, .func (PySem.W.fnOf "_law_pick" "_law_pick" (defArgs s_law_pick) (defBody s_law_pick) (defScope s_law_pick) .none kV18 dc18 pm18 an18 cd18 ct18), sl18⟩) (c18 : PySem.W.codeIn K cd18 "_law_pick" = true) (k18 : PySem.W.keepIn K (.ref f18) = true)
    (a19 : PySem.W.nsIn K mainGlobals "_law_same" = some (some (.ref f19))) (l19 : K.lookup f19 = some ⟨oc19, od19, .func (PySem.W.fnOf "_law_same" "_law_same" (defArgs s_law_same) (defBody s_law_same) (defScope s_law_same) .none kV19 dc19 pm19 an19 cd19 ct19), sl19⟩) (c19 : PySem.W.codeIn K cd19 "_law_same" = true) (k19 : PySem.W.keepIn K (.ref f19) = true)
    (a20 : PySem.W.nsIn K mainGlobals "_law_fraction" = some (some (.ref f20))) (l20 : K.lookup f20 = some ⟨oc20, od20, .func (PySem.W.fnOf "_law_fraction" "_law_fraction" (defArgs s_law_fraction) (defBody s_law_fraction) (defScope s_law_fraction) .none kV20 dc20 pm20 an20 cd20 ct20), sl20⟩) (c20 : PySem.W.codeIn K cd20 "_law_fraction" = true) (k20 : PySem.W.keepIn K (.ref f20) = true)
    (a21 : PySem.W.nsIn K mainGlobals "_law_great" = some (some (.ref f21))) (l21 : K.lookup f21 = some ⟨oc21, od21, .func (PySem.W.fnOf "_law_great" "_law_great" (defArgs s_law_great) (defBody s_law_great) (defScope s_law_great) .none kV21 dc21 pm21 an21 cd21 ct21), sl21⟩) (c21 : PySem.W.codeIn K cd21 "_law_great" = true) (k21 : PySem.W.keepIn K (.ref f21) = true)
    (a22 : PySem.W.nsIn K mainGlobals "_law_factorials" = some (some (.ref f22))) (l22 : K.lookup f22 = some ⟨oc22, od22, .func (PySem.W.fnOf "_law_factorials" "_law_factorials" (defArgs s_law_factorials) (defBody s_law_factorials) (defScope s_law_factorials) .none kV22 dc22 pm22 an22 cd22 ct22), sl22⟩) (c22 : PySem.W.codeIn K cd22 "_law_factorials" = true) (k22 : PySem.W.keepIn K (.ref f22) = true)
    (a23 : PySem.W.nsIn K mainGlobals "_law_types" = some (some (.ref f23))) (l23 : K.lookup f23 = some ⟨oc23, od23, .func (PySem.W.fnOf "_law_types" "_law_types" (defArgs s_law_types) (defBody s_law_types) (defScope s_law_types) .none kV23 dc23 pm23 an23 cd23 ct23), sl23⟩) (c23 : PySem.W.codeIn K cd23 "_law_types" = true) (k23 : PySem.W.keepIn K (.ref f23) = true)
    (a24 : PySem.W.nsIn K mainGlobals "_law_numbers" = some (some (.ref f24))) (l24 : K.lookup f24 = some ⟨oc24, od24, .func (PySem.W.fnOf "_law_numbers" "_law_numbers" (defArgs s_law_numbers) (defBody s_law_numbers) (defScope s_law_numbers) .none kV24 dc24 pm24 an24 cd24 ct24), sl24⟩) (c24 : PySem.W.codeIn K cd24 "_law_numbers" = true) (k24 : PySem.W.keepIn K (.ref f24) = true)
    (a25 : PySem.W.nsIn K mainGlobals "_law_turned" = some (some (.ref f25))) (l25 : K.lookup f25 = some ⟨oc25, od25, .func (PySem.W.fnOf "_law_turned" "_law_turned" (defArgs s_law_turned) (defBody s_law_turned) (defScope s_law_turned) .none kV25 dc25 pm25 an25 cd25 ct25), sl25⟩) (c25 : PySem.W.codeIn K cd25 "_law_turned" = true) (k25 : PySem.W.keepIn K (.ref f25) = true)
    (a26 : PySem.W.nsIn K mainGlobals "_law_is_let" = some (some (.ref f26))) (l26 : K.lookup f26 = some ⟨oc26, od26, .func (PySem.W.fnOf "_law_is_let" "_law_is_let" (defArgs s_law_is_let) (defBody s_law_is_let) (defScope s_law_is_let) .none kV26 dc26 pm26 an26 cd26 ct26), sl26⟩) (c26 : PySem.W.codeIn K cd26 "_law_is_let" = true) (k26 : PySem.W.keepIn K (.ref f26) = true)
    (a27 : PySem.W.nsIn K mainGlobals "_law_row" = some (some (.ref f27))) (l27 : K.lookup f27 = some ⟨oc27, od27, .func (PySem.W.fnOf "_law_row" "_law_row" (defArgs s_law_row) (defBody s_law_row) (defScope s_law_row) .none kV27 dc27 pm27 an27 cd27 ct27), sl27⟩) (c27 : PySem.W.codeIn K cd27 "_law_row" = true) (k27 : PySem.W.keepIn K (.ref f27) = true)
    (a28 : PySem.W.nsIn K mainGlobals "_law_step" = some (some (.ref f28))) (l28 : K.lookup f28 = some ⟨oc28, od28, .func (PySem.W.fnOf "_law_step" "_law_step" (defArgs s_law_step) (defBody s_law_step) (defScope s_law_step) .none kV28 dc28 pm28 an28 cd28 ct28), sl28⟩) (c28 : PySem.W.codeIn K cd28 "_law_step" = true) (k28 : PySem.W.keepIn K (.ref f28) = true)
    (a29 : PySem.W.nsIn K mainGlobals "_law_is_fraction" = some (some (.ref f29))) (l29 : K.lookup f29 = some ⟨oc29, od29, .func (PySem.W.fnOf "_law_is_fraction" "_law_is_fraction" (defArgs s_law_is_fraction) (defBody s_law_is_fraction) (defScope s_law_is_fraction) .none kV29 dc29 pm29 an29 cd29 ct29), sl29⟩) (c29 : PySem.W.codeIn K cd29 "_law_is_fraction" = true) (k29 : PySem.W.keepIn K (.ref f29) = true)
    (a30 : PySem.W.nsIn K mainGlobals "_law_word" = some (some (.ref f30))) (l30 : K.lookup f30 = some ⟨oc30, od30, .func (PySem.W.fnOf "_law_word" "_law_word" (defArgs s_law_word) (defBody s_law_word) (defScope s_law_word) .none kV30 dc30 pm30 an30 cd30 ct30), sl30⟩) (c30 : PySem.W.codeIn K cd30 "_law_word" = true) (k30 : PySem.W.keepIn K (.ref f30) = true)
    (a31 : PySem.W.nsIn K mainGlobals "_law_odd" = some (some (.ref f31))) (l31 : K.lookup f31 = some ⟨oc31, od31, .func (PySem.W.fnOf "_law_odd" "_law_odd" (defArgs s_law_odd) (defBody s_law_odd) (defScope s_law_odd) .none kV31 dc31 pm31 an31 cd31 ct31), sl31⟩) (c31 : PySem.W.codeIn K cd31 "_law_odd" = true) (k31 : PySem.W.keepIn K (.ref f31) = true)
    (a32 : PySem.W.nsIn K mainGlobals "_law_are_words_right" = some (some (.ref f32))) (l32 : K.lookup f32 = some ⟨oc32, od32, .func (PySem.W.fnOf "_law_are_words_right" "_law_are_words_right" (defArgs s_law_are_words_right) (defBody s_law_are_words_right) (defScope s_law_are_words_right) .none kV32 dc32 pm32 an32 cd32 ct32), sl32⟩) (c32 : PySem.W.codeIn K cd32 "_law_are_words_right" = true) (k32 : PySem.W.keepIn K (.ref f32) = true)
    (a33 : PySem.W.nsIn K mainGlobals "_law_is_turned" = some (some (.ref f33))) (l33 : K.lookup f33 = some ⟨oc33, od33, .func (PySem.W.fnOf "_law_is_turned" "_law_is_turned" (defArgs s_law_is_turned) (defBody s_law_is_turned) (defScope s_law_is_turned) .none kV33 dc33 pm33 an33 cd33 ct33), sl33⟩) (c33 : PySem.W.codeIn K cd33 "_law_is_turned" = true) (k33 : PySem.W.keepIn K (.ref f33) = true)
    (a34 : PySem.W.nsIn K mainGlobals "_law_are_steps_kept" = some (some (.ref f34))) (l34 : K.lookup f34 = some ⟨oc34, od34, .func (PySem.W.fnOf "_law_are_steps_kept" "_law_are_steps_kept" (defArgs s_law_are_steps_kept) (defBody s_law_are_steps_kept) (defScope s_law_are_steps_kept) .none kV34 dc34 pm34 an34 cd34 ct34), sl34⟩) (c34 : PySem.W.codeIn K cd34 "_law_are_steps_kept" = true) (k34 : PySem.W.keepIn K (.ref f34) = true)
    (a35 : PySem.W.nsIn K mainGlobals "_law_all" = some (some (.ref f35))) (l35 : K.lookup f35 = some ⟨oc35, od35, .func (PySem.W.fnOf "_law_all" "_law_all" (defArgs s_law_all) (defBody s_law_all) (defScope s_law_all) .none kV35 dc35 pm35 an35 cd35 ct35), sl35⟩) (c35 : PySem.W.codeIn K cd35 "_law_all" = true) (k35 : PySem.W.keepIn K (.ref f35) = true)
    (a36 : PySem.W.nsIn K mainGlobals "law" = some (some (.ref f36))) (l36 : K.lookup f36 = some ⟨oc36, od36, .func (PySem.W.fnOf "law" "law" (defArgs s_law) (defBody s_law) (defScope s_law) .none kV36 dc36 pm36 an36 cd36 ct36), sl36⟩) (c36 : PySem.W.codeIn K cd36 "law" = true) (k36 : PySem.W.keepIn K (.ref f36) = true)
    (z0 : PySem.W.nsIn K mainGlobals "isinstance" = some none)
    (z1 : PySem.W.nsIn K mainGlobals "int" = some none)
    (z2 : PySem.W.nsIn K mainGlobals "bool" = some none)
    (z3 : PySem.W.nsIn K mainGlobals "abs" = some none)
    (z4 : PySem.W.nsIn K mainGlobals "tuple" = some none)
    (z5 : PySem.W.nsIn K mainGlobals "len" = some none)
    (z6 : PySem.W.nsIn K mainGlobals "all" = some none)
    (z7 : PySem.W.nsIn K mainGlobals "range" = some none)
    (z8 : PySem.W.nsIn K mainGlobals "enumerate" = some none)
    (z9 : PySem.W.nsIn K mainGlobals "list" = some none)
    (z10 : PySem.W.nsIn K mainGlobals "reversed" = some none)
    (z11 : PySem.W.nsIn K mainGlobals "str" = some none)
    (z12 : PySem.W.nsIn K mainGlobals "zip" = some none)
    (z13 : PySem.W.nsIn K mainGlobals "sum" = some none)
    (z14 : PySem.W.nsIn K mainGlobals "repr" = some none)
    (y0 : PySem.W.nsIn K mainGlobals "MAX_NUMBER" = some (some (.int 1000000000000000000000000000000 t0)))
    (y1 : PySem.W.nsIn K mainGlobals "MAX_MEANS" = some (some (.int 8 t1)))
    : ∃ fd : FuncData, (∀ (s : Shared) (v : Value), BindsTo s fd ⟨[v], []⟩ [("script", v)]) ∧ ∀ base : Heap, K.In base → base.Ns mainGlobals mg → base.NoSeer → GOk l.prog w K mg base 51 fa fd ["script"] (spLaw K) := by
  have e := hfa.symm.trans (PySem.W.mg_of X G a36)
  cases e
  have F0 := fun_mk (st := s_is_integer) l0 c0 k0
  have F1 := fun_mk (st := s_common_measure) l1 c1 k1
  have F2 := fun_mk (st := s_fraction_of) l2 c2 k2
  have F3 := fun_mk (st := s_fraction_plus) l3 c3 k3
  have F4 := fun_mk (st := s_fraction_less) l4 c4 k4
  have F5 := fun_mk (st := s_fraction_times) l5 c5 k5
  have F6 := fun_mk (st := s_fraction_sum) l6 c6 k6
  have F7 := fun_mk (st := s_is_great_fraction) l7 c7 k7
  have F8 := fun_mk (st := s_is_fraction) l8 c8 k8
  have F9 := fun_mk (st := s_chosen_count) l9 c9 k9
  have F10 := fun_mk (st := s_means_error) l10 c10 k10
  have F11 := fun_mk (st := s_gap_share) l11 c11 k11
  have F12 := fun_mk (st := s_rest_share) l12 c12 k12
  have F13 := fun_mk (st := s_next_mean) l13 c13 k13
  have F14 := fun_mk (st := s_means_of_parts) l14 c14 k14
  have F15 := fun_mk (st := s_parts_of_means) l15 c15 k15
  have F16 := fun_mk (st := s_law_own_bag) l16 c16 k16
  have F17 := fun_mk (st := s_law_draw) l17 c17 k17
  have F18 := fun_mk (st := s_law_pick) l18 c18 k18
  have F19 := fun_mk (st := s_law_same) l19 c19 k19
  have F20 := fun_mk (st := s_law_fraction) l20 c20 k20
  have F21 := fun_mk (st := s_law_great) l21 c21 k21
  have F22 := fun_mk (st := s_law_factorials) l22 c22 k22
  have F23 := fun_mk (st := s_law_types) l23 c23 k23
  have F24 := fun_mk (st := s_law_numbers) l24 c24 k24
  have F25 := fun_mk (st := s_law_turned) l25 c25 k25
  have F26 := fun_mk (st := s_law_is_let) l26 c26 k26
  have F27 := fun_mk (st := s_law_row) l27 c27 k27
  have F28 := fun_mk (st := s_law_step) l28 c28 k28
  have F29 := fun_mk (st := s_law_is_fraction) l29 c29 k29
  have F30 := fun_mk (st := s_law_word) l30 c30 k30
  have F31 := fun_mk (st := s_law_odd) l31 c31 k31
  have F32 := fun_mk (st := s_law_are_words_right) l32 c32 k32
  have F33 := fun_mk (st := s_law_is_turned) l33 c33 k33
  have F34 := fun_mk (st := s_law_are_steps_kept) l34 c34 k34
  have F35 := fun_mk (st := s_law_all) l35 c35 k35
  have F36 := fun_mk (st := s_law) l36 c36 k36
  have b0 := F0.binds (ps := ["value"]) fun _ _ _ _ _ _ us hl => match us, hl with | [_], _ => rfl
  have b1 := F1.binds (ps := ["one", "other"]) fun _ _ _ _ _ _ us hl => match us, hl with | [_, _], _ => rfl
  have b2 := F2.binds (ps := ["top", "bottom"]) fun _ _ _ _ _ _ us hl => match us, hl with | [_, _], _ => rfl
  have b3 := F3.binds (ps := ["one", "other"]) fun _ _ _ _ _ _ us hl => match us, hl with | [_, _], _ => rfl
  have b4 := F4.binds (ps := ["one", "other"]) fun _ _ _ _ _ _ us hl => match us, hl with | [_, _], _ => rfl
  have b5 := F5.binds (ps := ["one", "other"]) fun _ _ _ _ _ _ us hl => match us, hl with | [_, _], _ => rfl
  have b6 := F6.binds (ps := ["some"]) fun _ _ _ _ _ _ us hl => match us, hl with | [_], _ => rfl
  have b7 := F7.binds (ps := ["value"]) fun _ _ _ _ _ _ us hl => match us, hl with | [_], _ => rfl
  have b8 := F8.binds (ps := ["value"]) fun _ _ _ _ _ _ us hl => match us, hl with | [_], _ => rfl
  have b9 := F9.binds (ps := ["many", "some"]) fun _ _ _ _ _ _ us hl => match us, hl with | [_, _], _ => rfl
  have b10 := F10.binds (ps := ["value"]) fun _ _ _ _ _ _ us hl => match us, hl with | [_], _ => rfl
  have b11 := F11.binds (ps := ["wholes", "gaps", "rest"]) fun _ _ _ _ _ _ us hl => match us, hl with | [_, _, _], _ => rfl
  have b12 := F12.binds (ps := ["kind", "wholes", "size", "many"]) fun _ _ _ _ _ _ us hl => match us, hl with | [_, _, _, _], _ => rfl
  have b13 := F13.binds (ps := ["kind", "parts", "wholes", "many"]) fun _ _ _ _ _ _ us hl => match us, hl with | [_, _, _, _], _ => rfl
  have b14 := F14.binds (ps := ["kind", "parts"]) fun _ _ _ _ _ _ us hl => match us, hl with | [_, _], _ => rfl
  have b15 := F15.binds (ps := ["kind", "means"]) fun _ _ _ _ _ _ us hl => match us, hl with | [_, _], _ => rfl
  have b16 := F16.binds (ps := ["script"]) fun _ _ _ _ _ _ us hl => match us, hl with | [_], _ => rfl
  have b17 := F17.binds (ps := ["bag", "below"]) fun _ _ _ _ _ _ us hl => match us, hl with | [_, _], _ => rfl
  have b18 := F18.binds (ps := ["bag", "some"]) fun _ _ _ _ _ _ us hl => match us, hl with | [_, _], _ => rfl
  have b19 := F19.binds (ps := ["told", "due"]) fun _ _ _ _ _ _ us hl => match us, hl with | [_, _], _ => rfl
  have b20 := F20.binds (ps := ["above", "below"]) fun _ _ _ _ _ _ us hl => match us, hl with | [_, _], _ => rfl
  have b21 := F21.binds (ps := ["bag", "below"]) fun _ _ _ _ _ _ us hl => match us, hl with | [_, _], _ => rfl
  have b22 := F22.binds (ps := []) fun _ _ _ _ _ _ us hl => match us, hl with | [], _ => rfl
  have b23 := F23.binds (ps := ["most"]) fun _ _ _ _ _ _ us hl => match us, hl with | [_], _ => rfl
  have b24 := F24.binds (ps := ["kind", "is_back"]) fun _ _ _ _ _ _ us hl => match us, hl with | [_, _], _ => rfl
  have b25 := F25.binds (ps := ["numbers", "own"]) fun _ _ _ _ _ _ us hl => match us, hl with | [_, _], _ => rfl
  have b26 := F26.binds (ps := ["row"]) fun _ _ _ _ _ _ us hl => match us, hl with | [_], _ => rfl
  have b27 := F27.binds (ps := ["bag", "n", "mode"]) fun _ _ _ _ _ _ us hl => match us, hl with | [_, _, _], _ => rfl
  have b28 := F28.binds (ps := ["kind", "parts", "means"]) fun _ _ _ _ _ _ us hl => match us, hl with | [_, _, _], _ => rfl
  have b29 := F29.binds (ps := ["item"]) fun _ _ _ _ _ _ us hl => match us, hl with | [_], _ => rfl
  have b30 := F30.binds (ps := ["value"]) fun _ _ _ _ _ _ us hl => match us, hl with | [_], _ => rfl
  have b31 := F31.binds (ps := ["bag", "item", "way"]) fun _ _ _ _ _ _ us hl => match us, hl with | [_, _, _], _ => rfl
  have b32 := F32.binds (ps := ["bag"]) fun _ _ _ _ _ _ us hl => match us, hl with | [_], _ => rfl
  have b33 := F33.binds (ps := ["bag", "kind", "is_back", "own", "due", "is_named"]) fun _ _ _ _ _ _ us hl => match us, hl with | [_, _, _, _, _, _], _ => rfl
  have b34 := F34.binds (ps := ["kind", "parts"]) fun _ _ _ _ _ _ us hl => match us, hl with | [_, _], _ => rfl
  have b35 := F35.binds (ps := ["script"]) fun _ _ _ _ _ _ us hl => match us, hl with | [_], _ => rfl
  have b36 := F36.binds (ps := ["script"]) fun _ _ _ _ _ _ us hl => match us, hl with | [_], _ => rfl
  refine ⟨PySem.W.fnOf "law" "law" (defArgs s_law) (defBody s_law) (defScope s_law) .none kV36 dc36 pm36 an36 cd36 ct36, fun s v => .of_eq rfl, fun base _ _ hN => ?_⟩
  have T : Bt l.prog mg base := ⟨PySem.W.mg_none_of X G z0, PySem.W.mg_none_of X G z1, PySem.W.mg_none_of X G z2, PySem.W.mg_none_of X G z3, PySem.W.mg_none_of X G z4, PySem.W.mg_none_of X G z5, PySem.W.mg_none_of X G z6, PySem.W.mg_none_of X G z7, PySem.W.mg_none_of X G z8, PySem.W.mg_none_of X G z9, PySem.W.mg_none_of X G z10, PySem.W.mg_none_of X G z11, PySem.W.mg_none_of X G z12, PySem.W.mg_none_of X G z13, PySem.W.mg_none_of X G z14, ⟨t0, PySem.W.mg_of X G y0⟩, ⟨t1, PySem.W.mg_of X G y1⟩, hN, ht⟩
  have Ookd_law_own_bag := okd_law_own_bag (w := w) F16 T 
  have D_law_own_bag := Df.mk' Ookd_law_own_bag (PySem.W.mg_of X G a16) k16 b16
  have Ook_law_draw := ok_law_draw (w := w) F17 T 
  have C_law_draw := Df.mk' Ook_law_draw (PySem.W.mg_of X G a17) k17 b17
  have Ookd_law_pick := okd_law_pick (w := w) F18 T C_law_draw
  have D_law_pick := Df.mk' Ookd_law_pick (PySem.W.mg_of X G a18) k18 b18
  have Ookd_law_draw := okd_law_draw (w := w) F17 T 
  have D_law_draw := Df.mk' Ookd_law_draw (PySem.W.mg_of X G a17) k17 b17
  have Ookd_law_odd := okd_law_odd (w := w) F31 T D_law_draw D_law_pick
  have D_law_odd := Df.mk' Ookd_law_odd (PySem.W.mg_of X G a31) k31 b31
  have Ookd_law_same := okd_law_same (w := w) F19 T (PySem.W.mg_of X G a19) k19 b19
  have D_law_same := Df.mk' Ookd_law_same (PySem.W.mg_of X G a19) k19 b19
  have Ookd_law_fraction := okd_law_fraction (w := w) F20 T 
  have D_law_fraction := Df.mk' Ookd_law_fraction (PySem.W.mg_of X G a20) k20 b20
  have Ookd_law_great := okd_law_great (w := w) F21 T D_law_draw
  have D_law_great := Df.mk' Ookd_law_great (PySem.W.mg_of X G a21) k21 b21
  have Ookd_law_row := okd_law_row (w := w) F27 T D_law_draw D_law_fraction D_law_great
  have D_law_row := Df.mk' Ookd_law_row (PySem.W.mg_of X G a27) k27 b27
  have Ookd_law_is_fraction := okd_law_is_fraction (w := w) F29 T D_law_fraction
  have D_law_is_fraction := Df.mk' Ookd_law_is_fraction (PySem.W.mg_of X G a29) k29 b29
  have Ookd_law_word := okd_law_word (w := w) F30 T D_law_is_fraction
  have D_law_word := Df.mk' Ookd_law_word (PySem.W.mg_of X G a30) k30 b30
  have Ookd_common_measure := okd_common_measure (w := w) F1 T 
  have D_common_measure := Df.mk' Ookd_common_measure (PySem.W.mg_of X G a1) k1 b1
  have Ookd_is_integer := okd_is_integer (w := w) F0 T 
  have D_is_integer := Df.mk' Ookd_is_integer (PySem.W.mg_of X G a0) k0 b0
  have Ookd_is_great_fraction := okd_is_great_fraction (w := w) F7 T D_common_measure D_is_integer
  have D_is_great_fraction := Df.mk' Ookd_is_great_fraction (PySem.W.mg_of X G a7) k7 b7
  have Ookd_is_fraction := okd_is_fraction (w := w) F8 T D_is_great_fraction
  have D_is_fraction := Df.mk' Ookd_is_fraction (PySem.W.mg_of X G a8) k8 b8
  have Ookd_means_error := okd_means_error (w := w) F10 T D_is_fraction
  have D_means_error := Df.mk' Ookd_means_error (PySem.W.mg_of X G a10) k10 b10
  have DK_means_error_value : DfK l.prog w K mg base _ "means_error" ["value"] ["value"] (kwG 1 [0]) (kwG 1 [0]) _ := ⟨_, _, Ookd_means_error, PySem.W.mg_of X G a10, k10, kb1 rfl fun _ => rfl⟩
  have Ookd_law_are_words_right := okd_law_are_words_right (w := w) F32 T D_law_odd D_law_same D_law_pick D_law_row D_law_draw D_law_word D_means_error DK_means_error_value
  have D_law_are_words_right := GDf.mk' Ookd_law_are_words_right (PySem.W.mg_of X G a32) k32 b32
  have Ookd_law_factorials := okd_law_factorials (w := w) F22 T 
  have D_law_factorials := Df.mk' Ookd_law_factorials (PySem.W.mg_of X G a22) k22 b22
  have Ookd_law_types := okd_law_types (w := w) F23 T 
  have D_law_types := Df.mk' Ookd_law_types (PySem.W.mg_of X G a23) k23 b23
  have Ookd_law_numbers := okd_law_numbers (w := w) F24 T D_law_factorials D_law_types
  have D_law_numbers := Df.mk' Ookd_law_numbers (PySem.W.mg_of X G a24) k24 b24
  have Ook_common_measure := ok_common_measure (w := w) F1 T 
  have C_common_measure := Df.mk' Ook_common_measure (PySem.W.mg_of X G a1) k1 b1
  have Ookd_fraction_of := okd_fraction_of (w := w) F2 T C_common_measure
  have D_fraction_of := Df.mk' Ookd_fraction_of (PySem.W.mg_of X G a2) k2 b2
  have Ookd_fraction_plus := okd_fraction_plus (w := w) F3 T D_fraction_of
  have D_fraction_plus := Df.mk' Ookd_fraction_plus (PySem.W.mg_of X G a3) k3 b3
  have Ookd_fraction_times := okd_fraction_times (w := w) F5 T D_fraction_of
  have D_fraction_times := Df.mk' Ookd_fraction_times (PySem.W.mg_of X G a5) k5 b5
  have Ookd_fraction_sum := okd_fraction_sum (w := w) F6 T D_fraction_plus
  have D_fraction_sum := Df.mk' Ookd_fraction_sum (PySem.W.mg_of X G a6) k6 b6
  have Ookd_gap_share := okd_gap_share (w := w) F11 T D_fraction_sum D_fraction_times
  have D_gap_share := Df.mk' Ookd_gap_share (PySem.W.mg_of X G a11) k11 b11
  have Ookd_chosen_count := okd_chosen_count (w := w) F9 T 
  have D_chosen_count := Df.mk' Ookd_chosen_count (PySem.W.mg_of X G a9) k9 b9
  have Ookd_rest_share := okd_rest_share (w := w) F12 T D_fraction_times D_gap_share D_chosen_count
  have D_rest_share := Df.mk' Ookd_rest_share (PySem.W.mg_of X G a12) k12 b12
  have Ookd_next_mean := okd_next_mean (w := w) F13 T D_fraction_plus D_fraction_times D_rest_share
  have D_next_mean := Df.mk' Ookd_next_mean (PySem.W.mg_of X G a13) k13 b13
  have Ookd_means_of_parts := okd_means_of_parts (w := w) F14 T D_next_mean
  have D_means_of_parts := Df.mk' Ookd_means_of_parts (PySem.W.mg_of X G a14) k14 b14
  have DK_means_of_parts_kind_parts : DfK l.prog w K mg base _ "means_of_parts" ["kind", "parts"] ["kind", "parts"] (kwG 2 [0, 1]) (kwG 2 [0, 1]) _ := ⟨_, _, Ookd_means_of_parts, PySem.W.mg_of X G a14, k14, kb2 rfl fun _ _ => rfl⟩
  have Ookd_law_step := okd_law_step (w := w) F28 T D_law_factorials
  have D_law_step := Df.mk' Ookd_law_step (PySem.W.mg_of X G a28) k28 b28
  have Ookd_law_are_steps_kept := okd_law_are_steps_kept (w := w) F34 T D_means_of_parts D_law_step D_law_same
  have D_law_are_steps_kept := Df.mk' Ookd_law_are_steps_kept (PySem.W.mg_of X G a34) k34 b34
  have Ookd_law_turned := okd_law_turned (w := w) F25 T D_law_fraction
  have D_law_turned := Df.mk' Ookd_law_turned (PySem.W.mg_of X G a25) k25 b25
  have Ookd_fraction_less := okd_fraction_less (w := w) F4 T D_fraction_of
  have D_fraction_less := Df.mk' Ookd_fraction_less (PySem.W.mg_of X G a4) k4 b4
  have Ookd_next_meanL := okd_next_meanL (w := w) F13 T D_fraction_plus D_fraction_times D_rest_share
  have D_next_meanL := Df.mk' Ookd_next_meanL (PySem.W.mg_of X G a13) k13 b13
  have Ookd_parts_of_means := okd_parts_of_means (w := w) F15 T D_fraction_less D_next_meanL
  have D_parts_of_means := Df.mk' Ookd_parts_of_means (PySem.W.mg_of X G a15) k15 b15
  have DK_parts_of_means_kind_means : DfK l.prog w K mg base _ "parts_of_means" ["kind", "means"] ["kind", "means"] (kwG 2 [0, 1]) (kwG 2 [0, 1]) _ := ⟨_, _, Ookd_parts_of_means, PySem.W.mg_of X G a15, k15, kb2 rfl fun _ _ => rfl⟩
  have Ookd_law_is_let := okd_law_is_let (w := w) F26 T 
  have D_law_is_let := Df.mk' Ookd_law_is_let (PySem.W.mg_of X G a26) k26 b26
  have Ookd_law_is_turned := okd_law_is_turned (w := w) F33 T D_law_is_let D_law_same D_parts_of_means D_means_of_parts D_law_draw DK_parts_of_means_kind_means DK_means_of_parts_kind_parts
  have D_law_is_turned := Df.mk' Ookd_law_is_turned (PySem.W.mg_of X G a33) k33 b33
  have Ookd_law_all := okd_law_all (w := w) F35 T D_law_own_bag D_law_pick D_law_are_words_right D_law_draw D_law_numbers D_law_are_steps_kept D_law_same D_law_row D_law_turned D_parts_of_means D_means_of_parts D_law_is_turned
  have D_law_all := GDf.mk' Ookd_law_all (PySem.W.mg_of X G a35) k35 b35
  exact okd_law F36 T D_law_all
end K82
open PySem PySem.W PyProof.Rows
set_option maxHeartbeats 0 in
theorem PySem.Challenge.cw_cutandjoin_k82_whole_means_undone_holds : PySem.Challenge.rw_cutandjoin_k82_whole_means_undone.Holds := by
  w_on; o_law; k_head; (case hw => w_witness2)
  k_fill
  refine Fz.walk_ofG (l := PySem.Challenge.rw_cutandjoin_k82_whole_means_undone) (n := 63) (k := 51) (x := "script") (sp := fun w => Fz.spLaw _) rfl (by decide) rfl ⟨rfl, by decide, by decide⟩ ?him (fun w h Y => PySem.W.kIn_of Y) ?F (fun _ _ a ns hl _ hS => ⟨a, ns, rfl, hS, hl, fun _ => rfl⟩)
  case him => first | rfl | decide +kernel
  case F =>
    intro w mg fa h KX G hmg
    refine' K82.all_mk KX G hmg rfl ?a0 ?l0 ?c0 ?k0 ?a1 ?l1 ?c1 ?k1 ?a2 ?l2 ?c2 ?k2 ?a3 ?l3 ?c3 ?k3 ?a4 ?l4 ?c4 ?k4 ?a5 ?l5 ?c5 ?k5 ?a6 ?l6 ?c6 ?k6 ?a7 ?l7 ?c7 ?k7 ?a8 ?l8 ?c8 ?k8 ?a9 ?l9 ?c9 ?k9 ?a10 ?l10 ?c10 ?k10 ?a11 ?l11 ?c11 ?k11 ?a12 ?l12 ?c12 ?k12 ?a13 ?l13 ?c13 ?k13 ?a14 ?l14 ?c14 ?k14 ?a15 ?l15 ?c15 ?k15 ?a16 ?l16 ?c16 ?k16 ?a17 ?l17 ?c17 ?k17 ?a18 ?l18 ?c18 ?k18 ?a19 ?l19 ?c19 ?k19 ?a20 ?l20 ?c20 ?k20 ?a21 ?l21 ?c21 ?k21 ?a22 ?l22 ?c22 ?k22 ?a23 ?l23 ?c23 ?k23 ?a24 ?l24 ?c24 ?k24 ?a25 ?l25 ?c25 ?k25 ?a26 ?l26 ?c26 ?k26 ?a27 ?l27 ?c27 ?k27 ?a28 ?l28 ?c28 ?k28 ?a29 ?l29 ?c29 ?k29 ?a30 ?l30 ?c30 ?k30 ?a31 ?l31 ?c31 ?k31 ?a32 ?l32 ?c32 ?k32 ?a33 ?l33 ?c33 ?k33 ?a34 ?l34 ?c34 ?k34 ?a35 ?l35 ?c35 ?k35 ?a36 ?l36 ?c36 ?k36 ?z0 ?z1 ?z2 ?z3 ?z4 ?z5 ?z6 ?z7 ?z8 ?z9 ?z10 ?z11 ?z12 ?z13 ?z14 ?y0 ?y1
    (case a0 => k_is); (case l0 => k_is); (case c0 => k_is); (case k0 => k_is); (case a1 => k_is); (case l1 => k_is); (case c1 => k_is); (case k1 => k_is); (case a2 => k_is); (case l2 => k_is); (case c2 => k_is); (case k2 => k_is); (case a3 => k_is); (case l3 => k_is); (case c3 => k_is); (case k3 => k_is); (case a4 => k_is); (case l4 => k_is); (case c4 => k_is); (case k4 => k_is); (case a5 => k_is); (case l5 => k_is); (case c5 => k_is); (case k5 => k_is); (case a6 => k_is); (case l6 => k_is); (case c6 => k_is); (case k6 => k_is); (case a7 => k_is); (case l7 => k_is); (case c7 => k_is); (case k7 => k_is); (case a8 => k_is); (case l8 => k_is); (case c8 => k_is); (case k8 => k_is); (case a9 => k_is); (case l9 => k_is); (case c9 => k_is); (case k9 => k_is); (case a10 => k_is); (case l10 => k_is); (case c10 => k_is); (case k10 => k_is); (case a11 => k_is); (case l11 => k_is); (case c11 => k_is); (case k11 => k_is); (case a12 => k_is); (case l12 => k_is); (case c12 => k_is); (case k12 => k_is); (case a13 => k_is); (case l13 => k_is); (case c13 => k_is); (case k13 => k_is); (case a14 => k_is); (case l14 => k_is); (case c14 => k_is); (case k14 => k_is); (case a15 => k_is); (case l15 => k_is); (case c15 => k_is); (case k15 => k_is); (case a16 => k_is); (case l16 => k_is); (case c16 => k_is); (case k16 => k_is); (case a17 => k_is); (case l17 => k_is); (case c17 => k_is); (case k17 => k_is); (case a18 => k_is); (case l18 => k_is); (case c18 => k_is); (case k18 => k_is); (case a19 => k_is); (case l19 => k_is); (case c19 => k_is); (case k19 => k_is); (case a20 => k_is); (case l20 => k_is); (case c20 => k_is); (case k20 => k_is); (case a21 => k_is); (case l21 => k_is); (case c21 => k_is); (case k21 => k_is); (case a22 => k_is); (case l22 => k_is); (case c22 => k_is); (case k22 => k_is); (case a23 => k_is); (case l23 => k_is); (case c23 => k_is); (case k23 => k_is); (case a24 => k_is); (case l24 => k_is); (case c24 => k_is); (case k24 => k_is); (case a25 => k_is); (case l25 => k_is); (case c25 => k_is); (case k25 => k_is); (case a26 => k_is); (case l26 => k_is); (case c26 => k_is); (case k26 => k_is); (case a27 => k_is); (case l27 => k_is); (case c27 => k_is); (case k27 => k_is); (case a28 => k_is); (case l28 => k_is); (case c28 => k_is); (case k28 => k_is); (case a29 => k_is); (case l29 => k_is); (case c29 => k_is); (case k29 => k_is); (case a30 => k_is); (case l30 => k_is); (case c30 => k_is); (case k30 => k_is); (case a31 => k_is); (case l31 => k_is); (case c31 => k_is); (case k31 => k_is); (case a32 => k_is); (case l32 => k_is); (case c32 => k_is); (case k32 => k_is); (case a33 => k_is); (case l33 => k_is); (case c33 => k_is); (case k33 => k_is); (case a34 => k_is); (case l34 => k_is); (case c34 => k_is); (case k34 => k_is); (case a35 => k_is); (case l35 => k_is); (case c35 => k_is); (case k35 => k_is); (case a36 => k_is); (case l36 => k_is); (case c36 => k_is); (case k36 => k_is); (case z0 => k_is); (case z1 => k_is); (case z2 => k_is); (case z3 => k_is); (case z4 => k_is); (case z5 => k_is); (case z6 => k_is); (case z7 => k_is); (case z8 => k_is); (case z9 => k_is); (case z10 => k_is); (case z11 => k_is); (case z12 => k_is); (case z13 => k_is); (case z14 => k_is); (case y0 => k_is); (case y1 => k_is)
