import PyProof.Rows.All
import Wide.All
import OpenK.AllK
import Wide.FinOn
import HandS.ForMost
import HandS.Wide
import HandS.TupAny
import HandS.Evl
import HandS.More
import HandS.Conv
import HandS.Rev
import HandS.Dict
import PyProof.ReprRoads
import HandS.RevTup
import PyProof.SumAny
import HandS.TupMul
import KE.KDictDisplayH
import HandS.Style
import HandS.Exc
import HandS.TryOnly
import PyProof.P3Eq
import PyProof.ReprBulk
import KE.KExcSuper
import HandS.ExcOwn
import HandS.ExcField
import HandS.ExcIs
import HandS.IsInst
import HandS.WordsExc
import KE.GoesEnum
import KE.KDictZip
import HandS.ExcValue
import PySem.Challenge.RW_cutandjoin_k88_whole_ways_papers
/-! ## Fz -/
set_option Elab.async false
set_option linter.all false
set_option maxRecDepth 100000
set_option maxHeartbeats 2000000
set_option autoImplicit false
/-! Fz: a small logic over the hand layer. Data is frozen in a part F of the heap; what may change is owned, one by one, in a list L. -/
namespace Fz
open PySem L2

/-! ### extension -/
def Sub (F H : Hp) : Prop := ∀ a o, F a = some o → H a = some o
theorem Sub.rfl' (F : Hp) : Sub F F := fun _ _ h => h
theorem Sub.tr {F G H : Hp} (x : Sub F G) (y : Sub G H) : Sub F H := fun a o h => y a o (x a o h)
theorem sub_none {F H : Hp} (x : Sub F H) {p : Addr} (h : H p = none) : F p = none := by
  cases e : F p with
  | none => rfl
  | some o => rw [x p o e] at h; cases h
theorem sub_upd {F H : Hp} (x : Sub F H) (p : Addr) (o : HO) : Sub (upd F p o) (upd H p o) := fun a u h => by
  by_cases e : a = p
  · subst e; rw [upd_same] at h ⊢; exact h
  · rw [upd_ne e] at h ⊢; exact x a u h
theorem sub_fresh {F : Hp} {p : Addr} {o : HO} (h : F p = none) : Sub F (upd F p o) := fun a u e => by
  rw [upd_ne (ne_of_none e h)]; exact e
theorem rd_sub {F H : Hp} (x : Sub F H) {a : Addr} {u : HO} (h : Rd F a u) : Rd H a u := by
  rcases h with h | ⟨o, h⟩
  · exact .inl (x _ _ h)
  · exact .inr ⟨o, x _ _ h⟩
theorem sql_sub {K : PySem.W.Frag} {F H : Hp} (x : Sub F H) {a : Addr} {xs : List V} (h : SqL K F a xs) : SqL K H a xs := by
  rcases h with h | h
  · exact .inl (rd_sub x h)
  · exact .inr h
theorem sqt_sub {K : PySem.W.Frag} {F H : Hp} (x : Sub F H) {a : Addr} {xs : List V} (h : SqT K F a xs) : SqT K H a xs := by
  rcases h with h | h
  · exact .inl (rd_sub x h)
  · exact .inr h
theorem tq_sub {K : PySem.W.Frag} {F H : Hp} (x : Sub F H) {a : Addr} {xs : List V} (h : F a = some (.tup xs)) : SqT K H a xs := .inl (.inl (x _ _ h))
/-- the plain values -/
def simV : V → Option PyData
  | .non => some .none
  | .bl b => some (.bool b)
  | .int i => some (.int i)
  | .str x => some (.str x)
  | _ => none
def keyD : Key → PyData
  | .inl i => .int i
  | .inr x => .str x
/-- a dict of plain values, its keys ints and texts -/
def KvD (kvs : List (Key × V)) (ps : List (PyData × PyData)) : Prop := kvs.map (fun x => (keyD x.1, simV x.2)) = ps.map fun p => (p.1, some p.2)
mutual
/-- data: what a value stands for; lists are tracked as lists -/
inductive Dq (K : PySem.W.Frag) (H : Hp) : V → PyData → Prop
  | non : Dq K H .non .none
  | bl (b : Bool) : Dq K H (.bl b) (.bool b)
  | int (i : Int) : Dq K H (.int i) (.int i)
  | str (x : Str) : Dq K H (.str x) (.str x)
  | lst {a : Addr} {xs : List V} {ds : List PyData} : H a = some (.lst xs) → DqAll K H xs ds → Dq K H (.ref a) (.list ds)
  | tup {a : Addr} {xs : List V} {ds : List PyData} : H a = some (.tup xs) → DqAll K H xs ds → Dq K H (.ref a) (.tuple ds)
  | dic {a : Addr} {kvs : List (Key × V)} {ps : List (PyData × PyData)} : H a = some (.dK kvs) → KvD kvs ps → Dq K H (.ref a) (.dict ps)
inductive DqAll (K : PySem.W.Frag) (H : Hp) : List V → List PyData → Prop
  | nil : DqAll K H [] []
  | cons {v : V} {vs : List V} {d : PyData} {ds : List PyData} : Dq K H v d → DqAll K H vs ds → DqAll K H (v :: vs) (d :: ds)
end
theorem nodict_cons {d : PyData} {ds : List PyData} (h : PyData.hasDictAll (d :: ds) = false) : d.hasDict = false ∧ PyData.hasDictAll ds = false := by
  have h : (d.hasDict || PyData.hasDictAll ds) = false := h
  exact Bool.or_eq_false_iff.mp h
mutual
theorem dq_dp {K : PySem.W.Frag} {F : Hp} : ∀ {d : PyData} {v : V}, d.hasDict = false → Dq K F v d → L2.Dp K F v d
  | .none, _, _, h => by cases h; exact .non
  | .bool _, _, _, h => by cases h; exact .bl _
  | .int _, _, _, h => by cases h; exact .int _
  | .str _, _, _, h => by cases h; exact .str _
  | .list ds, _, n, h => by
    cases h with
    | lst a b => exact .lst (.inl (.inl a)) (dqa_dpa (show PyData.hasDictAll ds = false from n) b)
  | .tuple ds, _, n, h => by
    cases h with
    | tup a b => exact .tup (.inl (.inl a)) (dqa_dpa (show PyData.hasDictAll ds = false from n) b)
  | .dict _, _, n, _ => by cases n
theorem dqa_dpa {K : PySem.W.Frag} {F : Hp} : ∀ {ds : List PyData} {vs : List V}, PyData.hasDictAll ds = false → DqAll K F vs ds → L2.DpAll K F vs ds
  | [], _, _, h => by cases h; exact .nil
  | _ :: _, _, n, h => by
    cases h with
    | cons a b => exact .cons (dq_dp (nodict_cons n).1 a) (dqa_dpa (nodict_cons n).2 b)
end
mutual
theorem nodict_lay : ∀ {d : PyData}, d.canLay0 = true → d.hasDict = false
  | .none, _ => rfl
  | .bool _, _ => rfl
  | .int _, _ => rfl
  | .str _, _ => rfl
  | .list ds, h => nodicts_lay (ds := ds) h
  | .tuple ds, h => nodicts_lay (ds := ds) h
  | .dict _, h => by cases h
theorem nodicts_lay : ∀ {ds : List PyData}, PyData.canLayAll0 ds = true → PyData.hasDictAll ds = false
  | [], _ => rfl
  | d :: ds, h => by
    have h : (d.canLay0 && PyData.canLayAll0 ds) = true := h
    rw [Bool.and_eq_true] at h
    show (d.hasDict || PyData.hasDictAll ds) = false
    rw [nodict_lay h.1, nodicts_lay h.2]; rfl
end
theorem nodict_shaped {d : PyData} (h : SeqAt.shaped d = true) : d.hasDict = false := by
  unfold SeqAt.shaped at h
  rw [Bool.and_eq_true] at h
  exact nodict_lay h.1
mutual
theorem dp_sub {K : PySem.W.Frag} {F H : Hp} (x : Sub F H) : ∀ {d : PyData} {v : V}, Dq K F v d → Dq K H v d
  | .none, _, h => by cases h; exact .non
  | .bool _, _, h => by cases h; exact .bl _
  | .int _, _, h => by cases h; exact .int _
  | .str _, _, h => by cases h; exact .str _
  | .list ds, _, h => by
    cases h with
    | lst a b => exact .lst (x _ _ a) (dpa_sub x b)
  | .tuple ds, _, h => by
    cases h with
    | tup a b => exact .tup (x _ _ a) (dpa_sub x b)
  | .dict _, _, h => by
    cases h with
    | dic a b => exact .dic (x _ _ a) b
theorem dpa_sub {K : PySem.W.Frag} {F H : Hp} (x : Sub F H) : ∀ {ds : List PyData} {vs : List V}, DqAll K F vs ds → DqAll K H vs ds
  | [], _, h => by cases h; exact .nil
  | _ :: _, _, h => by
    cases h with
    | cons a b => exact .cons (dp_sub x a) (dpa_sub x b)
end
section
variable {K : PySem.W.Frag} {F : Hp}
theorem dpa_len : ∀ {vs : List V} {ds : List PyData}, DqAll K F vs ds → vs.length = ds.length
  | _, _, .nil => rfl
  | _, _, .cons _ t => by rw [List.length_cons, List.length_cons, dpa_len t]
theorem dpa_app : ∀ {vs ws : List V} {ds es : List PyData}, DqAll K F vs ds → DqAll K F ws es → DqAll K F (vs ++ ws) (ds ++ es)
  | _, _, _, _, .nil, h => h
  | _, _, _, _, .cons a t, h => .cons a (dpa_app t h)
theorem dpa_get : ∀ {vs : List V} {ds : List PyData} {i : Nat} {d : PyData}, DqAll K F vs ds → ds[i]? = some d → ∃ v, vs[i]? = some v ∧ Dq K F v d
  | _, _, _, _, .nil, e => by simp at e
  | _, _, 0, _, .cons a _, e => by simp at e; subst e; exact ⟨_, rfl, a⟩
  | _, _, i + 1, _, .cons _ t, e => by
    obtain ⟨v, h1, h2⟩ := dpa_get t (i := i) (by simpa using e)
    exact ⟨v, by simpa using h1, h2⟩
theorem dpa_take : ∀ {vs : List V} {ds : List PyData} (n : Nat), DqAll K F vs ds → DqAll K F (vs.take n) (ds.take n)
  | _, _, 0, _ => .nil
  | _, _, _ + 1, .nil => .nil
  | _, _, n + 1, .cons a t => .cons a (dpa_take n t)
theorem dpa_drop : ∀ {vs : List V} {ds : List PyData} (n : Nat), DqAll K F vs ds → DqAll K F (vs.drop n) (ds.drop n)
  | _, _, 0, h => h
  | _, _, _ + 1, .nil => .nil
  | _, _, n + 1, .cons _ t => dpa_drop n t
theorem dpa_rev : ∀ {vs : List V} {ds : List PyData}, DqAll K F vs ds → DqAll K F vs.reverse ds.reverse
  | _, _, .nil => .nil
  | _, _, .cons a t => by
    rw [List.reverse_cons, List.reverse_cons]
    exact dpa_app (dpa_rev t) (.cons a .nil)
theorem dpa_set {v : V} {d : PyData} (h : Dq K F v d) : ∀ {vs : List V} {ds : List PyData} (n : Nat), DqAll K F vs ds → DqAll K F (vs.set n v) (ds.set n d)
  | _, _, _, .nil => .nil
  | _, _, 0, .cons _ t => .cons h t
  | _, _, n + 1, .cons a t => .cons a (dpa_set h n t)
theorem dpa_erase : ∀ {vs : List V} {ds : List PyData} (n : Nat), DqAll K F vs ds → DqAll K F (vs.eraseIdx n) (ds.eraseIdx n)
  | _, _, _, .nil => .nil
  | _, _, 0, .cons _ t => t
  | _, _, n + 1, .cons a t => .cons a (dpa_erase n t)
theorem dpa_last : ∀ {vs : List V} {ds : List PyData}, DqAll K F vs ds → DqAll K F vs.dropLast ds.dropLast
  | _, _, .nil => .nil
  | _, _, .cons _ .nil => .nil
  | _, _, .cons a (.cons b t) => .cons a (dpa_last (.cons b t))
theorem dpa_ints : ∀ (ns : List Int), DqAll K F (ns.map V.int) (ns.map PyData.int)
  | [] => .nil
  | _ :: t => .cons (.int _) (dpa_ints t)
theorem dpa_int_inv : ∀ {ns : List Int} {vs : List V}, DqAll K F vs (ns.map PyData.int) → vs = ns.map V.int
  | [], _, h => by cases h; rfl
  | _ :: ns, _, h => by
    cases h with
    | cons a t => cases a; rw [dpa_int_inv t]; rfl
theorem dpa_bool_inv : ∀ {bs : List Bool} {vs : List V}, DqAll K F vs (bs.map PyData.bool) → vs = bs.map V.bl
  | [], _, h => by cases h; rfl
  | _ :: ns, _, h => by
    cases h with
    | cons a t => cases a; rw [dpa_bool_inv t]; rfl
end

/-! ### states -/
/-- what is known of a value: it itself, or the data that it stands for -/
inductive AD where
  | v (x : V)
  | d (x : PyData)
def AD.ok (K : PySem.W.Frag) (F : Hp) : AD → V → Prop
  | .v x, y => y = x
  | .d x, y => Dq K F y x
theorem AD.ok.sub {K : PySem.W.Frag} {F G : Hp} (x : Sub F G) : ∀ {a : AD} {y : V}, a.ok K F y → a.ok K G y
  | .v _, _, h => h
  | .d _, _, h => dp_sub x h
/-- what is owned -/
inductive MO where
  | lst (p : Addr) (ds : List PyData)
  | raw (p : Addr) (o : HO)
  | bag (pb pc : Addr) (cells : List Int) (cur mix : Int)
  | know (v : V) (d : PyData)
  | seq (p : Addr) (ds : List PyData)
def MO.fp : MO → List Addr
  | .lst p _ => [p]
  | .raw p _ => [p]
  | .bag pb pc _ _ _ => [pb, pc]
  | .know _ _ => []
  | .seq _ _ => []
def BagAt (H : Hp) (pb pc : Addr) (cells : List Int) (cur mix : Int) : Prop :=
  H pb = some (.lst [.ref pc, .int cur, .int mix]) ∧ H pc = some (.lst (cells.map V.int))
def MO.ok (K : PySem.W.Frag) (F H : Hp) : MO → Prop
  | .lst p ds => ∃ vs, H p = some (.lst vs) ∧ DqAll K F vs ds
  | .raw p o => H p = some o ∧ ∀ xs, o ≠ .tup xs
  | .bag pb pc cs x m => BagAt H pb pc cs x m
  | .know v d => Dq K F v d
  | .seq p ds => ∃ vs, SqL K F p vs ∧ DqAll K F vs ds
theorem MO.ok.subF {K : PySem.W.Frag} {F G H : Hp} (x : Sub F G) : ∀ {m : MO}, m.ok K F H → m.ok K G H
  | .lst _ _, ⟨vs, a, b⟩ => ⟨vs, a, dpa_sub x b⟩
  | .raw _ _, h => h
  | .bag _ _ _ _ _, h => h
  | .know _ _, h => dp_sub x h
  | .seq _ _, ⟨vs, a, b⟩ => ⟨vs, sql_sub x a, dpa_sub x b⟩
theorem MO.ok.same {K : PySem.W.Frag} {F H H' : Hp} : ∀ {m : MO}, m.ok K F H → (∀ p ∈ m.fp, ∀ o, H p = some o → H' p = some o) → m.ok K F H'
  | .lst p _, ⟨vs, a, b⟩, k => ⟨vs, k p List.mem_cons_self _ a, b⟩
  | .raw p _, h, k => ⟨k p List.mem_cons_self _ h.1, h.2⟩
  | .bag pb pc _ _ _, h, k => ⟨k pb List.mem_cons_self _ h.1, k pc (List.mem_cons_of_mem _ List.mem_cons_self) _ h.2⟩
  | .know _ _, h, _ => h
  | .seq _ _, h, _ => h
theorem MO.ok.there {K : PySem.W.Frag} {F H : Hp} : ∀ {m : MO}, m.ok K F H → ∀ p ∈ m.fp, ∃ o, H p = some o ∧ ∀ xs, o ≠ .tup xs
  | .lst p _, ⟨vs, a, b⟩, q, hq => by rw [List.mem_singleton.mp hq]; exact ⟨_, a, fun _ z => nomatch z⟩
  | .raw p _, h, q, hq => by rw [List.mem_singleton.mp hq]; exact ⟨_, h.1, h.2⟩
  | .bag pb pc _ _ _, h, q, hq => by
    rcases List.mem_cons.mp hq with e | e
    · rw [e]; exact ⟨_, h.1, fun _ z => nomatch z⟩
    · rw [List.mem_singleton.mp e]; exact ⟨_, h.2, fun _ z => nomatch z⟩
  | .know _ _, _, q, hq => nomatch hq
  | .seq _ _, _, q, hq => nomatch hq

/-- the background: at the entry -/
structure Bg where
  K : PySem.W.Frag
  F0 : Hp
  H0 : Hp
  M : List Addr
def SlOk (K : PySem.W.Frag) (F : Hp) : Option AD → Option V → Prop
  | none, _ => True
  | some a, s => ∃ y, s = some y ∧ a.ok K F y
abbrev Eps := List (Option AD)
abbrev Own := List MO
def fps (L : Own) : List Addr := L.flatMap MO.fp
structure Rep (B : Bg) (ε : Eps) (L : Own) (F : Hp) (σ : St) (H : Hp) : Prop where
  sub : Sub F H
  own : ∀ m ∈ L, m.ok B.K F H
  off : ∀ p ∈ fps L, F p = none ∧ (p ∈ B.M ∨ B.H0 p = none)
  nd : (fps L).Nodup
  sl : ∀ (i : Nat) (x : Option AD), ε[i]? = some x → ∃ s, σ[i]? = some s ∧ SlOk B.K F x s
  len : σ.length = ε.length
  f0 : Sub B.F0 F
  h0 : ∀ a o, a ∉ B.M → B.H0 a = some o → H a = some o
  nc : ∀ a, B.F0 a = none → B.H0 a ≠ none → F a = none ∨ ∃ xs, B.H0 a = some (.tup xs)
  mm : ∀ p ∈ B.M, p ∈ fps L
theorem mem_fps {L : Own} {m : MO} (h : m ∈ L) {p : Addr} (hp : p ∈ m.fp) : p ∈ fps L := List.mem_flatMap.mpr ⟨m, h, hp⟩

theorem fps_sub {L L' : Own} (h : L'.Sublist L) : (fps L').Sublist (fps L) := by
  induction h with
  | slnil => exact List.Sublist.refl _
  | cons a _ ih => exact List.Sublist.trans ih (List.sublist_append_right a.fp _)
  | cons_cons a _ ih => exact List.Sublist.append (List.Sublist.refl a.fp) ih
section
variable {B : Bg} {ε : Eps} {L : Own} {F : Hp} {σ : St} {H : Hp}
theorem Rep.thereN (r : Rep B ε L F σ H) {p : Addr} (hp : p ∈ fps L) : ∃ o, H p = some o ∧ ∀ xs, o ≠ .tup xs := by
  obtain ⟨m, hm, h⟩ := List.mem_flatMap.mp hp
  exact (r.own m hm).there p h
theorem Rep.there (r : Rep B ε L F σ H) {p : Addr} (hp : p ∈ fps L) : ∃ o, H p = some o :=
  let ⟨o, h, _⟩ := r.thereN hp
  ⟨o, h⟩
theorem Rep.noT (r : Rep B ε L F σ H) {p : Addr} (hp : p ∈ fps L) {xs : List V} (h : H p = some (.tup xs)) : False := by
  obtain ⟨o, h1, h2⟩ := r.thereN hp
  rw [h] at h1; cases h1; exact h2 xs rfl
theorem Rep.new (r : Rep B ε L F σ H) {p : Addr} (hp : H p = none) : p ∉ fps L := fun h => by
  obtain ⟨o, e⟩ := r.there h
  rw [hp] at e; cases e
theorem Rep.newM (r : Rep B ε L F σ H) {p : Addr} (hp : H p = none) : p ∉ B.M := fun h => r.new hp (r.mm p h)
theorem Rep.newH (r : Rep B ε L F σ H) {p : Addr} (hp : H p = none) : B.H0 p = none := by
  cases e : B.H0 p with
  | none => rfl
  | some o => rw [r.h0 p o (r.newM hp) e] at hp; cases hp
/-- the heap grows by things that do not matter -/
theorem Rep.heap (r : Rep B ε L F σ H) {H' : Hp} (k : Sub H H') : Rep B ε L F σ H' :=
  ⟨r.sub.tr k, fun m hm => (r.own m hm).same fun p _ o e => k p o e, r.off, r.nd, r.sl, r.len, r.f0, fun a o h e => k a o (r.h0 a o h e), r.nc, r.mm⟩
theorem SlOk.sub {K : PySem.W.Frag} {F G : Hp} (x : Sub F G) : ∀ {a : Option AD} {s : Option V}, SlOk K F a s → SlOk K G a s
  | none, _, _ => trivial
  | some _, _, ⟨y, e, h⟩ => ⟨y, e, h.sub x⟩
/-- a new frozen object -/
theorem Rep.grow (r : Rep B ε L F σ H) {p : Addr} {o : HO} (hp : H p = none) : Rep B ε L (upd F p o) σ (upd H p o) := by
  have hF := sub_none r.sub hp
  refine ⟨sub_upd r.sub p o, fun m hm => ((r.own m hm).subF (sub_fresh hF)).same fun q hq u e => ?_, fun q hq => ?_, r.nd, fun i x e => ?_, r.len, r.f0.tr (sub_fresh hF), fun a u h e => sub_fresh hp a u (r.h0 a u h e), fun a h1 h2 => ?_, r.mm⟩
  · exact sub_fresh hp q u e
  · have : q ≠ p := fun e => r.new hp (e ▸ hq)
    exact ⟨by rw [upd_ne this]; exact (r.off q hq).1, (r.off q hq).2⟩
  · obtain ⟨s, h1, h2⟩ := r.sl i x e
    exact ⟨s, h1, h2.sub (sub_fresh hF)⟩
  · have : a ≠ p := fun e => h2 (e ▸ r.newH hp)
    rw [upd_ne this]; exact r.nc a h1 h2
/-- a new owned object -/
theorem Rep.alloc (r : Rep B ε L F σ H) {p : Addr} {o : HO} {m : MO} (hp : H p = none) (hm : m.fp = [p]) (ok : m.ok B.K F (upd H p o)) : Rep B ε (m :: L) F σ (upd H p o) := by
  have hF := sub_none r.sub hp
  have e1 : fps (m :: L) = p :: fps L := by unfold fps; rw [List.flatMap_cons, hm]; rfl
  refine ⟨r.sub.tr (sub_fresh hp), fun x hx => ?_, fun q hq => ?_, ?_, r.sl, r.len, r.f0, fun a u h e => sub_fresh hp a u (r.h0 a u h e), r.nc, fun q hq => ?_⟩
  · rcases List.mem_cons.mp hx with e | e
    · rw [e]; exact ok
    · exact (r.own x e).same fun q _ u e => sub_fresh hp q u e
  · rw [e1] at hq
    rcases List.mem_cons.mp hq with e | e
    · rw [e]; exact ⟨hF, .inr (r.newH hp)⟩
    · exact r.off q e
  · rw [e1]; exact List.nodup_cons.mpr ⟨r.new hp, r.nd⟩
  · rw [e1]; exact List.mem_cons_of_mem _ (r.mm q hq)
theorem fps_set : ∀ {L : Own} {k : Nat} {m m' : MO}, L[k]? = some m → m'.fp = m.fp → fps (L.set k m') = fps L
  | [], _, _, _, h, _ => by simp at h
  | x :: L, 0, m, m', h, e => by
    simp at h; subst h
    show m'.fp ++ fps L = x.fp ++ fps L
    rw [e]
  | x :: L, k + 1, m, m', h, e => by
    show x.fp ++ fps (L.set k m') = x.fp ++ fps L
    rw [fps_set (by simpa using h) e]
theorem fps_apart : ∀ {L : Own} {k j : Nat} {m x : MO}, (fps L).Nodup → L[k]? = some m → L[j]? = some x → k ≠ j → ∀ p ∈ m.fp, p ∉ x.fp
  | [], _, _, _, _, _, h, _, _ => by simp at h
  | y :: L, 0, 0, _, _, _, _, _, n => absurd rfl n
  | y :: L, 0, j + 1, m, x, nd, h, h', _ => by
    simp at h; subst h
    have nd' : (y.fp ++ fps L).Nodup := nd
    intro p hp hx
    exact (List.nodup_append.mp nd').2.2 p hp p (mem_fps (List.mem_of_getElem? (by simpa using h')) hx) rfl
  | y :: L, k + 1, 0, m, x, nd, h, h', _ => by
    simp at h'; subst h'
    have nd' : (y.fp ++ fps L).Nodup := nd
    intro p hp hx
    exact (List.nodup_append.mp nd').2.2 p hx p (mem_fps (List.mem_of_getElem? (by simpa using h)) hp) rfl
  | y :: L, k + 1, j + 1, m, x, nd, h, h', n => by
    have nd' : (y.fp ++ fps L).Nodup := nd
    exact fps_apart (List.nodup_append.mp nd').2.1 (by simpa using h) (by simpa using h') fun e => n (by rw [e])
/-- an owned thing changes: all else stays -/
theorem Rep.chg (r : Rep B ε L F σ H) {k : Nat} {m m' : MO} {H' : Hp} (hk : L[k]? = some m) (hf : m'.fp = m.fp) (ok : m'.ok B.K F H') (keep : ∀ a o, a ∉ m.fp → H a = some o → H' a = some o) : Rep B ε (L.set k m') F σ H' := by
  have ef := fps_set (m' := m') hk hf
  have hmem : ∀ p ∈ m.fp, p ∈ fps L := fun p hp => mem_fps (List.mem_of_getElem? hk) hp
  have kf : ∀ a o, F a = some o → H' a = some o := fun a o e => keep a o (fun h => by rw [(r.off a (hmem a h)).1] at e; cases e) (r.sub a o e)
  refine ⟨kf, fun x hx => ?_, by rw [ef]; exact r.off, by rw [ef]; exact r.nd, r.sl, r.len, r.f0, fun a o h e => ?_, r.nc, by rw [ef]; exact r.mm⟩
  · obtain ⟨j, hj⟩ := List.mem_iff_getElem?.mp hx
    rw [List.getElem?_set] at hj
    split at hj
    · split at hj
      · cases hj; exact ok
      · cases hj
    · rename_i ne
      exact (r.own x (List.mem_of_getElem? hj)).same fun p hp o e => keep p o (fun h => fps_apart r.nd hk hj ne p h hp) e
  · refine keep a o (fun hm => ?_) (r.h0 a o h e)
    rcases (r.off a (hmem a hm)).2 with q | q
    · exact h q
    · rw [q] at e; cases e
theorem Rep.slot (r : Rep B ε L F σ H) {i : Nat} {a : AD} {y : V} (h : a.ok B.K F y) : Rep B (ε.set i (some a)) L F (σ.set i (some y)) H := by
  refine ⟨r.sub, r.own, r.off, r.nd, fun j x e => ?_, by rw [List.length_set, List.length_set]; exact r.len, r.f0, r.h0, r.nc, r.mm⟩
  rw [List.getElem?_set] at e
  rw [List.getElem?_set, r.len]
  split at e
  · rename_i ij
    subst ij
    split at e
    · rename_i il
      cases e
      rw [if_pos rfl, if_pos il]
      exact ⟨_, rfl, y, rfl, h⟩
    · cases e
  · rename_i ij
    rw [if_neg ij]
    exact r.sl j x e
/-- forget slots -/
def Wk : Eps → Eps → Prop
  | [], [] => True
  | a :: x, b :: y => (b = none ∨ b = a) ∧ Wk x y
  | _, _ => False
theorem Wk.refl : ∀ x : Eps, Wk x x
  | [] => trivial
  | _ :: x => ⟨.inr rfl, Wk.refl x⟩
theorem Wk.len : ∀ {x y : Eps}, Wk x y → x.length = y.length
  | [], [], _ => rfl
  | _ :: _, _ :: _, h => by rw [List.length_cons, List.length_cons, Wk.len h.2]
theorem Wk.get : ∀ {x y : Eps}, Wk x y → ∀ (i : Nat) b, y[i]? = some b → b = none ∨ x[i]? = some b
  | [], [], _, i, b, e => by simp at e
  | a :: x, c :: y, h, 0, b, e => by
    simp at e; subst e
    rcases h.1 with z | z
    · exact .inl z
    · exact .inr (by rw [z]; rfl)
  | a :: x, c :: y, h, i + 1, b, e => by
    rcases Wk.get h.2 i b (by simpa using e) with z | z
    · exact .inl z
    · exact .inr (by simpa using z)
theorem Rep.wk (r : Rep B ε L F σ H) {ε' : Eps} (w : Wk ε ε') : Rep B ε' L F σ H := by
  refine ⟨r.sub, r.own, r.off, r.nd, fun j x e => ?_, by rw [r.len, w.len], r.f0, r.h0, r.nc, r.mm⟩
  rcases w.get j x e with z | z
  · subst z
    have : j < σ.length := by
      rw [r.len, w.len]
      exact (List.getElem?_eq_some_iff.mp e).1
    exact ⟨_, List.getElem?_eq_getElem this, trivial⟩
  · exact r.sl j x z
/-- one more thing known -/
theorem Rep.learn (r : Rep B ε L F σ H) {v : V} {d : PyData} (h : Dq B.K F v d) : Rep B ε (L ++ [.know v d]) F σ H := by
  have e1 : fps (L ++ [.know v d]) = fps L := by unfold fps; rw [List.flatMap_append]; show _ ++ [] = _; rw [List.append_nil]
  refine ⟨r.sub, fun m hm => ?_, by rw [e1]; exact r.off, by rw [e1]; exact r.nd, r.sl, r.len, r.f0, r.h0, r.nc, by rw [e1]; exact r.mm⟩
  rcases List.mem_append.mp hm with q | q
  · exact r.own m q
  · rw [List.mem_singleton.mp q]; exact h
/-- what is known is forgotten; what is owned (and is not the entry's) is given up -/
theorem Rep.drop (r : Rep B ε L F σ H) {k : Nat} {m : MO} (hk : L[k]? = some m) (hM : ∀ p ∈ m.fp, p ∉ B.M) : Rep B ε (L.eraseIdx k) F σ H := by
  have hs : ∀ x ∈ L.eraseIdx k, x ∈ L := fun x hx => List.mem_of_mem_eraseIdx hx
  have hp : ∀ p ∈ fps (L.eraseIdx k), p ∈ fps L := fun p hp => by
    obtain ⟨x, h1, h2⟩ := List.mem_flatMap.mp hp
    exact mem_fps (hs x h1) h2
  refine ⟨r.sub, fun x hx => r.own x (hs x hx), fun p h => r.off p (hp p h), ?_, r.sl, r.len, r.f0, r.h0, r.nc, fun p hpM => ?_⟩
  · have : (fps (L.eraseIdx k)).Sublist (fps L) := fps_sub (List.eraseIdx_sublist L k)
    exact r.nd.sublist this
  · obtain ⟨x, h1, h2⟩ := List.mem_flatMap.mp (r.mm p hpM)
    refine List.mem_flatMap.mpr ⟨x, ?_, h2⟩
    obtain ⟨j, hj⟩ := List.mem_iff_getElem?.mp h1
    have ne : j ≠ k := fun e => by
      subst e
      rw [hk] at hj; cases hj
      exact hM p h2 hpM
    rw [List.mem_eraseIdx_iff_getElem?]
    exact ⟨j, ne, hj⟩
end

/-! ### judgements -/
section
variable (B : Bg)
def Ho (P : St → Hp → Prop) (ε : Eps) (L : Own) : Prop := ∀ F σ H, Rep B ε L F σ H → P σ H
def EX (te : TE) (ε : Eps) (L : Own) (a : AD) (L' : Own) : Prop := ∀ F σ H, Rep B ε L F σ H → ∀ Q : VK, (∀ v F' H', Sub F F' → Rep B ε L' F' σ H' → a.ok B.K F' v → Q v H') → te σ H Q
/-- a new list, owned: it stands at the head of L' -/
def EN (te : TE) (ε : Eps) (L : Own) (ds : List PyData) (L' : Own) : Prop := ∀ F σ H, Rep B ε L F σ H → ∀ Q : VK, (∀ p F' H', Sub F F' → p ∉ B.M → Rep B ε (.lst p ds :: L') F' σ H' → Q (.ref p) H') → te σ H Q
def ETt (tt : TT) (ε : Eps) (L : Own) (b : Bool) (L' : Own) : Prop := ∀ F σ H, Rep B ε L F σ H → ∀ Q : Bool → Hp → Prop, (∀ F' H', Sub F F' → Rep B ε L' F' σ H' → Q b H') → tt σ H Q
def AdAll (K : PySem.W.Frag) (F : Hp) : List AD → List V → Prop
  | [], [] => True
  | a :: as, v :: vs => a.ok K F v ∧ AdAll K F as vs
  | _, _ => False
def EA (ta : TA) (ε : Eps) (L : Own) (as : List AD) (L' : Own) : Prop := ∀ F σ H, Rep B ε L F σ H → ∀ Q : List V → Hp → Prop, (∀ vs F' H', Sub F F' → Rep B ε L' F' σ H' → AdAll B.K F' as vs → Q vs H') → ta σ H Q
def EO (to : TO) (ε : Eps) (L : Own) (o : Option Int) (L' : Own) : Prop := ∀ F σ H, Rep B ε L F σ H → ∀ Q : Option Int → Hp → Prop, (∀ F' H', Sub F F' → Rep B ε L' F' σ H' → Q o H') → to σ H Q
def GT (g : TG) (a : AD) (ε ε' : Eps) : Prop := ∀ L F σ H v, Rep B ε L F σ H → a.ok B.K F v → ∀ P : St → Hp → Prop, (∀ σ', Rep B ε' L F σ' H → P σ' H) → g v σ H P
def AbsP (I : Eps → Own → Prop) : St → Hp → Prop := fun σ H => ∃ ε L F, I ε L ∧ Rep B ε L F σ H
end
theorem AdAll.sub {K : PySem.W.Frag} {F G : Hp} (x : Sub F G) : ∀ {as : List AD} {vs : List V}, AdAll K F as vs → AdAll K G as vs
  | [], [], h => h
  | _ :: _, _ :: _, h => ⟨h.1.sub x, AdAll.sub x h.2⟩

section
variable {B : Bg} {ε ε' : Eps} {L L' L0 L1 L2 L3 : Own} {te ta tb : TE} {tt tu : TT} {tas tr : TA} {a b : AD} {D : Ends} {ts tc : TS}
/-! #### names, constants -/
theorem ex_v {i : Nat} (h : ε[i]? = some (some a)) : EX B (tVar i) ε L a L := fun F σ H r Q q => by
  obtain ⟨s, h1, y, rfl, h2⟩ := r.sl i _ h
  exact ⟨y, h1, q y F H (Sub.rfl' F) r h2⟩
theorem ex_cI {i : Int} : EX B (tC (.int i)) ε L (.d (.int i)) L := fun F σ H r Q q => q _ F H (Sub.rfl' F) r (.int i)
theorem ex_cB {i : Bool} : EX B (tC (.bl i)) ε L (.d (.bool i)) L := fun F σ H r Q q => q _ F H (Sub.rfl' F) r (.bl i)
theorem ex_cN : EX B (tC .non) ε L (.d .none) L := fun F σ H r Q q => q _ F H (Sub.rfl' F) r .non
theorem ex_cS {s : Str} : EX B (tC (.str s)) ε L (.d (.str s)) L := fun F σ H r Q q => q _ F H (Sub.rfl' F) r (.str s)
/-! #### two places -/
/-- what an operation gives, by what is known of its places -/
def RX (B : Bg) (r : R2) (ε : Eps) (L : Own) (x y z : AD) (L' : Own) : Prop := ∀ F σ H v w, Rep B ε L F σ H → x.ok B.K F v → y.ok B.K F w → ∀ Q : VK, (∀ u F' H', Sub F F' → Rep B ε L' F' σ H' → z.ok B.K F' u → Q u H') → r v w H Q
def RN (B : Bg) (r : R2) (ε : Eps) (L : Own) (x y : AD) (ds : List PyData) (L' : Own) : Prop := ∀ F σ H v w, Rep B ε L F σ H → x.ok B.K F v → y.ok B.K F w → ∀ Q : VK, (∀ p F' H', Sub F F' → p ∉ B.M → Rep B ε (.lst p ds :: L') F' σ H' → Q (.ref p) H') → r v w H Q
variable {r : R2} {x y z : AD}
theorem ex_op (ha : EX B ta ε L x L1) (hb : EX B tb ε L1 y L2) (hr : RX B r ε L2 x y z L3) : EX B (tOp r ta tb) ε L z L3 := fun F σ H rp Q q =>
  ha F σ H rp _ fun v F1 H1 s1 r1 o1 => hb F1 σ H1 r1 _ fun w F2 H2 s2 r2 o2 => hr F2 σ H2 v w r2 (o1.sub s2) o2 Q fun u F3 H3 s3 r3 o3 => q u F3 H3 ((s1.tr s2).tr s3) r3 o3
theorem en_op {ds : List PyData} (ha : EX B ta ε L x L1) (hb : EX B tb ε L1 y L2) (hr : RN B r ε L2 x y ds L3) : EN B (tOp r ta tb) ε L ds L3 := fun F σ H rp Q q =>
  ha F σ H rp _ fun v F1 H1 s1 r1 o1 => hb F1 σ H1 r1 _ fun w F2 H2 s2 r2 o2 => hr F2 σ H2 v w r2 (o1.sub s2) o2 Q fun u F3 H3 s3 hp r3 => q u F3 H3 ((s1.tr s2).tr s3) hp r3
theorem int_inv {K : PySem.W.Frag} {F : Hp} {v : V} {i : Int} (h : (AD.d (.int i)).ok K F v) : v = .int i := by cases h; rfl
theorem bool_inv {K : PySem.W.Frag} {F : Hp} {v : V} {i : Bool} (h : (AD.d (.bool i)).ok K F v) : v = .bl i := by cases h; rfl
theorem rx_I0 {g : Int → Int → V} {d : PyData} {i j : Int} (hd : ∀ K F, Dq K F (g i j) d) : RX B (rI0 g) ε L (.d (.int i)) (.d (.int j)) (.d d) L := fun F σ H v w rp hv hw Q q =>
  ⟨i, j, int_inv hv, int_inv hw, q _ F H (Sub.rfl' F) rp (hd _ _)⟩
theorem rx_I {C : Int → Int → Prop} {g : Int → Int → V} {d : PyData} {i j : Int} (hc : C i j) (hd : ∀ K F, Dq K F (g i j) d) : RX B (rI C g) ε L (.d (.int i)) (.d (.int j)) (.d d) L := fun F σ H v w rp hv hw Q q =>
  ⟨i, j, int_inv hv, int_inv hw, hc, q _ F H (Sub.rfl' F) rp (hd _ _)⟩
variable {i j : Int}
theorem ex_add (ha : EX B ta ε L (.d (.int i)) L1) (hb : EX B tb ε L1 (.d (.int j)) L2) : EX B (tOp (rI0 fun i j => .int (i + j)) ta tb) ε L (.d (.int (i + j))) L2 := ex_op ha hb (rx_I0 fun _ _ => .int _)
theorem ex_sub (ha : EX B ta ε L (.d (.int i)) L1) (hb : EX B tb ε L1 (.d (.int j)) L2) : EX B (tOp (rI0 fun i j => .int (i - j)) ta tb) ε L (.d (.int (i - j))) L2 := ex_op ha hb (rx_I0 fun _ _ => .int _)
theorem ex_mul (ha : EX B ta ε L (.d (.int i)) L1) (hb : EX B tb ε L1 (.d (.int j)) L2) (hc : CMulW i j) : EX B (tOp (rI CMulW fun i j => .int (i * j)) ta tb) ε L (.d (.int (i * j))) L2 := ex_op ha hb (rx_I hc fun _ _ => .int _)
theorem ex_pow (ha : EX B ta ε L (.d (.int i)) L1) (hb : EX B tb ε L1 (.d (.int j)) L2) (hc : CPow i j) : EX B (tOp (rI CPow fun i j => .int (i ^ j.toNat)) ta tb) ε L (.d (.int (i ^ j.toNat))) L2 := ex_op ha hb (rx_I hc fun _ _ => .int _)
theorem ex_mod (ha : EX B ta ε L (.d (.int i)) L1) (hb : EX B tb ε L1 (.d (.int j)) L2) (hc : 0 < j) : EX B (tOp (rI (fun _ j => 0 < j) fun i j => .int (i % j)) ta tb) ε L (.d (.int (i % j))) L2 := ex_op ha hb (rx_I hc fun _ _ => .int _)
theorem ex_fdiv (ha : EX B ta ε L (.d (.int i)) L1) (hb : EX B tb ε L1 (.d (.int j)) L2) (hc : CDivW i j) : EX B (tOp (rI CDivW fun i j => .int (i / j)) ta tb) ε L (.d (.int (i / j))) L2 := ex_op ha hb (rx_I hc fun _ _ => .int _)
theorem ex_lt (ha : EX B ta ε L (.d (.int i)) L1) (hb : EX B tb ε L1 (.d (.int j)) L2) : EX B (tOp (rI0 fun i j => .bl (decide (i < j))) ta tb) ε L (.d (.bool (decide (i < j)))) L2 := ex_op ha hb (rx_I0 fun _ _ => .bl _)
theorem ex_le (ha : EX B ta ε L (.d (.int i)) L1) (hb : EX B tb ε L1 (.d (.int j)) L2) : EX B (tOp (rI0 fun i j => .bl (decide (i ≤ j))) ta tb) ε L (.d (.bool (decide (i ≤ j)))) L2 := ex_op ha hb (rx_I0 fun _ _ => .bl _)
theorem ex_gt (ha : EX B ta ε L (.d (.int i)) L1) (hb : EX B tb ε L1 (.d (.int j)) L2) : EX B (tOp (rI0 fun i j => .bl (decide (j < i))) ta tb) ε L (.d (.bool (decide (j < i)))) L2 := ex_op ha hb (rx_I0 fun _ _ => .bl _)
theorem ex_ge (ha : EX B ta ε L (.d (.int i)) L1) (hb : EX B tb ε L1 (.d (.int j)) L2) : EX B (tOp (rI0 fun i j => .bl (decide (j ≤ i))) ta tb) ε L (.d (.bool (decide (j ≤ i)))) L2 := ex_op ha hb (rx_I0 fun _ _ => .bl _)
theorem ex_eqI (ha : EX B ta ε L (.d (.int i)) L1) (hb : EX B tb ε L1 (.d (.int j)) L2) : EX B (tOp rEq ta tb) ε L (.d (.bool (decide (i = j)))) L2 := ex_op ha hb fun F σ H v w rp hv hw Q q => by
  rw [int_inv hv, int_inv hw]
  refine ⟨rfl, ?_⟩
  have e : decide ((V.int i) = V.int j) = decide (i = j) := by
    by_cases h : i = j
    · subst h; simp
    · rw [decide_eq_false h, decide_eq_false fun z => h (V.int.inj z)]
  rw [e]
  exact q _ F H (Sub.rfl' F) rp (.bl _)
theorem ex_neI (ha : EX B ta ε L (.d (.int i)) L1) (hb : EX B tb ε L1 (.d (.int j)) L2) : EX B (tOp rNe ta tb) ε L (.d (.bool (!decide (i = j)))) L2 := ex_op ha hb fun F σ H v w rp hv hw Q q => by
  rw [int_inv hv, int_inv hw]
  refine ⟨rfl, ?_⟩
  have e : decide ((V.int i) = V.int j) = decide (i = j) := by
    by_cases h : i = j
    · subst h; simp
    · rw [decide_eq_false h, decide_eq_false fun z => h (V.int.inj z)]
  rw [e]
  exact q _ F H (Sub.rfl' F) rp (.bl _)
theorem ex_neS {s t : Str} (ha : EX B ta ε L (.d (.str s)) L1) (hb : EX B tb ε L1 (.d (.str t)) L2) : EX B (tOp rNe ta tb) ε L (.d (.bool (!decide (s = t)))) L2 := ex_op ha hb fun F σ H v w rp hv hw Q q => by
  have e1 : v = .str s := by cases hv; rfl
  have e2 : w = .str t := by cases hw; rfl
  rw [e1, e2]
  refine ⟨rfl, ?_⟩
  have e : decide ((V.str s) = V.str t) = decide (s = t) := by
    by_cases h : s = t
    · subst h; simp
    · rw [decide_eq_false h, decide_eq_false fun z => h (V.str.inj z)]
  rw [e]
  exact q _ F H (Sub.rfl' F) rp (.bl _)
theorem ex_eqS {s t : Str} (ha : EX B ta ε L (.d (.str s)) L1) (hb : EX B tb ε L1 (.d (.str t)) L2) : EX B (tOp rEq ta tb) ε L (.d (.bool (decide (s = t)))) L2 := ex_op ha hb fun F σ H v w rp hv hw Q q => by
  have e1 : v = .str s := by cases hv; rfl
  have e2 : w = .str t := by cases hw; rfl
  rw [e1, e2]
  refine ⟨rfl, ?_⟩
  have e : decide ((V.str s) = V.str t) = decide (s = t) := by
    by_cases h : s = t
    · subst h; simp
    · rw [decide_eq_false h, decide_eq_false fun z => h (V.str.inj z)]
  rw [e]
  exact q _ F H (Sub.rfl' F) rp (.bl _)
/-- == and != of data -/
theorem ex_eqD {d e : PyData} (ha : EX B ta ε L (.d d) L1) (hb : EX B tb ε L1 (.d e) L2) (h1 : SeqAt.shaped d = true) (h2 : SeqAt.shaped e = true) : EX B (tOp (rEqD B.K) ta tb) ε L (.d (.bool (PyData.eqv d e))) L2 := ex_op ha hb fun F σ H v w rp hv hw Q q =>
  ⟨d, e, dq_dp (nodict_shaped h1) (dp_sub rp.sub hv), dq_dp (nodict_shaped h2) (dp_sub rp.sub hw), h1, h2, q _ F H (Sub.rfl' F) rp (.bl _)⟩
theorem ex_neD {d e : PyData} (ha : EX B ta ε L (.d d) L1) (hb : EX B tb ε L1 (.d e) L2) (h1 : SeqAt.shaped d = true) (h2 : SeqAt.shaped e = true) : EX B (tOp (rNeD B.K) ta tb) ε L (.d (.bool (!PyData.eqv d e))) L2 := ex_op ha hb fun F σ H v w rp hv hw Q q =>
  ⟨d, e, dq_dp (nodict_shaped h1) (dp_sub rp.sub hv), dq_dp (nodict_shaped h2) (dp_sub rp.sub hw), h1, h2, q _ F H (Sub.rfl' F) rp (.bl _)⟩
def isNoneD : PyData → Bool
  | .none => true
  | _ => false
theorem ex_isN {d : PyData} (ha : EX B ta ε L (.d d) L1) : EX B (tIsN ta) ε L (.d (.bool (isNoneD d))) L1 := fun F σ H rp Q q =>
  ha F σ H rp _ fun v F1 H1 s1 r1 o1 => by
    have e : decide (v = V.non) = isNoneD d := by
      have o2 : Dq B.K F1 v d := o1
      cases o2 <;> rfl
    show Q (.bl (decide (v = .non))) H1
    rw [e]
    exact q _ F1 H1 s1 r1 (.bl _)
theorem ex_notN {d : PyData} (ha : EX B ta ε L (.d d) L1) : EX B (tNotN ta) ε L (.d (.bool (!isNoneD d))) L1 := fun F σ H rp Q q =>
  ha F σ H rp _ fun v F1 H1 s1 r1 o1 => by
    have e : (!decide (v = V.non)) = (!isNoneD d) := by
      have o2 : Dq B.K F1 v d := o1
      cases o2 <;> rfl
    show Q (.bl (!decide (v = .non))) H1
    rw [e]
    exact q _ F1 H1 s1 r1 (.bl _)
theorem ex_neg (ha : EX B ta ε L (.d (.int i)) L1) : EX B (tUn (rU fun i => .int (-i)) ta) ε L (.d (.int (-i))) L1 := fun F σ H rp Q q =>
  ha F σ H rp _ fun v F1 H1 s1 r1 o1 => ⟨i, int_inv o1, q _ F1 H1 s1 r1 (.int _)⟩
/-- the result said otherwise -/
theorem ex_is {c : AD} (h : EX B te ε L a L1) (e : a = c) : EX B te ε L c L1 := e ▸ h
theorem ex_int {k : Int} (h : EX B te ε L (.d (.int i)) L1) (e : i = k) : EX B te ε L (.d (.int k)) L1 := e ▸ h
theorem ex_boolE {b c : Bool} (h : EX B te ε L (.d (.bool b)) L1) (e : b = c) : EX B te ε L (.d (.bool c)) L1 := e ▸ h
theorem et_is {b c : Bool} (h : ETt B tt ε L b L1) (e : b = c) : ETt B tt ε L c L1 := e ▸ h
/-! #### tests -/
theorem et_test {b : Bool} (h : EX B te ε L (.d (.bool b)) L1) : ETt B (tTest te) ε L b L1 := fun F σ H rp Q q => h F σ H rp _ fun v F1 H1 s1 r1 o1 => ⟨b, bool_inv o1, q F1 H1 s1 r1⟩
theorem et_B {b : Bool} (h : EX B te ε L (.d (.bool b)) L1) : ETt B (tB te) ε L b L1 := fun F σ H rp Q q => h F σ H rp _ fun v F1 H1 s1 r1 o1 => ⟨b, bool_inv o1, q F1 H1 s1 r1⟩
theorem et_and {b c : Bool} (h1 : ETt B tt ε L b L1) (h2 : b = true → ETt B tu ε L1 c L2) (hL : b = false → L1 = L2) : ETt B (tAnd tt tu) ε L (b && c) L2 := fun F σ H rp Q q => h1 F σ H rp _ fun F1 H1 s1 r1 => by
  cases b with
  | true => exact h2 rfl F1 σ H1 r1 Q fun F2 H2 s2 r2 => q F2 H2 (s1.tr s2) r2
  | false => exact q F1 H1 s1 (hL rfl ▸ r1)
theorem et_or {b c : Bool} (h1 : ETt B tt ε L b L1) (h2 : b = false → ETt B tu ε L1 c L2) (hL : b = true → L1 = L2) : ETt B (tOr tt tu) ε L (b || c) L2 := fun F σ H rp Q q => h1 F σ H rp _ fun F1 H1 s1 r1 => by
  cases b with
  | false => exact h2 rfl F1 σ H1 r1 Q fun F2 H2 s2 r2 => q F2 H2 (s1.tr s2) r2
  | true => exact q F1 H1 s1 (hL rfl ▸ r1)
theorem et_not {b : Bool} (h : ETt B tt ε L b L1) : ETt B (tNot tt) ε L (!b) L1 := fun F σ H rp Q q => h F σ H rp _ fun F1 H1 s1 r1 => q F1 H1 s1 r1
theorem ex_notV {b : Bool} (h : EX B te ε L (.d (.bool b)) L1) : EX B (tNotV te) ε L (.d (.bool (!b))) L1 := fun F σ H rp Q q => h F σ H rp _ fun v F1 H1 s1 r1 o1 => ⟨b, bool_inv o1, q _ F1 H1 s1 r1 (.bl _)⟩
theorem ex_andV {b c : Bool} (h1 : EX B ta ε L (.d (.bool b)) L1) (h2 : b = true → EX B tb ε L1 (.d (.bool c)) L2) (hL : b = false → L1 = L2) : EX B (tAndV ta tb) ε L (.d (.bool (b && c))) L2 := fun F σ H rp Q q => h1 F σ H rp _ fun v F1 H1 s1 r1 o1 => ⟨b, bool_inv o1, by
  cases b with
  | true => exact h2 rfl F1 σ H1 r1 Q fun v2 F2 H2 s2 r2 o2 => q v2 F2 H2 (s1.tr s2) r2 o2
  | false => exact q _ F1 H1 s1 (hL rfl ▸ r1) (.bl _)⟩
theorem ex_orV {b c : Bool} (h1 : EX B ta ε L (.d (.bool b)) L1) (h2 : b = false → EX B tb ε L1 (.d (.bool c)) L2) (hL : b = true → L1 = L2) : EX B (tOrV ta tb) ε L (.d (.bool (b || c))) L2 := fun F σ H rp Q q => h1 F σ H rp _ fun v F1 H1 s1 r1 o1 => ⟨b, bool_inv o1, by
  cases b with
  | false => exact h2 rfl F1 σ H1 r1 Q fun v2 F2 H2 s2 r2 o2 => q v2 F2 H2 (s1.tr s2) r2 o2
  | true => exact q _ F1 H1 s1 (hL rfl ▸ r1) (.bl _)⟩
theorem ex_if {b : Bool} (h : ETt B tt ε L b L1) (h1 : b = true → EX B ta ε L1 a L2) (h2 : b = false → EX B tb ε L1 a L2) : EX B (tIf tt ta tb) ε L a L2 := fun F σ H rp Q q => h F σ H rp _ fun F1 H1 s1 r1 => by
  cases b with
  | true => exact h1 rfl F1 σ H1 r1 Q fun v2 F2 H2 s2 r2 o2 => q v2 F2 H2 (s1.tr s2) r2 o2
  | false => exact h2 rfl F1 σ H1 r1 Q fun v2 F2 H2 s2 r2 o2 => q v2 F2 H2 (s1.tr s2) r2 o2
/-- x if c else y, on ints -/
theorem ex_ifI {b : Bool} (h : ETt B tt ε L b L1) (h1 : b = true → EX B ta ε L1 (.d (.int i)) L2) (h2 : b = false → EX B tb ε L1 (.d (.int j)) L2) : EX B (tIf tt ta tb) ε L (.d (.int (if b then i else j))) L2 :=
  ex_if h (fun e => ex_int (h1 e) (by rw [e]; rfl)) (fun e => ex_int (h2 e) (by rw [e]; rfl))
/-! #### arguments, displays -/
theorem ea_nil : EA B tNil ε L [] L := fun F σ H rp Q q => q [] F H (Sub.rfl' F) rp trivial
theorem ea_cons {as : List AD} (h : EX B te ε L a L1) (hr : EA B tr ε L1 as L2) : EA B (tCons te tr) ε L (a :: as) L2 := fun F σ H rp Q q =>
  h F σ H rp _ fun v F1 H1 s1 r1 o1 => hr F1 σ H1 r1 _ fun vs F2 H2 s2 r2 o2 => q _ F2 H2 (s1.tr s2) r2 ⟨o1.sub s2, o2⟩
theorem ad_data {K : PySem.W.Frag} {F : Hp} : ∀ {ds : List PyData} {vs : List V}, AdAll K F (ds.map AD.d) vs → DqAll K F vs ds
  | [], [], _ => .nil
  | _ :: _, _ :: _, h => .cons h.1 (ad_data h.2)
theorem ex_tup {ds : List PyData} (h : EA B tas ε L (ds.map AD.d) L1) (hl : ds.length ≤ 100000) : EX B (tTup tas) ε L (.d (.tuple ds)) L1 := fun F σ H rp Q q =>
  h F σ H rp _ fun vs F1 H1 s1 r1 o1 => by
    have oa := ad_data o1
    refine ⟨Evl.sz_of (by rw [dpa_len oa]; exact hl), fun p hp => ?_⟩
    have hF := sub_none r1.sub hp
    exact q _ _ _ (s1.tr (sub_fresh hF)) (r1.grow hp) (.tup upd_same (dpa_sub (sub_fresh hF) oa))
theorem en_lst {ds : List PyData} (h : EA B tas ε L (ds.map AD.d) L1) (hl : ds.length ≤ 100000) : EN B (tLst tas) ε L ds L1 := fun F σ H rp Q q =>
  h F σ H rp _ fun vs F1 H1 s1 r1 o1 => by
    have oa := ad_data o1
    exact ⟨Evl.sz_of (by rw [dpa_len oa]; exact hl), fun p hp => q p F1 _ s1 (r1.newM hp) (r1.alloc hp rfl ⟨vs, upd_same, oa⟩)⟩
/-- a new list that will not change -/
theorem ex_frz {ds : List PyData} (h : EN B te ε L ds L1) : EX B te ε L (.d (.list ds)) L1 := fun F σ H rp Q q =>
  h F σ H rp _ fun p F1 H1 s1 hp r1 => by
    obtain ⟨vs, h1, h2⟩ := r1.own _ List.mem_cons_self
    have e1 : fps (.lst p ds :: L1) = p :: fps L1 := rfl
    have of := r1.off p (by rw [e1]; exact List.mem_cons_self)
    have nd := r1.nd
    rw [e1] at nd
    have nd' := List.nodup_cons.mp nd
    have sF : Sub F1 (upd F1 p (.lst vs)) := sub_fresh of.1
    have h0p : B.H0 p = none := of.2.resolve_left hp
    refine q _ (upd F1 p (.lst vs)) H1 (s1.tr sF) ⟨fun a o e => ?_, fun m hm => (r1.own m (List.mem_cons_of_mem _ hm)).subF sF, fun x hx => ?_, nd'.2, fun k x e => ?_, r1.len, r1.f0.tr sF, r1.h0, fun a g1 g2 => ?_, fun x hx => ?_⟩ (.lst upd_same (dpa_sub sF h2))
    · by_cases z : a = p
      · subst z; rw [upd_same] at e; cases e; exact h1
      · rw [upd_ne z] at e; exact r1.sub a o e
    · have ne : x ≠ p := fun z => nd'.1 (z ▸ hx)
      have := r1.off x (by rw [e1]; exact List.mem_cons_of_mem _ hx)
      exact ⟨by rw [upd_ne ne]; exact this.1, this.2⟩
    · obtain ⟨s, q1, q2⟩ := r1.sl k x e
      exact ⟨s, q1, q2.sub sF⟩
    · have ne : a ≠ p := fun z => g2 (z ▸ h0p)
      rw [upd_ne ne]; exact r1.nc a g1 g2
    · have := r1.mm x hx
      rw [e1] at this
      rcases List.mem_cons.mp this with z | z
      · exact absurd (z ▸ hx) hp
      · exact z
/-! #### lists and tuples read -/
/-- a list at hand: frozen, or owned -/
inductive IsL (L : Own) : AD → List PyData → Prop
  | d {ds : List PyData} : IsL L (.d (.list ds)) ds
  | o {p : Addr} {ds : List PyData} {k : Nat} (h : L[k]? = some (.lst p ds)) : IsL L (.v (.ref p)) ds
  | r {p : Addr} {ds : List PyData} {k : Nat} (h : L[k]? = some (.seq p ds)) : IsL L (.v (.ref p)) ds
theorem IsL.get {F : Hp} {σ : St} {H : Hp} {v : V} {ds : List PyData} (h : IsL L a ds) (rp : Rep B ε L F σ H) (o : a.ok B.K F v) : ∃ p vs, v = .ref p ∧ SqL B.K H p vs ∧ DqAll B.K F vs ds := by
  cases h with
  | d =>
    have o' : Dq B.K F v (.list ds) := o
    cases o' with
    | lst h1 h2 => exact ⟨_, _, rfl, .inl (.inl (rp.sub _ _ h1)), h2⟩
  | o hk =>
    obtain ⟨vs, h1, h2⟩ := rp.own _ (List.mem_of_getElem? hk)
    exact ⟨_, vs, o, .inl (.inl h1), h2⟩
  | r hk =>
    obtain ⟨vs, h1, h2⟩ := rp.own _ (List.mem_of_getElem? hk)
    exact ⟨_, vs, o, sql_sub rp.sub h1, h2⟩
theorem tup_inv {K : PySem.W.Frag} {F : Hp} {v : V} {ds : List PyData} (h : (AD.d (.tuple ds)).ok K F v) : ∃ p vs, v = .ref p ∧ F p = some (.tup vs) ∧ DqAll K F vs ds := by
  have o' : Dq K F v (.tuple ds) := h
  cases o' with
  | tup h1 h2 => exact ⟨_, _, rfl, h1, h2⟩
theorem ixN_lt {n : Nat} {i : Int} {k : Nat} (h : ixN n i = some k) : k < n := by
  unfold ixN at h
  split at h
  · split at h
    · cases h; omega
    · cases h
  · split at h
    · cases h; omega
    · cases h
theorem atI_dp {K : PySem.W.Frag} {F : Hp} {vs : List V} {ds : List PyData} {d : PyData} (h : DqAll K F vs ds) (e : atI ds i = some d) : ∃ v, atI vs i = some v ∧ Dq K F v d := by
  unfold atI at e ⊢
  rw [dpa_len h]
  cases hx : ixN ds.length i with
  | none => rw [hx] at e; cases e
  | some k =>
    rw [hx] at e
    exact dpa_get h e
theorem ex_ixL {ds : List PyData} {d : PyData} (ha : EX B ta ε L x L1) (hb : EX B tb ε L1 (.d (.int i)) L2) (hx : IsL L2 x ds) (hi : atI ds i = some d) : EX B (tOp (rIxL B.K) ta tb) ε L (.d d) L2 := ex_op ha hb fun F σ H v w rp hv hw Q q => by
  obtain ⟨p, vs, rfl, h1, h2⟩ := hx.get rp hv
  obtain ⟨u, e1, e2⟩ := atI_dp h2 hi
  exact ⟨p, vs, i, u, rfl, int_inv hw, h1, e1, q u F H (Sub.rfl' F) rp e2⟩
theorem ex_ixT {ds : List PyData} {d : PyData} (ha : EX B ta ε L (.d (.tuple ds)) L1) (hb : EX B tb ε L1 (.d (.int i)) L2) (hi : atI ds i = some d) : EX B (tOp (rIxT B.K) ta tb) ε L (.d d) L2 := ex_op ha hb fun F σ H v w rp hv hw Q q => by
  obtain ⟨p, vs, rfl, h1, h2⟩ := tup_inv hv
  obtain ⟨u, e1, e2⟩ := atI_dp h2 hi
  exact ⟨p, vs, i, u, rfl, int_inv hw, tq_sub rp.sub h1, e1, q u F H (Sub.rfl' F) rp e2⟩
theorem eo_n : EO B tNoPart ε L none L := fun F σ H rp Q q => q F H (Sub.rfl' F) rp
theorem eo_s (h : EX B te ε L (.d (.int i)) L1) : EO B (tPart te) ε L (some i) L1 := fun F σ H rp Q q => h F σ H rp _ fun v F1 H1 s1 r1 o1 => ⟨i, int_inv o1, q F1 H1 s1 r1⟩
def cutD (xs : List PyData) (lo hi : Option Int) : List PyData := (xs.drop (HT.sIx xs.length 0 lo)).take (HT.sIx xs.length xs.length hi - HT.sIx xs.length 0 lo)
theorem cut_dp {K : PySem.W.Frag} {F : Hp} {vs : List V} {ds : List PyData} {lo hi : Option Int} (h : DqAll K F vs ds) : DqAll K F (cutV vs lo hi) (cutD ds lo hi) := by
  unfold cutV cutD
  rw [dpa_len h]
  exact dpa_take _ (dpa_drop _ h)
theorem en_slL {tl th : TO} {lo hi : Option Int} {ds : List PyData} (h : EX B te ε L x L1) (h1 : EO B tl ε L1 lo L2) (h2 : EO B th ε L2 hi L3) (hx : IsL L3 x ds) : EN B (tSl (rSlL B.K) te tl th) ε L (cutD ds lo hi) L3 := fun F σ H rp Q q =>
  h F σ H rp _ fun v F1 H1 s1 r1 o1 => h1 F1 σ H1 r1 _ fun F2 H2 s2 r2 => h2 F2 σ H2 r2 _ fun F3 H3 s3 r3 => by
    obtain ⟨p, vs, rfl, g1, g2⟩ := hx.get r3 (o1.sub (s2.tr s3))
    exact ⟨p, vs, rfl, g1, fun p' hp => q p' F3 _ ((s1.tr s2).tr s3) (r3.newM hp) (r3.alloc hp rfl ⟨_, upd_same, cut_dp g2⟩)⟩
theorem ex_slT {tl th : TO} {lo hi : Option Int} {ds : List PyData} (h : EX B te ε L (.d (.tuple ds)) L1) (h1 : EO B tl ε L1 lo L2) (h2 : EO B th ε L2 hi L3) : EX B (tSl (rSlA B.K) te tl th) ε L (.d (.tuple (cutD ds lo hi))) L3 := fun F σ H rp Q q =>
  h F σ H rp _ fun v F1 H1 s1 r1 o1 => h1 F1 σ H1 r1 _ fun F2 H2 s2 r2 => h2 F2 σ H2 r2 _ fun F3 H3 s3 r3 => by
    obtain ⟨p, vs, rfl, g1, g2⟩ := tup_inv (o1.sub (s2.tr s3))
    refine ⟨p, vs, rfl, tq_sub r3.sub g1, fun c => ?_, fun _ p' hp => ?_⟩
    · refine q _ F3 H3 ((s1.tr s2).tr s3) r3 (.tup g1 ?_)
      have e := cut_dp (lo := lo) (hi := hi) g2
      have e2 : cutV vs lo hi = vs := by
        unfold cutV
        rw [c.1, c.2, List.drop_zero, Nat.sub_zero, List.take_length]
      rw [e2] at e
      exact e
    · have hF := sub_none r3.sub hp
      exact q _ _ _ (((s1.tr s2).tr s3).tr (sub_fresh hF)) (r3.grow hp) (.tup upd_same (dpa_sub (sub_fresh hF) (cut_dp g2)))
theorem ex_catT {ds es : List PyData} (ha : EX B ta ε L (.d (.tuple ds)) L1) (hb : EX B tb ε L1 (.d (.tuple es)) L2) (hl : ds.length + es.length ≤ 100000) : EX B (tOp (rCatA B.K) ta tb) ε L (.d (.tuple (ds ++ es))) L2 := ex_op ha hb fun F σ H v w rp hv hw Q q => by
  obtain ⟨p, vs, rfl, g1, g2⟩ := tup_inv hv
  obtain ⟨p', ws, rfl, g3, g4⟩ := tup_inv hw
  have app := dpa_app g2 g4
  refine ⟨p, p', vs, ws, rfl, rfl, tq_sub rp.sub g1, tq_sub rp.sub g3, Evl.sz_of (by rw [dpa_len g2, dpa_len g4]; exact hl), fun e => ?_, fun _ e => ?_, fun _ _ n hn => ?_⟩
  · subst e
    exact q _ F H (Sub.rfl' F) rp (.tup g3 app)
  · subst e
    rw [List.append_nil] at app
    exact q _ F H (Sub.rfl' F) rp (.tup g1 app)
  · have hF := sub_none rp.sub hn
    exact q _ _ _ (sub_fresh hF) (rp.grow hn) (.tup upd_same (dpa_sub (sub_fresh hF) app))
theorem ex_lenL {ds : List PyData} {r : List V → Hp → VK → Prop} (h : EX B te ε L x L1) (hx : IsL L1 x ds) (hr : r = fun xs H Q => ∃ p ys, xs = [.ref p] ∧ (SqL B.K H p ys ∨ SqT B.K H p ys) ∧ Q (.int ys.length) H) :
    EX B (tCB r (tCons te tNil)) ε L (.d (.int (ds.length : Int))) L1 := fun F σ H rp Q q =>
  h F σ H rp _ fun v F1 H1 s1 r1 o1 => by
    obtain ⟨p, vs, rfl, g1, g2⟩ := hx.get r1 o1
    show r [.ref p] H1 Q
    rw [hr]
    refine ⟨p, vs, rfl, .inl g1, ?_⟩
    rw [dpa_len g2]
    exact q _ F1 H1 s1 r1 (.int _)
theorem ex_lenT {ds : List PyData} {r : List V → Hp → VK → Prop} (h : EX B te ε L (.d (.tuple ds)) L1) (hr : r = fun xs H Q => ∃ p ys, xs = [.ref p] ∧ (SqL B.K H p ys ∨ SqT B.K H p ys) ∧ Q (.int ys.length) H) :
    EX B (tCB r (tCons te tNil)) ε L (.d (.int (ds.length : Int))) L1 := fun F σ H rp Q q =>
  h F σ H rp _ fun v F1 H1 s1 r1 o1 => by
    obtain ⟨p, vs, rfl, g1, g2⟩ := tup_inv o1
    show r [.ref p] H1 Q
    rw [hr]
    refine ⟨p, vs, rfl, .inr (tq_sub r1.sub g1), ?_⟩
    rw [dpa_len g2]
    exact q _ F1 H1 s1 r1 (.int _)
end
end Fz

/-! ## Fz2 -/
set_option Elab.async false
set_option linter.all false
set_option maxRecDepth 100000
set_option maxHeartbeats 2000000
set_option autoImplicit false
/-! Fz2: statements, loops, comprehensions, calls. -/
namespace Fz
open PySem L2

section
variable {B : Bg} {ε ε' : Eps} {L L' L0 L1 L2 L3 : Own} {te ta tb : TE} {tt tu : TT} {tas tr : TA} {a b : AD} {D : Ends} {ts tc tw : TS} {g : TG}
/-! ### statements -/
theorem gt_name {j : Nat} : GT B (gName j) a ε (ε.set j (some a)) := fun L F σ H v r o P p => p _ (r.slot o)
theorem x_asg (h : EX B te ε L a L1) (hg : GT B g a ε ε') (k : Ho B D.nx ε' L1) : Ho B (tAsg te g D) ε L := fun F σ H r =>
  h F σ H r _ fun v F1 H1 _ r1 o1 => hg L1 F1 σ H1 v r1 o1 _ fun σ' r2 => k F1 σ' H1 r2
theorem x_set {i : Nat} (h : EX B te ε L a L1) (k : Ho B D.nx (ε.set i (some a)) L1) : Ho B (tAsg te (gName i) D) ε L := x_asg h gt_name k
theorem x_setN {i : Nat} {ds : List PyData} (h : EN B te ε L ds L1) (k : ∀ p, p ∉ B.M → Ho B D.nx (ε.set i (some (.v (.ref p)))) (.lst p ds :: L1)) : Ho B (tAsg te (gName i) D) ε L := fun F σ H r =>
  h F σ H r _ fun p F1 H1 _ hp r1 => k p hp F1 _ H1 (r1.slot (a := .v (.ref p)) rfl)
theorem x_drop (h : EX B te ε L a L1) (k : Ho B D.nx ε L1) : Ho B (tDrop te D) ε L := fun F σ H r => h F σ H r _ fun v F1 H1 _ r1 o1 => k F1 σ H1 r1
theorem x_seq (h : Ho B (ts { D with nx := tc D }) ε L) : Ho B (tSeq ts tc D) ε L := h
/-- a statement, then the rest from what M says -/
theorem x_cut {M : Eps → Own → Prop} (h : Ho B (ts { D with nx := AbsP B M }) ε L) (k : ∀ ε' L', M ε' L' → Ho B (tc D) ε' L') : Ho B (Evl.tCut ts tc D) ε L := fun F σ H r =>
  ⟨AbsP B M, h F σ H r, fun σ' H' ⟨ε', L', F', hm, r'⟩ => k ε' L' hm F' σ' H' r'⟩
theorem x_next (h : Ho B D.nx ε L) : Ho B (tNext D) ε L := h
theorem x_cont (h : Ho B D.ct ε L) : Ho B (tCont D) ε L := h
theorem x_break (h : Ho B D.bk ε L) : Ho B (tBreak D) ε L := h
theorem x_if {b : Bool} (h : ETt B tt ε L b L1) (h1 : b = true → Ho B (ts D) ε L1) (h2 : b = false → Ho B (tw D) ε L1) : Ho B (tIfS tt ts tw D) ε L := fun F σ H r =>
  h F σ H r _ fun F1 H1 _ r1 => by
    cases b with
    | true => exact h1 rfl F1 σ H1 r1
    | false => exact h2 rfl F1 σ H1 r1
theorem x_ret {d : PyData} (h : EX B te ε L (.d d) L1) (k : ∀ v F σ H, Rep B ε L1 F σ H → Dq B.K F v d → D.rt v H) : Ho B (tRet te D) ε L := fun F σ H r =>
  h F σ H r _ fun v F1 H1 _ r1 o1 => k v F1 σ H1 r1 o1
theorem x_retV {v : V} (h : EX B te ε L (.v v) L1) (k : ∀ F σ H, Rep B ε L1 F σ H → D.rt v H) : Ho B (tRet te D) ε L := fun F σ H r =>
  h F σ H r _ fun w F1 H1 _ r1 o1 => by
    have e : w = v := o1
    rw [e]; exact k F1 σ H1 r1
theorem x_par {i j : Nat} {a b : AD} (h : EA B tas ε L [a, b] L1) (k : Ho B D.nx ((ε.set i (some a)).set j (some b)) L1) : Ho B (tPar i j tas D) ε L := fun F σ H r =>
  h F σ H r _ fun vs F1 H1 _ r1 o1 => by
    match vs, o1 with
    | [v, w], o => exact ⟨v, w, rfl, k F1 _ H1 ((r1.slot o.1).slot o.2.1)⟩
/-- what is wanted holds from what is known, junk forgotten -/
theorem x_abs {I : Eps → Own → Prop} (h : I ε' L) (w : Wk ε ε') : Ho B (AbsP B I) ε L := fun F σ H r => ⟨ε', L, F, h, r.wk w⟩
theorem ho_wk {P : St → Hp → Prop} (h : Ho B P ε' L) (w : Wk ε ε') : Ho B P ε L := fun F σ H r => h F σ H (r.wk w)
theorem ho_abs {P : St → Hp → Prop} {I : Eps → Own → Prop} (h : ∀ ε L, I ε L → Ho B P ε L) {σ : St} {H : Hp} (x : AbsP B I σ H) : P σ H :=
  let ⟨ε, L, F, i, r⟩ := x
  h ε L i F σ H r
/-- an owned thing, or a thing known, given up -/
theorem ho_drop {P : St → Hp → Prop} {k : Nat} {m : MO} (h : Ho B P ε (L.eraseIdx k)) (hk : L[k]? = some m) (hM : ∀ p ∈ m.fp, p ∉ B.M) : Ho B P ε L := fun F σ H r => h F σ H (r.drop hk hM)

/-! ### targets that are tuples -/
theorem gt_tup2 {i j : Nat} {d e : PyData} : GT B (gTup B.K 2 (gCons (gName i) (gCons (gName j) gNil))) (.d (.tuple [d, e])) ε ((ε.set i (some (.d d))).set j (some (.d e))) := fun L F σ H v r o P p => by
  obtain ⟨q, vs, rfl, h1, h2⟩ := tup_inv o
  cases h2 with
  | cons a t =>
    cases t with
    | cons b t =>
      cases t
      exact ⟨q, _, rfl, tq_sub r.sub h1, rfl, _, _, rfl, _, _, rfl, rfl, p _ ((r.slot (a := .d d) a).slot (a := .d e) b)⟩
theorem gt_tup3 {i j k : Nat} {d e f : PyData} : GT B (gTup B.K 3 (gCons (gName i) (gCons (gName j) (gCons (gName k) gNil)))) (.d (.tuple [d, e, f])) ε (((ε.set i (some (.d d))).set j (some (.d e))).set k (some (.d f))) := fun L F σ H v r o P p => by
  obtain ⟨q, vs, rfl, h1, h2⟩ := tup_inv o
  cases h2 with
  | cons a t =>
    cases t with
    | cons b t =>
      cases t with
      | cons c t =>
        cases t
        exact ⟨q, _, rfl, tq_sub r.sub h1, rfl, _, _, rfl, _, _, rfl, _, _, rfl, rfl, p _ (((r.slot (a := .d d) a).slot (a := .d e) b).slot (a := .d f) c)⟩

/-! ### loops -/
theorem x_forR1 {j : Nat} {n : Int} (h : EA B tas ε L [.d (.int n)] L1) (hn : -(2 ^ 62) ≤ n ∧ n < 2 ^ 62) (I : Nat → Eps → Own → Prop) (h0 : I 0 ε L1)
    (hs : ∀ (i : Nat) ε' L', (i : Int) < n → I i ε' L' → Ho B (tc { D with nx := AbsP B (I (i + 1)), ct := AbsP B (I (i + 1)), bk := D.nx }) (ε'.set j (some (.d (.int (i : Int))))) L')
    (hd : ∀ ε' L', I n.toNat ε' L' → Ho B D.nx ε' L') : Ho B (tFor (iRng1 tas) (gName j) tc D) ε L := fun F σ H r =>
  h F σ H r _ fun vs F1 H1 _ r1 o1 => by
    match vs, o1 with
    | [v], o =>
      have ev : v = .int n := int_inv o.1
      subst ev
      refine ⟨n, rfl, hn.1, hn.2, for_range (lo := 0) (n := n.toNat) (fun i => AbsP B (I i)) ⟨ε, L1, F1, h0, r1⟩ (fun i σ' H' hi p => ?_) fun σ' H' p => ho_abs hd p⟩
      obtain ⟨ε', L', F', hI, r'⟩ := p
      have e0 : (0 : Int) + (i : Int) = (i : Int) := Int.zero_add _
      show tc _ (σ'.set j (some (.int ((0 : Int) + (i : Int))))) H'
      rw [e0]
      exact hs i ε' L' (by omega) hI F' _ H' (r'.slot (a := .d (.int (i : Int))) (.int _))
theorem x_forR2 {j : Nat} {lo n : Int} (h : EA B tas ε L [.d (.int lo), .d (.int n)] L1) (hn : (-(2 ^ 62) ≤ lo ∧ lo < 2 ^ 62) ∧ -(2 ^ 62) ≤ n ∧ n < 2 ^ 62) (I : Nat → Eps → Own → Prop) (h0 : I 0 ε L1)
    (hs : ∀ (i : Nat) ε' L', lo + (i : Int) < n → I i ε' L' → Ho B (tc { D with nx := AbsP B (I (i + 1)), ct := AbsP B (I (i + 1)), bk := D.nx }) (ε'.set j (some (.d (.int (lo + (i : Int)))))) L')
    (hd : ∀ ε' L', I (n - lo).toNat ε' L' → Ho B D.nx ε' L') : Ho B (tFor (iRng2 tas) (gName j) tc D) ε L := fun F σ H r =>
  h F σ H r _ fun vs F1 H1 _ r1 o1 => by
    match vs, o1 with
    | [v, w], o =>
      have ev : v = .int lo := int_inv o.1
      have ew : w = .int n := int_inv o.2.1
      subst ev ew
      refine ⟨lo, n, rfl, ⟨hn.1.1, hn.1.2, hn.2.1, hn.2.2⟩, for_range (lo := lo) (n := (n - lo).toNat) (fun i => AbsP B (I i)) ⟨ε, L1, F1, h0, r1⟩ (fun i σ' H' hi p => ?_) fun σ' H' p => ho_abs hd p⟩
      obtain ⟨ε', L', F', hI, r'⟩ := p
      exact hs i ε' L' (by omega) hI F' _ H' (r'.slot (a := .d (.int (lo + (i : Int)))) (.int _))
/-- over a frozen list -/
theorem x_forL {ds : List PyData} (h : EX B te ε L (.d (.list ds)) L1) (I : V → Nat → Eps → Own → Prop) (h0 : ∀ v, I v 0 ε (L1 ++ [.know v (.list ds)])) (hl : ∀ v i ε' L', I v i ε' L' → MO.know v (.list ds) ∈ L')
    (hs : ∀ v i d ε' L', ds[i]? = some d → I v i ε' L' → ∃ ε'', GT B g (.d d) ε' ε'' ∧ Ho B (tc { D with nx := AbsP B (I v (i + 1)), ct := AbsP B (I v (i + 1)), bk := D.nx }) ε'' L')
    (hd : ∀ v ε' L', I v ds.length ε' L' → Ho B D.nx ε' L') : Ho B (tFor (iList B.K te) g tc D) ε L := fun F σ H r =>
  h F σ H r _ fun v F1 H1 _ r1 o1 => by
    have o' : Dq B.K F1 v (.list ds) := o1
    have r2 := r1.learn o'
    cases o' with
    | @lst p vs _ q1 q2 =>
      have back : ∀ {i : Nat} {ε' : Eps} {L' : Own} {F' : Hp} {σ' : St} {H' : Hp}, I (.ref p) i ε' L' → Rep B ε' L' F' σ' H' → ∃ ws, SqL B.K H' p ws ∧ DqAll B.K F' ws ds := fun hI r' => by
        have k : Dq B.K _ (.ref p) (.list ds) := r'.own _ (hl _ _ _ _ hI)
        cases k with
        | lst k1 k2 => exact ⟨_, .inl (.inl (r'.sub _ _ k1)), k2⟩
      refine ⟨p, rfl, ⟨vs, .inl (.inl (r1.sub _ _ q1))⟩, ⟨fun i m σ' H' => m = ds.length - i ∧ i ≤ ds.length ∧ AbsP B (I (.ref p) i) σ' H', ⟨_, rfl, Nat.zero_le _, ε, _, F1, h0 _, r2⟩, ?_⟩⟩
      rintro i m σ' H' ⟨rfl, hi, ε', L', F', hI, r'⟩
      obtain ⟨ws, k1, k2⟩ := back hI r'
      by_cases hlt : i < ds.length
      · obtain ⟨d, hdi⟩ : ∃ d, ds[i]? = some d := ⟨_, List.getElem?_eq_getElem hlt⟩
        obtain ⟨w, e1, e2⟩ := dpa_get k2 hdi
        obtain ⟨ε'', hg, hb⟩ := hs _ i d ε' L' hdi hI
        refine .inr ⟨⟨ws, w, k1, e1⟩, AbsP B (I (.ref p) (i + 1)), fun σ2 H2 hN => ⟨ds.length - (i + 1), by omega, rfl, hlt, hN⟩, fun x H2 hy => ?_⟩
        obtain ⟨rfl, hx⟩ := hy
        have ex : x = w := Option.some.inj ((hx ws k1).symm.trans e1)
        subst ex
        exact hg L' F' σ' _ x r' e2 _ fun σ3 r3 => hb F' σ3 _ r3
      · have ei : i = ds.length := by omega
        subst ei
        exact .inl ⟨⟨ws, k1, by rw [dpa_len k2]; exact Nat.le_refl _⟩, hd _ _ _ hI F' σ' H' r'⟩
/-- over an owned list that the loop leaves -/
theorem x_forO {p : Addr} {ds : List PyData} (h : EX B te ε L (.v (.ref p)) L1) (I : Nat → Eps → Own → Prop) (h0 : I 0 ε L1) (hl : ∀ i ε' L', I i ε' L' → MO.lst p ds ∈ L')
    (hs : ∀ i d ε' L', ds[i]? = some d → I i ε' L' → ∃ ε'', GT B g (.d d) ε' ε'' ∧ Ho B (tc { D with nx := AbsP B (I (i + 1)), ct := AbsP B (I (i + 1)), bk := D.nx }) ε'' L')
    (hd : ∀ ε' L', I ds.length ε' L' → Ho B D.nx ε' L') : Ho B (tFor (iList B.K te) g tc D) ε L := fun F σ H r =>
  h F σ H r _ fun v F1 H1 _ r1 o1 => by
    have ev : v = .ref p := o1
    subst ev
    have back : ∀ {i : Nat} {ε' : Eps} {L' : Own} {F' : Hp} {σ' : St} {H' : Hp}, I i ε' L' → Rep B ε' L' F' σ' H' → ∃ ws, SqL B.K H' p ws ∧ DqAll B.K F' ws ds := fun hI r' => by
      obtain ⟨ws, k1, k2⟩ := r'.own _ (hl _ _ _ hI)
      exact ⟨ws, .inl (.inl k1), k2⟩
    obtain ⟨vs, q1, q2⟩ := back h0 r1
    refine ⟨p, rfl, ⟨vs, q1⟩, ⟨fun i m σ' H' => m = ds.length - i ∧ i ≤ ds.length ∧ AbsP B (I i) σ' H', ⟨_, rfl, Nat.zero_le _, ε, _, F1, h0, r1⟩, ?_⟩⟩
    rintro i m σ' H' ⟨rfl, hi, ε', L', F', hI, r'⟩
    obtain ⟨ws, k1, k2⟩ := back hI r'
    by_cases hlt : i < ds.length
    · obtain ⟨d, hdi⟩ : ∃ d, ds[i]? = some d := ⟨_, List.getElem?_eq_getElem hlt⟩
      obtain ⟨w, e1, e2⟩ := dpa_get k2 hdi
      obtain ⟨ε'', hg, hb⟩ := hs i d ε' L' hdi hI
      refine .inr ⟨⟨ws, w, k1, e1⟩, AbsP B (I (i + 1)), fun σ2 H2 hN => ⟨ds.length - (i + 1), by omega, rfl, hlt, hN⟩, fun x H2 hy => ?_⟩
      obtain ⟨rfl, hx⟩ := hy
      have ex : x = w := Option.some.inj ((hx ws k1).symm.trans e1)
      subst ex
      exact hg L' F' σ' _ x r' e2 _ fun σ3 r3 => hb F' σ3 _ r3
    · have ei : i = ds.length := by omega
      subst ei
      exact .inl ⟨⟨ws, k1, by rw [dpa_len k2]; exact Nat.le_refl _⟩, hd _ _ hI F' σ' H' r'⟩
/-- over a tuple -/
theorem x_forT {ds : List PyData} (h : EX B te ε L (.d (.tuple ds)) L1) (I : V → Nat → Eps → Own → Prop) (h0 : ∀ v, I v 0 ε (L1 ++ [.know v (.tuple ds)])) (hl : ∀ v i ε' L', I v i ε' L' → MO.know v (.tuple ds) ∈ L')
    (hs : ∀ v i d ε' L', ds[i]? = some d → I v i ε' L' → ∃ ε'', GT B g (.d d) ε' ε'' ∧ Ho B (tc { D with nx := AbsP B (I v (i + 1)), ct := AbsP B (I v (i + 1)), bk := D.nx }) ε'' L')
    (hd : ∀ v ε' L', I v ds.length ε' L' → Ho B D.nx ε' L') : Ho B (tFor (iTup B.K te) g tc D) ε L := fun F σ H r =>
  h F σ H r _ fun v F1 H1 _ r1 o1 => by
    have o' : Dq B.K F1 v (.tuple ds) := o1
    have r2 := r1.learn o'
    cases o' with
    | @tup p vs _ q1 q2 =>
      have back : ∀ {i : Nat} {ε' : Eps} {L' : Own} {F' : Hp} {σ' : St} {H' : Hp}, I (.ref p) i ε' L' → Rep B ε' L' F' σ' H' → ∃ ws, SqT B.K H' p ws ∧ DqAll B.K F' ws ds := fun hI r' => by
        have k : Dq B.K _ (.ref p) (.tuple ds) := r'.own _ (hl _ _ _ _ hI)
        cases k with
        | tup k1 k2 => exact ⟨_, tq_sub r'.sub k1, k2⟩
      refine ⟨p, rfl, ⟨vs, tq_sub r1.sub q1⟩, ⟨fun i m σ' H' => m = ds.length - i ∧ i ≤ ds.length ∧ AbsP B (I (.ref p) i) σ' H', ⟨_, rfl, Nat.zero_le _, ε, _, F1, h0 _, r2⟩, ?_⟩⟩
      rintro i m σ' H' ⟨rfl, hi, ε', L', F', hI, r'⟩
      obtain ⟨ws, k1, k2⟩ := back hI r'
      by_cases hlt : i < ds.length
      · obtain ⟨d, hdi⟩ : ∃ d, ds[i]? = some d := ⟨_, List.getElem?_eq_getElem hlt⟩
        obtain ⟨w, e1, e2⟩ := dpa_get k2 hdi
        obtain ⟨ε'', hg, hb⟩ := hs _ i d ε' L' hdi hI
        refine .inr ⟨⟨ws, w, k1, e1⟩, AbsP B (I (.ref p) (i + 1)), fun σ2 H2 hN => ⟨ds.length - (i + 1), by omega, rfl, hlt, hN⟩, fun x H2 hy => ?_⟩
        obtain ⟨rfl, hx⟩ := hy
        have ex : x = w := Option.some.inj ((hx ws k1).symm.trans e1)
        subst ex
        exact hg L' F' σ' _ x r' e2 _ fun σ3 r3 => hb F' σ3 _ r3
      · have ei : i = ds.length := by omega
        subst ei
        exact .inl ⟨⟨ws, k1, by rw [dpa_len k2]; exact Nat.le_refl _⟩, hd _ _ _ hI F' σ' H' r'⟩
/-- over enumerate of a frozen list -/
theorem x_forE {ds : List PyData} (h : EA B tas ε L [.d (.list ds)] L1) (I : V → Nat → Eps → Own → Prop) (h0 : ∀ v, I v 0 ε (L1 ++ [.know v (.list ds)])) (hl : ∀ v i ε' L', I v i ε' L' → MO.know v (.list ds) ∈ L')
    (hs : ∀ v i d ε' L', ds[i]? = some d → I v i ε' L' → ∃ ε'', GT B g (.d (.tuple [.int (i : Int), d])) ε' ε'' ∧ Ho B (tc { D with nx := AbsP B (I v (i + 1)), ct := AbsP B (I v (i + 1)), bk := D.nx }) ε'' L')
    (hd : ∀ v ε' L', I v ds.length ε' L' → Ho B D.nx ε' L') : Ho B (tFor (iEnum B.K tas) g tc D) ε L := fun F σ H r =>
  h F σ H r _ fun vs0 F1 H1 _ r1 o1 => by
    match vs0, o1 with
    | [v], o =>
    have o' : Dq B.K F1 v (.list ds) := o.1
    have r2 := r1.learn o'
    cases o' with
    | @lst p vs _ q1 q2 =>
      have back : ∀ {i : Nat} {ε' : Eps} {L' : Own} {F' : Hp} {σ' : St} {H' : Hp}, I (.ref p) i ε' L' → Rep B ε' L' F' σ' H' → ∃ ws, SqL B.K H' p ws ∧ DqAll B.K F' ws ds := fun hI r' => by
        have k : Dq B.K _ (.ref p) (.list ds) := r'.own _ (hl _ _ _ _ hI)
        cases k with
        | lst k1 k2 => exact ⟨_, .inl (.inl (r'.sub _ _ k1)), k2⟩
      refine ⟨p, vs, rfl, .inl (.inl (r1.sub _ _ q1)), ⟨fun i m σ' H' => m = ds.length - i ∧ i ≤ ds.length ∧ AbsP B (I (.ref p) i) σ' H', ⟨_, rfl, Nat.zero_le _, ε, _, F1, h0 _, r2⟩, ?_⟩⟩
      rintro i m σ' H' ⟨rfl, hi, ε', L', F', hI, r'⟩
      obtain ⟨ws, k1, k2⟩ := back hI r'
      by_cases hlt : i < ds.length
      · obtain ⟨d, hdi⟩ : ∃ d, ds[i]? = some d := ⟨_, List.getElem?_eq_getElem hlt⟩
        obtain ⟨w, e1, e2⟩ := dpa_get k2 hdi
        obtain ⟨ε'', hg, hb⟩ := hs _ i d ε' L' hdi hI
        refine .inr ⟨⟨ws, w, k1, e1⟩, AbsP B (I (.ref p) (i + 1)), fun σ2 H2 hN => ⟨ds.length - (i + 1), by omega, rfl, hlt, hN⟩, fun x H2 hy => ?_⟩
        obtain ⟨T, y, rfl, hT, rfl, hx⟩ := hy
        have ex : y = w := Option.some.inj ((hx ws k1).symm.trans e1)
        subst ex
        have hF := sub_none r'.sub hT
        exact hg L' _ σ' _ _ (r'.grow hT) (.tup upd_same (.cons (.int _) (.cons (dp_sub (sub_fresh hF) e2) .nil))) _ fun σ3 r3 => hb _ σ3 _ r3
      · have ei : i = ds.length := by omega
        subst ei
        exact .inl ⟨⟨ws, k1, by rw [dpa_len k2]; exact Nat.le_refl _⟩, hd _ _ _ hI F' σ' H' r'⟩
theorem x_while (I : Nat → Eps → Own → Prop) {m0 : Nat} (h0 : I m0 ε L)
    (hs : ∀ m ε' L', I m ε' L' → ∃ b L'', ETt B tt ε' L' b L'' ∧ (b = true → Ho B (tc { D with nx := AbsP B (fun ε L => ∃ m', m' < m ∧ I m' ε L), ct := AbsP B (fun ε L => ∃ m', m' < m ∧ I m' ε L), bk := D.nx }) ε' L'') ∧ (b = false → Ho B D.nx ε' L'')) :
    Ho B (tWhile tt tc D) ε L := fun F σ H r => by
  refine ⟨fun m => AbsP B (I m), ⟨m0, ε, L, F, h0, r⟩, ?_⟩
  rintro m σ' H' ⟨ε', L', F', hI, r'⟩
  obtain ⟨b, L'', ht, h1, h2⟩ := hs m ε' L' hI
  refine ht F' σ' H' r' _ fun F2 H2 _ r2 => ?_
  cases b with
  | true =>
    refine ⟨AbsP B (fun ε L => ∃ m', m' < m ∧ I m' ε L), fun σ3 H3 ⟨ε3, L3, F3, ⟨m', hm, hI'⟩, r3⟩ => ⟨m', hm, ε3, L3, F3, hI', r3⟩, ?_⟩
    exact h1 rfl F2 σ' H2 r2
  | false => exact h2 rfl F2 σ' H2 r2
end

/-! ### comprehensions -/
def wipeE (ε : Eps) : List Nat → Eps
  | [] => ε
  | v :: vs => (wipeE ε vs).set v none
section
variable {B : Bg} {ε ε' : Eps} {L L' L0 L1 L2 L3 : Own} {F : Hp} {σ : St} {H : Hp}
theorem Rep.forget (r : Rep B ε L F σ H) {i : Nat} : Rep B (ε.set i none) L F (σ.set i none) H := by
  refine ⟨r.sub, r.own, r.off, r.nd, fun j x e => ?_, by rw [List.length_set, List.length_set]; exact r.len, r.f0, r.h0, r.nc, r.mm⟩
  rw [List.getElem?_set] at e
  rw [List.getElem?_set, r.len]
  split at e
  · rename_i ij
    subst ij
    split at e
    · rename_i il
      cases e
      rw [if_pos rfl, if_pos il]
      exact ⟨_, rfl, trivial⟩
    · cases e
  · rename_i ij
    rw [if_neg ij]
    exact r.sl j x e
theorem Rep.wipe (r : Rep B ε L F σ H) : ∀ vs : List Nat, Rep B (wipeE ε vs) L F (_root_.L2.wipe σ vs) H
  | [] => r
  | _ :: vs => (r.wipe vs).forget
/-- the slots as they were, the heap as it is -/
theorem Rep.reslot {σ' : St} {ε0 : Eps} {L0 : Own} {F0 H0 : Hp} (r : Rep B ε L F σ H) (r0 : Rep B ε0 L0 F0 σ' H0) (s : Sub F0 F) : Rep B ε0 L F σ' H :=
  ⟨r.sub, r.own, r.off, r.nd, fun i x e => let ⟨y, a, b⟩ := r0.sl i x e; ⟨y, a, b.sub s⟩, r0.len, r.f0, r.h0, r.nc, r.mm⟩
theorem fps_rot (m : MO) (L : Own) : (fps (L ++ [m])).Perm (fps (m :: L)) := by
  have e : fps (L ++ [m]) = fps L ++ m.fp := by unfold fps; rw [List.flatMap_append]; show _ ++ (m.fp ++ []) = _; rw [List.append_nil]
  rw [e]
  exact List.perm_append_comm
theorem Rep.perm (r : Rep B ε L F σ H) (h1 : ∀ m, m ∈ L' → m ∈ L) (h2 : (fps L).Perm (fps L')) : Rep B ε L' F σ H :=
  ⟨r.sub, fun m hm => r.own m (h1 m hm), fun p hp => r.off p (h2.mem_iff.mpr hp), h2.nodup r.nd, r.sl, r.len, r.f0, r.h0, r.nc, fun p hp => h2.mem_iff.mp (r.mm p hp)⟩
theorem Rep.toEnd {m : MO} (r : Rep B ε (m :: L) F σ H) : Rep B ε (L ++ [m]) F σ H := r.perm (fun x hx => by
  rcases List.mem_append.mp hx with h | h
  · exact List.mem_cons_of_mem _ h
  · rw [List.mem_singleton.mp h]; exact List.mem_cons_self) (fps_rot m L).symm
theorem Rep.toHead {m : MO} (r : Rep B ε (L ++ [m]) F σ H) : Rep B ε (m :: L) F σ H := r.perm (fun x hx => by
  rcases List.mem_cons.mp hx with h | h
  · rw [h]; exact List.mem_append_right _ List.mem_cons_self
  · exact List.mem_append_left _ h) (fps_rot m L)
end
end Fz

/-! ## Fz3 -/
set_option Elab.async false
set_option linter.all false
set_option maxRecDepth 100000
set_option maxHeartbeats 2000000
set_option autoImplicit false
/-! Fz3: comprehensions, calls, methods of lists, built-ins. -/
namespace Fz
open PySem L2

section
variable {B : Bg} {ε ε' : Eps} {L L' La Lb Lc Ld : Own} {te ta tb tl : TE} {tt tu : TT} {tas tr : TA} {a b x : AD} {D : Ends} {ts tc tw : TS} {g : TG} {vs : List Nat}
/-! ### comprehensions: I says what is gathered behind i items, and what is owned then -/
def CW (B : Bg) (ε : Eps) (vs : List Nat) (F1 : Hp) (σ : St) (I : Nat → List PyData → Own → Prop) (Dl : Addr) (i : Nat) (H : Hp) : Prop :=
  ∃ acc L F, Sub F1 F ∧ I i acc L ∧ Rep B (wipeE ε vs) (L ++ [.lst Dl acc]) F (wipe σ vs) H
/-- one turn of a comprehension, said of data -/
def CTurn (B : Bg) (g : TG) (tt : TT) (te : TE) (ε : Eps) (vs : List Nat) (I : Nat → List PyData → Own → Prop) (i : Nat) (d : PyData) : Prop :=
  ∀ acc L', I i acc L' → acc.length < 100000 ∧ ∃ ε2, GT B g (.d d) (wipeE ε vs) ε2 ∧ ∃ b L2, (∀ m, ETt B tt ε2 (L' ++ [m]) b (L2 ++ [m])) ∧ (b = true → ∃ e L3, (∀ m, EX B te ε2 (L2 ++ [m]) (.d e) (L3 ++ [m])) ∧ I (i + 1) (acc ++ [e]) L3) ∧ (b = false → I (i + 1) acc L2)
theorem get_last {L : Own} {m : MO} : (L ++ [m])[L.length]? = some m := by rw [List.getElem?_append_right (Nat.le_refl _), Nat.sub_self]; rfl
theorem set_last {L : Own} {m n : MO} : (L ++ [m]).set L.length n = L ++ [n] := by rw [List.set_append_right _ _ (Nat.le_refl _), Nat.sub_self]; rfl
theorem cturn_go {F1 : Hp} {σ : St} {I : Nat → List PyData → Own → Prop} {Dl : Addr} {i : Nat} {H : Hp} {d : PyData} {w : V} (hw : ∀ v σ H P, (g v (wipe σ vs) H P ↔ g v (wipe σ vs) H fun σ2 H2 => wipe σ2 vs = wipe σ vs ∧ P σ2 H2))
    (ct : CTurn B g tt te ε vs I i d) (c : CW B ε vs F1 σ I Dl i H) (hd : ∀ F acc L, Sub F1 F → Rep B (wipeE ε vs) (L ++ [.lst Dl acc]) F (wipe σ vs) H → Dq B.K F w d) :
    g w (wipe σ vs) H fun σ2 H2 => wipe σ2 vs = wipe σ vs ∧ tt σ2 H2 fun b H3 =>
      if b = true then te σ2 H3 fun y H4 => ∃ acc, H4 Dl = some (.lst acc) ∧ acc.length < sizeLine ∧ CW B ε vs F1 σ I Dl (i + 1) (upd H4 Dl (.lst (acc ++ [y]))) else CW B ε vs F1 σ I Dl (i + 1) H3 := by
  obtain ⟨acc, L', F, s, hI, r⟩ := c
  obtain ⟨hz, ε2, hg, b, L2, h1, h2, h3⟩ := ct acc L' hI
  refine (hw w σ H _).mp (hg _ F _ H w r (hd F acc L' s r) _ fun σ2 r2 => ?_)
  refine h1 _ F σ2 H r2 _ fun F3 H3 s3 r3 => ?_
  cases b with
  | true =>
    obtain ⟨e, L3, h4, h5⟩ := h2 rfl
    show te σ2 H3 _
    refine h4 _ F3 σ2 H3 r3 _ fun y F4 H4 s4 r4 o4 => ?_
    obtain ⟨ws, k1, k2⟩ := r4.own _ (List.mem_append_right _ List.mem_cons_self)
    have hz2 : ws.length < sizeLine := by rw [dpa_len k2]; exact Evl.sz_lt hz
    refine ⟨ws, k1, hz2, acc ++ [e], L3, F4, (s.tr s3).tr s4, h5, ?_⟩
    have r5 : Rep B (wipeE ε vs) (L3 ++ [.lst Dl acc]) F4 (wipe σ vs) H4 := r4.reslot r ((s3).tr s4)
    have r6 := r5.chg (m' := .lst Dl (acc ++ [e])) (H' := upd H4 Dl (.lst (ws ++ [y]))) get_last rfl ⟨_, upd_same, dpa_app k2 (.cons o4 .nil)⟩ fun q o hq e => by
      rw [upd_ne (fun z => hq (by rw [z]; exact List.mem_cons_self))]; exact e
    rw [set_last] at r6
    exact r6
  | false =>
    exact ⟨acc, L2, F3, s.tr s3, h3 rfl, r3.reslot r s3⟩
/-- targets that store in slots of the comprehension alone -/
theorem gw_name {j : Nat} (hj : j ∈ vs) : ∀ (v : V) (σ : St) (H : Hp) (P : St → Hp → Prop), (gName j v (wipe σ vs) H P ↔ gName j v (wipe σ vs) H fun σ2 H2 => wipe σ2 vs = wipe σ vs ∧ P σ2 H2) := fun v σ H P => by
  have key : ∀ (vs : List Nat), j ∈ vs → ∀ (σ : St) x, wipe (σ.set j x) vs = wipe σ vs := by
    intro vs
    induction vs with
    | nil => intro h; simp at h
    | cons k ks ih =>
      intro h σ x
      show (wipe (σ.set j x) ks).set k none = (wipe σ ks).set k none
      by_cases hk : j ∈ ks
      · rw [ih hk]
      · have ejk : j = k := by
          rcases List.mem_cons.mp h with e | e
          · exact e
          · exact absurd e hk
        subst ejk
        have push : ∀ (ks : List Nat) (σ : St), j ∉ ks → wipe (σ.set j x) ks = (wipe σ ks).set j x := by
          intro ks
          induction ks with
          | nil => intro σ _; rfl
          | cons l ls ih2 =>
            intro σ hn
            show (wipe (σ.set j x) ls).set l none = ((wipe σ ls).set l none).set j x
            rw [ih2 σ fun z => hn (List.mem_cons_of_mem _ z)]
            exact List.set_comm _ _ fun z => hn (z ▸ List.mem_cons_self)
        rw [push ks σ hk, List.set_set]
  have w2 : ∀ (vs : List Nat) (σ : St), wipe (wipe σ vs) vs = wipe σ vs := by
    intro vs
    have aux : ∀ (ks ls : List Nat) (σ : St), (∀ k ∈ ks, k ∈ ls) → wipe (wipe σ ls) ks = wipe σ ls := by
      intro ks
      induction ks with
      | nil => intro ls σ _; rfl
      | cons k ks ih =>
        intro ls σ h
        show (wipe (wipe σ ls) ks).set k none = wipe σ ls
        rw [ih ls σ fun z hz => h z (List.mem_cons_of_mem _ hz)]
        have hk := h k List.mem_cons_self
        clear ih h
        induction ls with
        | nil => simp at hk
        | cons l ls ih =>
          show ((wipe σ ls).set l none).set k none = (wipe σ ls).set l none
          by_cases e : l = k
          · subst e; rw [List.set_set]
          · rw [List.set_comm _ _ e]
            rcases List.mem_cons.mp hk with z | z
            · exact absurd z.symm e
            · rw [ih z]
    intro σ
    exact aux vs vs σ fun _ h => h
  constructor
  · intro h
    exact ⟨by rw [key vs hj, w2], h⟩
  · intro h
    exact h.2
theorem cw_start {F1 : Hp} {σ : St} {H1 : Hp} {I : Nat → List PyData → Own → Prop} {Dl : Addr} (r1 : Rep B ε La F1 σ H1) (hD : H1 Dl = none) (h0 : I 0 [] La) : CW B ε vs F1 σ I Dl 0 (upd H1 Dl (.lst [])) :=
  ⟨[], La, F1, Sub.rfl' F1, h0, ((r1.alloc (m := .lst Dl []) hD rfl ⟨[], upd_same, .nil⟩).toEnd).wipe vs⟩
theorem cw_end {F F1 : Hp} {σ : St} {H1 : Hp} {I : Nat → List PyData → Own → Prop} {Dl : Addr} {n : Nat} {H' : Hp} {Q : VK} (s1 : Sub F F1) (r1 : Rep B ε La F1 σ H1) (hD : H1 Dl = none) (c : CW B ε vs F1 σ I Dl n H')
    {ds : List PyData} (hd : ∀ acc L', I n acc L' → acc = ds ∧ L' = L) (q : ∀ p F' H', Sub F F' → p ∉ B.M → Rep B ε (.lst p ds :: L) F' σ H' → Q (.ref p) H') : Q (.ref Dl) H' := by
  obtain ⟨acc, L', F', s, hI, r⟩ := c
  obtain ⟨rfl, rfl⟩ := hd acc L' hI
  exact q Dl F' H' (s1.tr s) (r1.newM hD) (r.reslot r1 s).toHead
theorem en_lcR1 {j : Nat} {n : Int} {ds : List PyData} (h : EA B tas ε L [.d (.int n)] La) (hn : -(2 ^ 62) ≤ n ∧ n < 2 ^ 62) (I : Nat → List PyData → Own → Prop) (h0 : I 0 [] La) (hj : j ∈ vs)
    (hs : ∀ i : Nat, (i : Int) < n → CTurn B (gName j) tt te ε vs I i (.int (i : Int))) (hd : ∀ acc L', I n.toNat acc L' → acc = ds ∧ L' = Lb) : EN B (tLc (iRng1 tas) (gName j) tt te vs) ε L ds Lb := fun F σ H r Q q =>
  h F σ H r _ fun ws F1 H1 s1 r1 o1 => by
    match ws, o1 with
    | [v], o =>
      have ev : v = .int n := int_inv o.1
      subst ev
      refine ⟨n, rfl, hn.1, hn.2, fun Dl hD => lc_range (lo := 0) (n := n.toNat) (CW B ε vs F1 σ I Dl) (cw_start r1 hD h0) (fun i H' hi c => ?_) fun H' c => cw_end s1 r1 hD c hd q⟩
      have e0 : (0 : Int) + (i : Int) = (i : Int) := Int.zero_add _
      rw [e0]
      exact cturn_go (gw_name hj) (hs i (by omega)) c fun _ _ _ _ _ => .int _
theorem en_lcR2 {j : Nat} {lo n : Int} {ds : List PyData} (h : EA B tas ε L [.d (.int lo), .d (.int n)] La) (hn : (-(2 ^ 62) ≤ lo ∧ lo < 2 ^ 62) ∧ -(2 ^ 62) ≤ n ∧ n < 2 ^ 62) (I : Nat → List PyData → Own → Prop) (h0 : I 0 [] La) (hj : j ∈ vs)
    (hs : ∀ i : Nat, lo + (i : Int) < n → CTurn B (gName j) tt te ε vs I i (.int (lo + (i : Int)))) (hd : ∀ acc L', I (n - lo).toNat acc L' → acc = ds ∧ L' = Lb) : EN B (tLc (iRng2 tas) (gName j) tt te vs) ε L ds Lb := fun F σ H r Q q =>
  h F σ H r _ fun ws F1 H1 s1 r1 o1 => by
    match ws, o1 with
    | [v, w], o =>
      have ev : v = .int lo := int_inv o.1
      have ew : w = .int n := int_inv o.2.1
      subst ev ew
      refine ⟨lo, n, rfl, ⟨hn.1.1, hn.1.2, hn.2.1, hn.2.2⟩, fun Dl hD => lc_range (lo := lo) (n := (n - lo).toNat) (CW B ε vs F1 σ I Dl) (cw_start r1 hD h0) (fun i H' hi c => ?_) fun H' c => cw_end s1 r1 hD c hd q⟩
      exact cturn_go (gw_name hj) (hs i (by omega)) c fun _ _ _ _ _ => .int _
/-- over a frozen list, any target -/
theorem en_lcL {xs ds : List PyData} (h : EX B tl ε L (.d (.list xs)) La) (I : Nat → List PyData → Own → Prop) (h0 : I 0 [] La)
    (hw : ∀ (v : V) (σ : St) (H : Hp) (P : St → Hp → Prop), (g v (wipe σ vs) H P ↔ g v (wipe σ vs) H fun σ2 H2 => wipe σ2 vs = wipe σ vs ∧ P σ2 H2))
    (hs : ∀ (i : Nat) d, xs[i]? = some d → CTurn B g tt te ε vs I i d) (hd : ∀ acc L', I xs.length acc L' → acc = ds ∧ L' = Lb) : EN B (tLc (iList B.K tl) g tt te vs) ε L ds Lb := fun F σ H r Q q =>
  h F σ H r _ fun v F1 H1 s1 r1 o1 => by
    have o' : Dq B.K F1 v (.list xs) := o1
    cases o' with
    | @lst p us _ q1 q2 =>
      refine ⟨p, rfl, ⟨us, .inl (.inl (r1.sub _ _ q1))⟩, fun Dl hD => lc_list (xs := us) (CW B ε vs F1 σ I Dl) (cw_start r1 hD h0) (fun i H' _ c => ?_) (fun i x H' hi c => ?_) fun H' c => cw_end s1 r1 hD (by rw [dpa_len q2] at c; exact c) hd q⟩
      · obtain ⟨acc, L', F', s, hI, r'⟩ := c
        exact .inl (.inl (r'.sub _ _ (s _ _ q1)))
      · have hlt : i < xs.length := by rw [← dpa_len q2]; exact (List.getElem?_eq_some_iff.mp hi).1
        obtain ⟨w, e1, e2⟩ := dpa_get q2 (List.getElem?_eq_getElem hlt)
        have ex : x = w := Option.some.inj (hi.symm.trans e1)
        subst ex
        exact cturn_go hw (hs i _ (List.getElem?_eq_getElem hlt)) c fun F' _ _ s _ => dp_sub s e2
theorem en_lcT {xs ds : List PyData} (h : EX B tl ε L (.d (.tuple xs)) La) (I : Nat → List PyData → Own → Prop) (h0 : I 0 [] La)
    (hw : ∀ (v : V) (σ : St) (H : Hp) (P : St → Hp → Prop), (g v (wipe σ vs) H P ↔ g v (wipe σ vs) H fun σ2 H2 => wipe σ2 vs = wipe σ vs ∧ P σ2 H2))
    (hs : ∀ (i : Nat) d, xs[i]? = some d → CTurn B g tt te ε vs I i d) (hd : ∀ acc L', I xs.length acc L' → acc = ds ∧ L' = Lb) : EN B (tLc (iTup B.K tl) g tt te vs) ε L ds Lb := fun F σ H r Q q =>
  h F σ H r _ fun v F1 H1 s1 r1 o1 => by
    have o' : Dq B.K F1 v (.tuple xs) := o1
    cases o' with
    | @tup p us _ q1 q2 =>
      refine ⟨p, rfl, ⟨us, tq_sub r1.sub q1⟩, fun Dl hD => lc_tup (xs := us) (CW B ε vs F1 σ I Dl) (cw_start r1 hD h0) (fun i H' _ c => ?_) (fun i x H' hi c => ?_) fun H' c => cw_end s1 r1 hD (by rw [dpa_len q2] at c; exact c) hd q⟩
      · obtain ⟨acc, L', F', s, hI, r'⟩ := c
        exact tq_sub r'.sub (s _ _ q1)
      · have hlt : i < xs.length := by rw [← dpa_len q2]; exact (List.getElem?_eq_some_iff.mp hi).1
        obtain ⟨w, e1, e2⟩ := dpa_get q2 (List.getElem?_eq_getElem hlt)
        have ex : x = w := Option.some.inj (hi.symm.trans e1)
        subst ex
        exact cturn_go hw (hs i _ (List.getElem?_eq_getElem hlt)) c fun F' _ _ s _ => dp_sub s e2
/-- the plain kind: what is owned stays, the items are filtered and mapped -/
theorem cturn_pure {i : Nat} {d : PyData} {L0 : Own} {xs : List PyData} {f : PyData → PyData} {t : PyData → Bool} {ε2 : Eps} (hx : xs[i]? = some d) (hz : xs.length ≤ 90000) (hg : GT B g (.d d) (wipeE ε vs) ε2)
    (ht : ∀ m, ETt B tt ε2 (L0 ++ [m]) (t d) (L0 ++ [m])) (he : t d = true → ∀ m, EX B te ε2 (L0 ++ [m]) (.d (f d)) (L0 ++ [m])) :
    CTurn B g tt te ε vs (fun i acc L => acc = ((xs.take i).filter t).map f ∧ L = L0) i d := fun acc L' ⟨ha, hL⟩ => by
  subst ha hL
  have hi : i < xs.length := (List.getElem?_eq_some_iff.mp hx).1
  have e1 : xs.take (i + 1) = xs.take i ++ [d] := by rw [List.take_add_one, hx]; rfl
  refine ⟨?_, ε2, hg, t d, L', ht, fun hb => ⟨f d, L', he hb, ?_, rfl⟩, fun hb => ⟨?_, rfl⟩⟩
  · rw [List.length_map]
    exact Nat.lt_of_le_of_lt (List.length_filter_le _ _) (by rw [List.length_take]; omega)
  · rw [e1, List.filter_append, List.map_append, List.filter_cons, if_pos hb]; rfl
  · rw [e1, List.filter_append, List.map_append, List.filter_cons, if_neg (by rw [hb]; exact Bool.false_ne_true)]
    show _ = _ ++ []
    rw [List.append_nil]
theorem et_yes : ETt B tYes ε L true L := fun F σ H r Q q => q F H (Sub.rfl' F) r
end

/-! ### what defs promise -/
def NxM (M : List Addr) (F H F' H' : Hp) : Prop := Sub F F' ∧ (∀ a o, a ∉ M → H a = some o → H' a = some o) ∧ Sub F' H' ∧ ∀ a, F a = none → H a ≠ none → F' a = none ∨ ∃ xs, H a = some (.tup xs)
/-- a def of data: R says what comes of what -/
def spR (K : PySem.W.Frag) (R : List PyData → PyData → Prop) : Sp := fun vs H Q _ => ∃ F ds d, Sub F H ∧ DqAll K F vs ds ∧ R ds d ∧ ∀ v F' H', NxM [] F H F' H' → Dq K F' v d → Q v H'
def BOk (cells : List Int) (cur mix : Int) : Prop := 0 ≤ mix ∧ mix < 2147483647 ∧ 0 ≤ cur ∧ ∀ c ∈ cells, 0 ≤ c
structure Bag where
  cells : List Int
  cur : Int
  mix : Int
  ok : BOk cells cur mix
def Bag.at (b : Bag) (pb pc : Addr) : MO := .bag pb pc b.cells b.cur b.mix
/-- a def whose first argument is the bag -/
def spB (K : PySem.W.Frag) (R : Bag → List PyData → PyData → Bag → Prop) : Sp := fun vs H Q _ => ∃ F pb pc b vs' ds d b', vs = .ref pb :: vs' ∧ Sub F H ∧ F pb = none ∧ F pc = none ∧ pb ≠ pc ∧ BagAt H pb pc b.cells b.cur b.mix ∧ DqAll K F vs' ds ∧ R b ds d b' ∧
  ∀ v F' H', NxM [pb, pc] F H F' H' → BagAt H' pb pc b'.cells b'.cur b'.mix → Dq K F' v d → Q v H'
section
variable {B : Bg} {ε ε' : Eps} {L L' La Lb Lc Ld : Own} {te ta tb tl : TE} {tt tu : TT} {tas tr : TA} {a b x : AD} {D : Ends} {ts tc tw : TS} {g : TG} {F : Hp} {σ : St} {H : Hp}
/-- behind a call that changes what M tells of -/
theorem Rep.call (r : Rep B ε L F σ H) {F' H' : Hp} (n : NxM [] F H F' H') : Rep B ε L F' σ H' := by
  obtain ⟨n1, n2, n3, n4⟩ := n
  have k : Sub H H' := fun a o e => n2 a o (by simp) e
  refine ⟨n3, fun m hm => ((r.own m hm).subF n1).same fun p _ o e => k p o e, fun p hp => ⟨?_, (r.off p hp).2⟩, r.nd, fun i x e => ?_, r.len, r.f0.tr n1, fun a o h e => k a o (r.h0 a o h e), fun a h1 h2 => ?_, r.mm⟩
  · obtain ⟨o, ho⟩ := r.there hp
    exact (n4 p (r.off p hp).1 (by rw [ho]; exact fun z => nomatch z)).resolve_right fun ⟨xs, e⟩ => r.noT hp e
  · obtain ⟨s, q1, q2⟩ := r.sl i x e
    exact ⟨s, q1, q2.sub n1⟩
  · refine (r.nc a h1 h2).elim (fun hn => ?_) .inr
    by_cases hm : a ∈ B.M
    · obtain ⟨o, ho⟩ := r.there (r.mm a hm)
      exact .inl ((n4 a hn (by rw [ho]; exact fun z => nomatch z)).resolve_right fun ⟨xs, e⟩ => r.noT (r.mm a hm) e)
    · cases e : B.H0 a with
      | none => exact absurd e h2
      | some o =>
        refine (n4 a hn (by rw [r.h0 a o hm e]; exact fun z => nomatch z)).elim .inl fun ⟨xs, q⟩ => .inr ⟨xs, ?_⟩
        rw [r.h0 a o hm e] at q
        exact q
theorem Rep.callB (r : Rep B ε L F σ H) {k : Nat} {pb pc : Addr} {c : List Int} {u m : Int} {b' : Bag} (hk : L[k]? = some (.bag pb pc c u m)) {F' H' : Hp} (n : NxM [pb, pc] F H F' H') (hb : BagAt H' pb pc b'.cells b'.cur b'.mix) : Rep B ε (L.set k (b'.at pb pc)) F' σ H' := by
  obtain ⟨n1, n2, n3, n4⟩ := n
  -- first the frozen part grows over the old heap, then the bag changes
  have hL := List.mem_of_getElem? hk
  have ef := fps_set (m' := b'.at pb pc) hk rfl
  have hmem : ∀ p ∈ ([pb, pc] : List Addr), p ∈ fps L := fun p hp => mem_fps hL hp
  refine ⟨n3, fun x hx => ?_, fun p hp => ?_, by rw [ef]; exact r.nd, fun i x e => ?_, r.len, r.f0.tr n1, fun a o h e => ?_, fun a h1 h2 => ?_, by rw [ef]; exact r.mm⟩
  · obtain ⟨j, hj⟩ := List.mem_iff_getElem?.mp hx
    rw [List.getElem?_set] at hj
    split at hj
    · split at hj
      · cases hj; exact hb
      · cases hj
    · rename_i ne
      exact ((r.own x (List.mem_of_getElem? hj)).subF n1).same fun p hp o e => n2 p o (fun h => fps_apart r.nd hk hj ne p h hp) e
  · rw [ef] at hp
    obtain ⟨o, ho⟩ := r.there hp
    exact ⟨(n4 p (r.off p hp).1 (by rw [ho]; exact fun z => nomatch z)).resolve_right fun ⟨xs, e⟩ => r.noT hp e, (r.off p hp).2⟩
  · obtain ⟨s, q1, q2⟩ := r.sl i x e
    exact ⟨s, q1, q2.sub n1⟩
  · refine n2 a o (fun hm => ?_) (r.h0 a o h e)
    rcases (r.off a (hmem a hm)).2 with q | q
    · exact h q
    · rw [q] at e; cases e
  · refine (r.nc a h1 h2).elim (fun hn => ?_) .inr
    by_cases hm : a ∈ B.M
    · obtain ⟨o, ho⟩ := r.there (r.mm a hm)
      exact .inl ((n4 a hn (by rw [ho]; exact fun z => nomatch z)).resolve_right fun ⟨xs, e⟩ => r.noT (r.mm a hm) e)
    · cases e : B.H0 a with
      | none => exact absurd e h2
      | some o =>
        refine (n4 a hn (by rw [r.h0 a o hm e]; exact fun z => nomatch z)).elim .inl fun ⟨xs, q⟩ => .inr ⟨xs, ?_⟩
        rw [r.h0 a o hm e] at q
        exact q
theorem ex_call {R : List PyData → PyData → Prop} {E : XK} {ds : List PyData} {d : PyData} (h : EA B tas ε L (ds.map AD.d) La) (hR : R ds d) : EX B (tCall (spR B.K R) [] E tas) ε L (.d d) La := fun F σ H r Q q =>
  h F σ H r _ fun vs F1 H1 s1 r1 o1 => by
    rw [List.append_nil]
    exact ⟨F1, ds, d, r1.sub, ad_data o1, hR, fun v F' H' n o => q v F' H' (s1.tr n.1) (r1.call n) o⟩
theorem ex_callB {R : Bag → List PyData → PyData → Bag → Prop} {E : XK} {k : Nat} {pb pc : Addr} {b : Bag} {ds : List PyData} {d : PyData} {b' : Bag} (h : EA B tas ε L (.v (.ref pb) :: ds.map AD.d) La) (hk : La[k]? = some (b.at pb pc)) (hR : R b ds d b') :
    EX B (tCall (spB B.K R) [] E tas) ε L (.d d) (La.set k (b'.at pb pc)) := fun F σ H r Q q =>
  h F σ H r _ fun vs F1 H1 s1 r1 o1 => by
    match vs, o1 with
    | v :: vs', o =>
      have ev : v = .ref pb := o.1
      subst ev
      rw [List.append_nil]
      have hm := List.mem_of_getElem? hk
      have nd : pb ≠ pc := fun e => by
        have x : ([pb, pc] : List Addr).Nodup := by
          have sl : ([pb, pc] : List Addr).Sublist (fps La) := by
            obtain ⟨l1, l2, e2⟩ := List.append_of_mem hm
            rw [e2]
            unfold fps
            rw [List.flatMap_append, List.flatMap_cons]
            exact (List.sublist_append_left _ _).trans (List.sublist_append_right _ _)
          exact r1.nd.sublist sl
        subst e
        simp at x
      exact ⟨F1, pb, pc, b, vs', ds, d, b', rfl, r1.sub, (r1.off pb (mem_fps hm List.mem_cons_self)).1, (r1.off pc (mem_fps hm (List.mem_cons_of_mem _ List.mem_cons_self))).1, nd, r1.own _ hm, ad_data o.2, hR,
        fun v F' H' n hb o => q v F' H' (s1.tr n.1) (r1.callB hk n hb) o⟩
/-- with keywords alone: perm puts them in the parameters' order -/
theorem ex_callK {R : List PyData → PyData → Prop} {E : XK} {gV : List V → List V → List V} {tk : TA} {as bs : List AD} {ds : List PyData} {d : PyData} (h : EA B tas ε L as La) (hk : EA B tk ε La bs Lb)
    (hp : ∀ K F vs zs, AdAll K F as vs → AdAll K F bs zs → DqAll K F (gV vs zs) ds) (hR : R ds d) : EX B (tCallK (spR B.K R) gV E tas tk) ε L (.d d) Lb := fun F σ H r Q q =>
  h F σ H r _ fun vs F1 H1 s1 r1 o1 => hk F1 σ H1 r1 _ fun zs F2 H2 s2 r2 o2 =>
    ⟨F2, ds, d, r2.sub, hp _ _ _ _ (o1.sub s2) o2, hR, fun v F' H' n o => q v F' H' ((s1.tr s2).tr n.1) (r2.call n) o⟩

/-! ### a def's entry and end -/
def argE (ds : List PyData) (n : Nat) : Eps := ds.map (fun d => some (.d d)) ++ List.replicate (n - ds.length) none
theorem rep_start {K : PySem.W.Frag} {N : List Str} {F H : Hp} {vs : List V} {ds : List PyData} (s : Sub F H) (h : DqAll K F vs ds) (hn : ds.length ≤ N.length) : Rep ⟨K, F, H, []⟩ (argE ds N.length) [] F (_root_.L2.start N vs) H := by
  have hl := dpa_len h
  refine ⟨s, fun m hm => (nomatch hm), fun p hp => (nomatch hp), List.nodup_nil, fun i x e => ?_, ?_, Sub.rfl' F, fun _ _ _ e => e, fun _ e _ => .inl e, fun p hp => (nomatch hp)⟩
  · unfold argE at e
    unfold _root_.L2.start
    by_cases hi : i < ds.length
    · rw [List.getElem?_append_left (by rw [List.length_map]; exact hi), List.getElem?_map] at e
      cases e1 : ds[i]? with
      | none => rw [e1] at e; cases e
      | some d =>
        rw [e1] at e
        cases e
        obtain ⟨v, g1, g2⟩ := dpa_get h e1
        refine ⟨some v, ?_, v, rfl, g2⟩
        rw [List.getElem?_append_left (by rw [List.length_map, hl]; exact hi), List.getElem?_map, g1]; rfl
    · rw [List.getElem?_append_right (by rw [List.length_map]; omega), List.length_map, List.getElem?_replicate] at e
      split at e
      · cases e
        rename_i hlt
        refine ⟨none, ?_, trivial⟩
        rw [List.getElem?_append_right (by rw [List.length_map, hl]; omega), List.length_map, hl, List.getElem?_replicate, if_pos hlt]
      · cases e
  · unfold _root_.L2.start argE
    rw [List.length_append, List.length_append, List.length_map, List.length_map, List.length_replicate, List.length_replicate, hl]
theorem rep_startB {K : PySem.W.Frag} {N : List Str} {F H : Hp} {pb pc : Addr} {b : Bag} {vs : List V} {ds : List PyData} (s : Sub F H) (f1 : F pb = none) (f2 : F pc = none) (ne : pb ≠ pc) (hb : BagAt H pb pc b.cells b.cur b.mix) (h : DqAll K F vs ds) (hn : ds.length + 1 ≤ N.length) :
    Rep ⟨K, F, H, [pb, pc]⟩ (some (.v (.ref pb)) :: argE ds (N.length - 1)) [b.at pb pc] F (_root_.L2.start N (.ref pb :: vs)) H := by
  have hl := dpa_len h
  refine ⟨s, fun m hm => ?_, fun p hp => ?_, ?_, fun i x e => ?_, ?_, Sub.rfl' F, fun _ _ _ e => e, fun _ e _ => .inl e, fun p hp => hp⟩
  · rw [List.mem_singleton.mp hm]; exact hb
  · have hp' : p ∈ ([pb, pc] : List Addr) := hp
    refine ⟨?_, .inl hp'⟩
    rcases List.mem_cons.mp hp' with e | e
    · rw [e]; exact f1
    · rw [List.mem_singleton.mp e]; exact f2
  · show ([pb, pc] : List Addr).Nodup
    simp [ne]
  · cases i with
    | zero => cases e; exact ⟨_, rfl, _, rfl, rfl⟩
    | succ i =>
      have e : (argE ds (N.length - 1))[i]? = some x := e
      show ∃ s, (_root_.L2.start N (.ref pb :: vs))[i + 1]? = some s ∧ _
      have es : (_root_.L2.start N (.ref pb :: vs))[i + 1]? = (vs.map some ++ List.replicate (N.length - 1 - vs.length) none)[i]? := by
        unfold _root_.L2.start
        rw [List.map_cons, List.cons_append, List.getElem?_cons_succ, List.length_cons]
        have : N.length - (vs.length + 1) = N.length - 1 - vs.length := by omega
        rw [this]
      rw [es]
      unfold argE at e
      by_cases hi : i < ds.length
      · rw [List.getElem?_append_left (by rw [List.length_map]; exact hi), List.getElem?_map] at e
        cases e1 : ds[i]? with
        | none => rw [e1] at e; cases e
        | some d =>
          rw [e1] at e
          cases e
          obtain ⟨v, g1, g2⟩ := dpa_get h e1
          refine ⟨some v, ?_, v, rfl, g2⟩
          rw [List.getElem?_append_left (by rw [List.length_map, hl]; exact hi), List.getElem?_map, g1]; rfl
      · rw [List.getElem?_append_right (by rw [List.length_map]; omega), List.length_map, List.getElem?_replicate] at e
        split at e
        · cases e
          rename_i hlt
          refine ⟨none, ?_, trivial⟩
          rw [List.getElem?_append_right (by rw [List.length_map, hl]; omega), List.length_map, hl, List.getElem?_replicate, if_pos hlt]
        · cases e
  · unfold _root_.L2.start argE
    simp only [List.length_append, List.length_map, List.length_replicate, List.length_cons, hl]
    omega
theorem Rep.nx (r : Rep B ε L F σ H) : NxM B.M B.F0 B.H0 F H := ⟨r.f0, r.h0, r.sub, r.nc⟩
theorem Rep.bag {pb pc : Addr} {c : List Int} {u m : Int} (r : Rep B ε L F σ H) (h : MO.bag pb pc c u m ∈ L) : BagAt H pb pc c u m := r.own _ h
end

section
variable {P : Program} {w : World} {K : PySem.W.Frag} {mg : Str → Option Value} {base : Heap}
/-- THE RULE for a def of data -/
theorem fn_data {x qual : Str} {st : Stmt} {f : Addr} {fd : FuncData} {N ps : List Str} {k : Nat} {R : List PyData → PyData → Prop} (Fn : Fun K x qual st f fd) (S : FnScope N ps (defScope st)) (hps : ps.length ≤ N.length) (len : ∀ ds d, R ds d → ds.length = ps.length)
    (hbody : ∀ (cdv : Value) (A : Around) (outer : List Env) (s : Shared) (H : Hp) (E : XK), Room k (A.deeper (PyProof.Rows.envOfC qual (defScope st) s.heap.objs.size f cdv)) →
      ∃ t, PSs (cxOf CX0 P w K mg base N qual (defScope st) f cdv A outer s H E).nox (defBody st) t ∧
        ∀ (B : Bg) (Q : VK) ds d, B.K = K → B.M = [] → R ds d → (∀ v F' H', NxM [] B.F0 B.H0 F' H' → Dq K F' v d → Q v H') → Ho B (t { nx := fun _ H' => Q .non H', rt := Q }) (argE ds N.length) []) :
    FnOk P w K mg base CX0 (k + 1) f fd ps (spR K R) := by
  refine Fn.ok S (fun vs H Q E h => ?_) fun cdv A outer s H vs Q E hr h => ?_
  · obtain ⟨F, ds, d, _, hd, hR, _⟩ := h
    rw [dpa_len hd]; exact len ds d hR
  · obtain ⟨t, ht, hb⟩ := hbody cdv A outer s H E hr
    obtain ⟨F, ds, d, hs, hd, hR, q⟩ := h
    refine ⟨t, ht, hb ⟨K, F, H, []⟩ Q ds d rfl rfl hR q F _ H (rep_start hs hd ?_)⟩
    rw [len ds d hR]; exact hps
/-- THE RULE for a def with the bag -/
theorem fn_bag {x qual : Str} {st : Stmt} {f : Addr} {fd : FuncData} {N ps : List Str} {k : Nat} {R : Bag → List PyData → PyData → Bag → Prop} (Fn : Fun K x qual st f fd) (S : FnScope N ps (defScope st)) (hps : ps.length ≤ N.length) (len : ∀ b ds d b', R b ds d b' → ds.length + 1 = ps.length)
    (hbody : ∀ (cdv : Value) (A : Around) (outer : List Env) (s : Shared) (H : Hp) (E : XK), Room k (A.deeper (PyProof.Rows.envOfC qual (defScope st) s.heap.objs.size f cdv)) →
      ∃ t, PSs (cxOf CX0 P w K mg base N qual (defScope st) f cdv A outer s H E).nox (defBody st) t ∧
        ∀ (B : Bg) (Q : VK) pb pc b ds d b', B.K = K → B.M = [pb, pc] → R b ds d b' → (∀ v F' H', NxM [pb, pc] B.F0 B.H0 F' H' → BagAt H' pb pc b'.cells b'.cur b'.mix → Dq K F' v d → Q v H') →
          Ho B (t { nx := fun _ H' => Q .non H', rt := Q }) (some (.v (.ref pb)) :: argE ds (N.length - 1)) [b.at pb pc]) :
    FnOk P w K mg base CX0 (k + 1) f fd ps (spB K R) := by
  refine Fn.ok S (fun vs H Q E h => ?_) fun cdv A outer s H vs Q E hr h => ?_
  · obtain ⟨F, pb, pc, b, vs', ds, d, b', rfl, _, _, _, _, _, hd, hR, _⟩ := h
    rw [List.length_cons, dpa_len hd]; exact len b ds d b' hR
  · obtain ⟨t, ht, hb⟩ := hbody cdv A outer s H E hr
    obtain ⟨F, pb, pc, b, vs', ds, d, b', rfl, hs, f1, f2, ne, bg, hd, hR, q⟩ := h
    refine ⟨t, ht, hb ⟨K, F, H, [pb, pc]⟩ Q pb pc b ds d b' rfl rfl hR q F _ H (rep_startB hs f1 f2 ne bg hd ?_)⟩
    rw [len b ds d b' hR]; exact hps
end
end Fz

/-! ## Fz4 -/
set_option Elab.async false
set_option linter.all false
set_option maxRecDepth 100000
set_option maxHeartbeats 2000000
set_option autoImplicit false
/-! Fz4: methods of lists, built-ins, the bag. -/
namespace Fz
open PySem L2

section
variable {B : Bg} {ε ε' : Eps} {L L' La Lb Lc Ld : Own} {te ta tb tl to ti : TE} {tt tu : TT} {tas tr : TA} {a b x : AD} {D : Ends} {ts tc tw : TS} {g : TG}
/-! ### built-ins by values -/
theorem ex_abs {i : Int} (h : EX B te ε L (.d (.int i)) La) : EX B (tCB (fun xs H Q => ∃ i, xs = [.int i] ∧ Q (.int (if i < 0 then -i else i)) H) (tCons te tNil)) ε L (.d (.int (if i < 0 then -i else i))) La := fun F σ H r Q q =>
  h F σ H r _ fun v F1 H1 s1 r1 o1 => ⟨i, by rw [int_inv o1], q _ F1 H1 s1 r1 (.int _)⟩
theorem ex_int1 {i : Int} (h : EX B te ε L (.d (.int i)) La) : EX B (tCB (fun xs H Q => (∃ i, xs = [.int i] ∧ Q (.int i) H) ∨ ∃ k, xs = [.bl k] ∧ Q (.int (if k then 1 else 0)) H) (tCons te tNil)) ε L (.d (.int i)) La := fun F σ H r Q q =>
  h F σ H r _ fun v F1 H1 s1 r1 o1 => .inl ⟨i, by rw [int_inv o1], q _ F1 H1 s1 r1 (.int _)⟩
theorem ex_max2 {i j : Int} (h : EX B ta ε L (.d (.int i)) La) (h2 : EX B tb ε La (.d (.int j)) Lb) : EX B (tCB (fun xs H Q => ∃ i j, xs = [.int i, .int j] ∧ Q (.int (if j > i then j else i)) H) (tCons ta (tCons tb tNil))) ε L (.d (.int (if j > i then j else i))) Lb := fun F σ H r Q q =>
  h F σ H r _ fun v F1 H1 s1 r1 o1 => h2 F1 σ H1 r1 _ fun w F2 H2 s2 r2 o2 => ⟨i, j, by rw [int_inv o1, int_inv o2], q _ F2 H2 (s1.tr s2) r2 (.int _)⟩
theorem ex_min2 {i j : Int} (h : EX B ta ε L (.d (.int i)) La) (h2 : EX B tb ε La (.d (.int j)) Lb) : EX B (tCB (fun xs H Q => ∃ i j, xs = [.int i, .int j] ∧ Q (.int (if j < i then j else i)) H) (tCons ta (tCons tb tNil))) ε L (.d (.int (if j < i then j else i))) Lb := fun F σ H r Q q =>
  h F σ H r _ fun v F1 H1 s1 r1 o1 => h2 F1 σ H1 r1 _ fun w F2 H2 s2 r2 o2 => ⟨i, j, by rw [int_inv o1, int_inv o2], q _ F2 H2 (s1.tr s2) r2 (.int _)⟩
/-- list(x) of a list, of a tuple -/
def rListOf (K : PySem.W.Frag) : List V → Hp → VK → Prop := fun xs H Q => ∃ p ys, xs = [.ref p] ∧ (SqL K H p ys ∨ SqT K H p ys) ∧ ∀ l, H l = none → Q (.ref l) (upd H l (.lst ys))
theorem en_list {ds : List PyData} (h : EX B te ε L x La) (hx : IsL La x ds) : EN B (tCB (rListOf B.K) (tCons te tNil)) ε L ds La := fun F σ H r Q q =>
  h F σ H r _ fun v F1 H1 s1 r1 o1 => by
    obtain ⟨p, vs, rfl, g1, g2⟩ := hx.get r1 o1
    exact ⟨p, vs, rfl, .inl g1, fun l hl => q l F1 _ s1 (r1.newM hl) (r1.alloc hl rfl ⟨vs, upd_same, g2⟩)⟩
theorem en_listT {ds : List PyData} (h : EX B te ε L (.d (.tuple ds)) La) : EN B (tCB (rListOf B.K) (tCons te tNil)) ε L ds La := fun F σ H r Q q =>
  h F σ H r _ fun v F1 H1 s1 r1 o1 => by
    obtain ⟨p, vs, rfl, g1, g2⟩ := tup_inv o1
    exact ⟨p, vs, rfl, .inr (tq_sub r1.sub g1), fun l hl => q l F1 _ s1 (r1.newM hl) (r1.alloc hl rfl ⟨vs, upd_same, g2⟩)⟩
/-- tuple(x) -/
theorem ex_tupL {ds : List PyData} (h : EX B te ε L x La) (hx : IsL La x ds) : EX B (tThen te (kTup B.K)) ε L (.d (.tuple ds)) La := fun F σ H r Q q =>
  h F σ H r _ fun v F1 H1 s1 r1 o1 => by
    obtain ⟨p, vs, rfl, g1, g2⟩ := hx.get r1 o1
    refine .inl ⟨p, vs, rfl, g1, fun l hl => ?_⟩
    have hF := sub_none r1.sub hl
    exact q _ _ _ (s1.tr (sub_fresh hF)) (r1.grow hl) (.tup upd_same (dpa_sub (sub_fresh hF) g2))
theorem ex_tupT {ds : List PyData} (h : EX B te ε L (.d (.tuple ds)) La) : EX B (tThen te (kTup B.K)) ε L (.d (.tuple ds)) La := fun F σ H r Q q =>
  h F σ H r _ fun v F1 H1 s1 r1 o1 => by
    obtain ⟨p, vs, rfl, g1, g2⟩ := tup_inv o1
    exact .inr ⟨p, vs, rfl, tq_sub r1.sub g1, q _ F1 H1 s1 r1 o1⟩
def rgD (a b : Int) : List PyData := (List.range (b - a).toNat).map fun i => PyData.int (a + (i : Nat))
theorem rg_dp {K : PySem.W.Frag} {F : Hp} (a b : Int) : DqAll K F (rgV a b) (rgD a b) := by
  unfold rgV rgD
  generalize List.range (b - a).toNat = l
  induction l with
  | nil => exact .nil
  | cons x l ih => exact .cons (.int _) ih
theorem en_listRg1 {n : Int} (h : EX B ta ε L (.d (.int n)) La) (hn : 0 ≤ n ∧ n ≤ 100000) : EN B (tLstRg (tRg1 ta)) ε L (rgD 0 n) La := fun F σ H r Q q =>
  h F σ H r _ fun v F1 H1 s1 r1 o1 => ⟨n, int_inv o1, RgOk.of_le (by omega) (by omega) (by omega) (by omega), fun l hl => q l F1 _ s1 (r1.newM hl) (r1.alloc hl rfl ⟨_, upd_same, rg_dp 0 n⟩)⟩
theorem en_listRg2 {m n : Int} (h : EX B ta ε L (.d (.int m)) La) (h2 : EX B tb ε La (.d (.int n)) Lb) (hn : (0 ≤ m ∧ m ≤ 100000) ∧ 0 ≤ n ∧ n ≤ 100000) : EN B (tLstRg (tRg2 ta tb)) ε L (rgD m n) Lb := fun F σ H r Q q =>
  h F σ H r _ fun v F1 H1 s1 r1 o1 => h2 F1 σ H1 r1 _ fun w F2 H2 s2 r2 o2 => ⟨m, n, int_inv o1, int_inv o2, RgOk.of_le (by omega) (by omega) (by omega) (by omega), fun l hl => q l F2 _ (s1.tr s2) (r2.newM hl) (r2.alloc hl rfl ⟨_, upd_same, rg_dp m n⟩)⟩
theorem ex_sum {ns : List Int} (h : EX B te ε L x La) (hx : IsL La x (ns.map PyData.int)) : EX B (tCB (rSum B.K) (tCons te tNil)) ε L (.d (.int ns.sum)) La := fun F σ H r Q q =>
  h F σ H r _ fun v F1 H1 s1 r1 o1 => by
    obtain ⟨p, vs, rfl, g1, g2⟩ := hx.get r1 o1
    rw [dpa_int_inv g2] at g1
    exact ⟨p, ns, rfl, g1, q _ F1 H1 s1 r1 (.int _)⟩
theorem ex_allB {bs : List Bool} (h : EX B te ε L x La) (hx : IsL La x (bs.map PyData.bool)) : EX B (tCB (rAll B.K) (tCons te tNil)) ε L (.d (.bool (bs.all id))) La := fun F σ H r Q q =>
  h F σ H r _ fun v F1 H1 s1 r1 o1 => by
    obtain ⟨p, vs, rfl, g1, g2⟩ := hx.get r1 o1
    rw [dpa_bool_inv g2] at g1
    exact ⟨p, bs, rfl, g1, q _ F1 H1 s1 r1 (.bl _)⟩
theorem ex_anyB {bs : List Bool} (h : EX B te ε L x La) (hx : IsL La x (bs.map PyData.bool)) : EX B (tCB (rAny B.K) (tCons te tNil)) ε L (.d (.bool (bs.any id))) La := fun F σ H r Q q =>
  h F σ H r _ fun v F1 H1 s1 r1 o1 => by
    obtain ⟨p, vs, rfl, g1, g2⟩ := hx.get r1 o1
    rw [dpa_bool_inv g2] at g1
    exact ⟨p, bs, rfl, g1, q _ F1 H1 s1 r1 (.bl _)⟩
/-! ### lists that change -/
theorem lst_ne {p a : Addr} {o : HO} {H : Hp} {o' : HO} (hq : a ∉ [p]) (e : H a = some o) : upd H p o' a = some o := by
  rw [upd_ne (fun z => hq (by rw [z]; exact List.mem_cons_self))]; exact e
theorem Rep.setL {F : Hp} {σ : St} {H : Hp} (r : Rep B ε L F σ H) {k : Nat} {p : Addr} {ds ds' : List PyData} {vs : List V} (hk : L[k]? = some (.lst p ds)) (h : DqAll B.K F vs ds') : Rep B ε (L.set k (.lst p ds')) F σ (upd H p (.lst vs)) :=
  r.chg (m' := .lst p ds') hk rfl ⟨vs, upd_same, h⟩ fun a o hq e => lst_ne hq e
theorem tyv {K : PySem.W.Frag} {H : Hp} {p : Addr} {vs : List V} (h : H p = some (.lst vs)) : tyV K "list" (.ref p) H := Or.inl ⟨rfl, _, Or.inl (Or.inl h)⟩
/-- xs.append(e) as a statement -/
theorem x_app {k : Nat} {p : Addr} {ds : List PyData} {d : PyData} (ho : EX B to ε L (.v (.ref p)) La) (h : EX B te ε La (.d d) Lb) (hk : Lb[k]? = some (.lst p ds)) (hka : ∃ (j : Nat) (ds' : List PyData), La[j]? = some (.lst p ds')) (hz : ds.length < 100000)
    (q : Ho B D.nx ε (Lb.set k (.lst p (ds ++ [d])))) : Ho B (tDrop (tBM B.K "list" rAppend to (tCons te tNil)) D) ε L := fun F σ H r =>
  ho F σ H r _ fun v F1 H1 s1 r1 o1 => by
    have ev : v = .ref p := o1
    subst ev
    obtain ⟨j, ds', hj⟩ := hka
    obtain ⟨us, u1, _⟩ := r1.own _ (List.mem_of_getElem? hj)
    refine ⟨tyv u1, h F1 σ H1 r1 _ fun w F2 H2 s2 r2 o2 => ?_⟩
    obtain ⟨vs, g1, g2⟩ := r2.own _ (List.mem_of_getElem? hk)
    exact ⟨p, vs, w, rfl, rfl, g1, by rw [dpa_len g2]; exact Evl.sz_lt hz, q F2 σ _ (r2.setL hk (dpa_app g2 (.cons o2 .nil)))⟩
/-- xs.insert(i, e) as a statement -/
def rInsert : V → List V → Hp → VK → Prop := fun x vs H Q => ∃ (l : Addr) (xs : List V) (i : Int) (y : V), x = .ref l ∧ vs = [.int i, y] ∧ H l = some (.lst xs) ∧ xs.length < sizeLine ∧ 0 ≤ i ∧ i < 2 ^ 63 ∧
    Q .non (upd H l (.lst (xs.take i.toNat ++ [y] ++ xs.drop i.toNat)))
theorem x_ins {k : Nat} {p : Addr} {ds : List PyData} {d : PyData} {i : Int} (ho : EX B to ε L (.v (.ref p)) La) (hi : EX B ti ε La (.d (.int i)) Lb) (h : EX B te ε Lb (.d d) Lc) (hk : Lc[k]? = some (.lst p ds)) (hka : ∃ (j : Nat) (ds' : List PyData), La[j]? = some (.lst p ds')) (hz : ds.length < 100000) (hr : 0 ≤ i ∧ i < 2 ^ 63)
    (q : Ho B D.nx ε (Lc.set k (.lst p (ds.take i.toNat ++ [d] ++ ds.drop i.toNat)))) : Ho B (tDrop (tBM B.K "list" rInsert to (tCons ti (tCons te tNil))) D) ε L := fun F σ H r =>
  ho F σ H r _ fun v F1 H1 s1 r1 o1 => by
    have ev : v = .ref p := o1
    subst ev
    obtain ⟨j, ds', hj⟩ := hka
    obtain ⟨us, u1, _⟩ := r1.own _ (List.mem_of_getElem? hj)
    refine ⟨tyv u1, hi F1 σ H1 r1 _ fun w F2 H2 s2 r2 o2 => h F2 σ H2 r2 _ fun y F3 H3 s3 r3 o3 => ?_⟩
    have ew : w = .int i := int_inv o2
    subst ew
    obtain ⟨vs, g1, g2⟩ := r3.own _ (List.mem_of_getElem? hk)
    exact ⟨p, vs, i, y, rfl, rfl, g1, by rw [dpa_len g2]; exact Evl.sz_lt hz, hr.1, hr.2, q F3 σ _ (r3.setL hk (dpa_app (dpa_app (dpa_take _ g2) (.cons o3 .nil)) (dpa_drop _ g2)))⟩
/-- xs.pop() -/
theorem ex_pop {k : Nat} {p : Addr} {ds : List PyData} {d : PyData} (ho : EX B to ε L (.v (.ref p)) La) (hk : La[k]? = some (.lst p ds)) (hd : ds[ds.length - 1]? = some d) : EX B (tBM0 B.K "list" rPop to) ε L (.d d) (La.set k (.lst p ds.dropLast)) := fun F σ H r Q q =>
  ho F σ H r _ fun v F1 H1 s1 r1 o1 => by
    have ev : v = .ref p := o1
    subst ev
    obtain ⟨vs, g1, g2⟩ := r1.own _ (List.mem_of_getElem? hk)
    obtain ⟨u, e1, e2⟩ := dpa_get g2 hd
    exact ⟨tyv g1, p, vs, u, rfl, rfl, g1, by rw [dpa_len g2]; exact e1, q u F1 _ s1 (r1.setL hk (dpa_last g2)) e2⟩
/-- xs.pop(i) -/
theorem ex_popAt {k j : Nat} {p : Addr} {ds : List PyData} {d : PyData} {i : Int} (ho : EX B to ε L (.v (.ref p)) La) (hi : EX B ti ε La (.d (.int i)) Lb) (hka : ∃ (j : Nat) (ds' : List PyData), La[j]? = some (.lst p ds')) (hk : Lb[k]? = some (.lst p ds)) (hr : -(2 ^ 63) ≤ i ∧ i < 2 ^ 63) (hj : seqIndex? i ds.length = some j) (hd : ds[j]? = some d) :
    EX B (tBM B.K "list" rPopAt to (tCons ti tNil)) ε L (.d d) (Lb.set k (.lst p (ds.eraseIdx j))) := fun F σ H r Q q =>
  ho F σ H r _ fun v F1 H1 s1 r1 o1 => by
    have ev : v = .ref p := o1
    subst ev
    obtain ⟨j', ds', hj'⟩ := hka
    obtain ⟨us, u1, _⟩ := r1.own _ (List.mem_of_getElem? hj')
    refine ⟨tyv u1, hi F1 σ H1 r1 _ fun w F2 H2 s2 r2 o2 => ?_⟩
    have ew : w = .int i := int_inv o2
    subst ew
    obtain ⟨vs, g1, g2⟩ := r2.own _ (List.mem_of_getElem? hk)
    obtain ⟨u, e1, e2⟩ := dpa_get g2 hd
    exact ⟨p, vs, i, j, u, rfl, rfl, g1, hr.1, hr.2, by rw [dpa_len g2]; exact hj, e1, q u F2 _ (s1.tr s2) (r2.setL hk (dpa_erase j g2)) e2⟩
/-- xs[i] = e -/
theorem x_setIx {k j : Nat} {p : Addr} {ds : List PyData} {d : PyData} {i : Int} (h : EX B te ε L (.d d) La) (ho : EX B to ε La (.v (.ref p)) Lb) (hi : EX B ti ε Lb (.d (.int i)) Lc) (hk : Lc[k]? = some (.lst p ds)) (hj : ixN ds.length i = some j)
    (q : Ho B D.nx ε (Lc.set k (.lst p (ds.set j d)))) : Ho B (tAsg te (gSub to ti rSetL) D) ε L := fun F σ H r =>
  h F σ H r _ fun y F1 H1 s1 r1 o1 => ho F1 σ H1 r1 _ fun v F2 H2 s2 r2 o2 => hi F2 σ H2 r2 _ fun w F3 H3 s3 r3 o3 => by
    have ev : v = .ref p := o2
    have ew : w = .int i := int_inv o3
    subst ev ew
    obtain ⟨vs, g1, g2⟩ := r3.own _ (List.mem_of_getElem? hk)
    exact ⟨p, vs, i, j, rfl, rfl, g1, by rw [dpa_len g2]; exact hj, q F3 σ _ (r3.setL hk (dpa_set (o1.sub (s2.tr s3)) j g2))⟩
/-! ### the bag -/
section
variable {k : Nat} {pb pc : Addr} {c : List Int} {u m : Int}
theorem Rep.bagL {F : Hp} {σ : St} {H : Hp} (r : Rep B ε L F σ H) (hk : L[k]? = some (.bag pb pc c u m)) : SqL B.K H pb [.ref pc, .int u, .int m] ∧ SqL B.K H pc (c.map V.int) :=
  let h := r.own _ (List.mem_of_getElem? hk)
  ⟨.inl (.inl h.1), .inl (.inl h.2)⟩
theorem Rep.bagNe {F : Hp} {σ : St} {H : Hp} (r : Rep B ε L F σ H) (hk : L[k]? = some (.bag pb pc c u m)) : pb ≠ pc := fun e => by
  have h := r.own _ (List.mem_of_getElem? hk)
  have h1 : H pb = some (.lst [.ref pc, .int u, .int m]) := h.1
  have h2 : H pc = some (.lst (c.map V.int)) := h.2
  rw [← e, h1] at h2
  cases c with
  | nil => cases h2
  | cons a t => cases h2
theorem ex_bag0 (ho : EX B to ε L (.v (.ref pb)) La) (hi : EX B ti ε La (.d (.int 0)) Lb) (hk : Lb[k]? = some (.bag pb pc c u m)) : EX B (tOp (rIxL B.K) to ti) ε L (.v (.ref pc)) Lb := ex_op ho hi fun F σ H v w rp hv hw Q q =>
  ⟨pb, _, 0, .ref pc, hv, int_inv hw, (rp.bagL hk).1, rfl, q _ F H (Sub.rfl' F) rp rfl⟩
theorem ex_bag1 (ho : EX B to ε L (.v (.ref pb)) La) (hi : EX B ti ε La (.d (.int 1)) Lb) (hk : Lb[k]? = some (.bag pb pc c u m)) : EX B (tOp (rIxL B.K) to ti) ε L (.d (.int u)) Lb := ex_op ho hi fun F σ H v w rp hv hw Q q =>
  ⟨pb, _, 1, .int u, hv, int_inv hw, (rp.bagL hk).1, rfl, q _ F H (Sub.rfl' F) rp (.int _)⟩
theorem ex_bag2 (ho : EX B to ε L (.v (.ref pb)) La) (hi : EX B ti ε La (.d (.int 2)) Lb) (hk : Lb[k]? = some (.bag pb pc c u m)) : EX B (tOp (rIxL B.K) to ti) ε L (.d (.int m)) Lb := ex_op ho hi fun F σ H v w rp hv hw Q q =>
  ⟨pb, _, 2, .int m, hv, int_inv hw, (rp.bagL hk).1, rfl, q _ F H (Sub.rfl' F) rp (.int _)⟩
theorem Rep.bagSet {F : Hp} {σ : St} {H : Hp} (r : Rep B ε L F σ H) (hk : L[k]? = some (.bag pb pc c u m)) (u' m' : Int) : Rep B ε (L.set k (.bag pb pc c u' m')) F σ (upd H pb (.lst [.ref pc, .int u', .int m'])) :=
  r.chg (m' := .bag pb pc c u' m') hk rfl ⟨upd_same, by rw [upd_ne (r.bagNe hk).symm]; exact (r.own _ (List.mem_of_getElem? hk)).2⟩ fun a o hq e => by
    rw [upd_ne (fun z => hq (by rw [z]; exact List.mem_cons_self))]; exact e
theorem x_bag1 {z : Int} (h : EX B te ε L (.d (.int z)) La) (ho : EX B to ε La (.v (.ref pb)) Lb) (hi : EX B ti ε Lb (.d (.int 1)) Lc) (hk : Lc[k]? = some (.bag pb pc c u m))
    (q : Ho B D.nx ε (Lc.set k (.bag pb pc c z m))) : Ho B (tAsg te (gSub to ti rSetL) D) ε L := fun F σ H r =>
  h F σ H r _ fun y F1 H1 s1 r1 o1 => ho F1 σ H1 r1 _ fun v F2 H2 s2 r2 o2 => hi F2 σ H2 r2 _ fun w F3 H3 s3 r3 o3 => by
    have ev : v = .ref pb := o2
    have ey : y = .int z := int_inv o1
    subst ev ey
    exact ⟨pb, [.ref pc, .int u, .int m], 1, 1, rfl, int_inv o3, (r3.own _ (List.mem_of_getElem? hk)).1, rfl, q F3 σ _ (r3.bagSet hk z m)⟩
theorem x_bag2 {z : Int} (h : EX B te ε L (.d (.int z)) La) (ho : EX B to ε La (.v (.ref pb)) Lb) (hi : EX B ti ε Lb (.d (.int 2)) Lc) (hk : Lc[k]? = some (.bag pb pc c u m))
    (q : Ho B D.nx ε (Lc.set k (.bag pb pc c u z))) : Ho B (tAsg te (gSub to ti rSetL) D) ε L := fun F σ H r =>
  h F σ H r _ fun y F1 H1 s1 r1 o1 => ho F1 σ H1 r1 _ fun v F2 H2 s2 r2 o2 => hi F2 σ H2 r2 _ fun w F3 H3 s3 r3 o3 => by
    have ev : v = .ref pb := o2
    have ey : y = .int z := int_inv o1
    subst ev ey
    exact ⟨pb, [.ref pc, .int u, .int m], 2, 2, rfl, int_inv o3, (r3.own _ (List.mem_of_getElem? hk)).1, rfl, q F3 σ _ (r3.bagSet hk u z)⟩
theorem ex_popBag {z : Int} (ho : EX B to ε L (.v (.ref pc)) La) (hk : La[k]? = some (.bag pb pc c u m)) (hd : c[c.length - 1]? = some z) : EX B (tBM0 B.K "list" rPop to) ε L (.d (.int z)) (La.set k (.bag pb pc c.dropLast u m)) := fun F σ H r Q q =>
  ho F σ H r _ fun v F1 H1 s1 r1 o1 => by
    have ev : v = .ref pc := o1
    subst ev
    have hb := r1.own _ (List.mem_of_getElem? hk)
    have hc : H1 pc = some (.lst (c.map V.int)) := hb.2
    refine ⟨tyv hc, pc, _, .int z, rfl, rfl, hc, by rw [List.length_map, List.getElem?_map, hd]; rfl, q _ F1 _ s1 ?_ (.int _)⟩
    refine r1.chg (m' := .bag pb pc c.dropLast u m) hk rfl ⟨by rw [upd_ne (r1.bagNe hk)]; exact hb.1, by rw [upd_same, List.map_dropLast]⟩ fun a o hq e => by
      rw [upd_ne (fun z => hq (by rw [z]; exact List.mem_cons_of_mem _ List.mem_cons_self))]; exact e
theorem depth_ints : ∀ l : List Int, PyData.depthAll (l.map PyData.int) = 0
  | [] => rfl
  | a :: l => by
    show max 0 (PyData.depthAll (l.map PyData.int)) = 0
    rw [depth_ints l]; rfl
theorem lay_ints : ∀ l : List Int, PyData.canLayAll0 (l.map PyData.int) = true
  | [] => rfl
  | a :: l => by
    show (true && PyData.canLayAll0 (l.map PyData.int)) = true
    rw [lay_ints l]; rfl
theorem shaped_ints (l : List Int) : SeqAt.shaped (.list (l.map PyData.int)) = true := by
  unfold SeqAt.shaped
  show (PyData.canLayAll0 (l.map PyData.int) && decide (PyData.depthAll (l.map PyData.int) + 1 ≤ 64)) = true
  rw [lay_ints, depth_ints]; rfl
/-- bag[0] != [] -/
theorem ex_bagFull (ho : EX B to ε L (.v (.ref pc)) La) (hk : La[k]? = some (.bag pb pc c u m)) : EX B (tOp (rNeD B.K) to (tLst tNil)) ε L (.d (.bool (!c.isEmpty))) La := fun F σ H r Q q =>
  ho F σ H r _ fun v F1 H1 s1 r1 o1 => ⟨Nat.zero_le _, fun p hp => by
    have ev : v = .ref pc := o1
    subst ev
    have hb := r1.own _ (List.mem_of_getElem? hk)
    have hc : H1 pc = some (.lst (c.map V.int)) := hb.2
    have ne : pc ≠ p := fun e => by rw [e, hp] at hc; cases hc
    have ee : (!PyData.eqv (.list (c.map PyData.int)) (.list [])) = !c.isEmpty := by cases c <;> rfl
    refine ⟨.list (c.map PyData.int), .list [], dq_dp (nodict_shaped (shaped_ints c)) (.lst (by rw [upd_ne ne]; exact hc) (dpa_ints c)), dq_dp rfl (.lst upd_same .nil), shaped_ints c, rfl, ?_⟩
    rw [ee]
    exact q _ F1 _ s1 (r1.heap (sub_fresh hp)) (.bl _)⟩
end
end
end Fz

/-! ## FzD -/
set_option Elab.async false
set_option linter.all false
set_option maxRecDepth 100000
set_option maxHeartbeats 2000000
set_option autoImplicit false
/-! FzD: defs ready to be called; repr of data; // of very great ints. -/
namespace Fz
open PySem L2

/-- a def of the module, ready to be called -/
structure Df (P : Program) (w : World) (K : PySem.W.Frag) (mg : Str → Option Value) (base : Heap) (k : Nat) (x : Str) (ps : List Str) (sp : Sp) : Prop where
  ex : ∃ f fd, FnOk P w K mg base CX0 k f fd ps sp ∧ mg x = some (.ref f) ∧ PySem.W.keepIn K (.ref f) = true ∧ Binds K fd ps []
/-- the same, called with keywords -/
structure DfK (P : Program) (w : World) (K : PySem.W.Frag) (mg : Str → Option Value) (base : Heap) (k : Nat) (x : Str) (ps ks : List Str) (g : List Value → List Value → List Value) (gV : List V → List V → List V) (sp : Sp) : Prop where
  ex : ∃ f fd, FnOk P w K mg base CX0 k f fd ps sp ∧ mg x = some (.ref f) ∧ PySem.W.keepIn K (.ref f) = true ∧ KBinds K fd ps ks g gV
theorem Df.mk' {P : Program} {w : World} {K : PySem.W.Frag} {mg : Str → Option Value} {base : Heap} {k : Nat} {x : Str} {ps : List Str} {sp : Sp} {f : Addr} {fd : FuncData} (F : FnOk P w K mg base CX0 k f fd ps sp) (m : mg x = some (.ref f)) (kp : PySem.W.keepIn K (.ref f) = true) (b : Binds K fd ps []) : Df P w K mg base k x ps sp := ⟨f, fd, F, m, kp, b⟩
section
variable {X : Cx} {k : Nat} {x : Str} {ps ks : List Str} {sp : Sp} {p pos : Pos} {e : Expr} {es : List Expr} {kws : List Keyword} {t tk : TA} {g : List Value → List Value → List Value} {gV : List V → List V → List V}
theorem pe_callD (C : Df X.prog X.w X.K X.mg X.base k x ps sp) (hr : Room k X.A) (hg : Gl X x) (ha : PA X (e :: es) t) (hdb : (x == ("__debug__" : Str)) = false := by decide)
    (he : starEach (e :: es) X.env = (false, eval e X.env) :: starEach es X.env := by rfl) (hpl : (backTo pos (starEach es X.env)).any (·.1) = false := by rfl) : PE X (.Call (.Name x p) (e :: es) [] pos) (tCall sp [] E0 t) := by
  obtain ⟨f, fd, F, m, kp, b⟩ := C.ex
  exact pe_call F hr hg m kp b .nil pass0 ha hdb he hpl
theorem pe_callKD (C : DfK X.prog X.w X.K X.mg X.base k x ps ks g gV sp) (hr : Room k X.A) (hg : Gl X x) (hkw : PK X kws tk) (hall : (backToKw pos (keywordEach kws X.env)).all (·.1.isSome) = true := by rfl)
    (hks : (backToKw pos (keywordEach kws X.env)).filterMap (·.1) = ks := by rfl) (hdb : (x == ("__debug__" : Str)) = false := by decide)
    (hpl : ((backTo pos (starEach [] X.env)).any (·.1) || (backToKw pos (keywordEach kws X.env)).any (·.1.isNone)) = false := by rfl) : PE X (.Call (.Name x p) [] kws pos) (tCallK sp gV E0 tNil tk) := by
  obtain ⟨f, fd, F, m, kp, b⟩ := C.ex
  refine ⟨fun pins s σ H Q I h => ?_⟩
  refine wpAny_Call_Name_kw (ld_glob I hg m ?_ hdb)
  refine PySem.W.callWith_KW0 (h₀ := X.base) I.ok.mod.kin kp hall (thn (hkw.run pos pins s σ H _ I h) fun ws s2 ⟨zs, H2, I2, rz, q2⟩ => ⟨I2.kIn, ?_⟩) hpl
  rw [hks]
  exact run_fnk F hr b pass0 I2 .nil rz q2
end
/-- keywords alone: idx tells where each parameter's value stands among them -/
def kwG {α : Type} (n : Nat) (idx : List Nat) (us ws : List α) : List α := if us.isEmpty && ws.length == n then idx.filterMap (fun i => ws[i]?) else []
theorem kwG_vals {n : Nat} {idx : List Nat} {vs : List V} {us : List Value} {zs : List V} {ws : List Value} (r : Vals vs us) (q : Vals zs ws) : Vals (kwG n idx vs zs) (kwG n idx us ws) := by
  unfold kwG
  have e1 : vs.isEmpty = us.isEmpty := by cases r <;> rfl
  rw [e1, q.length]
  split
  · clear e1
    induction idx with
    | nil => exact .nil
    | cons i idx ih =>
      rw [List.filterMap_cons, List.filterMap_cons]
      cases e : zs[i]? with
      | none => rw [q.none_of e]; exact ih
      | some z =>
        obtain ⟨u, h1, h2⟩ := q.get e
        rw [h1]
        exact .cons h2 ih
  · exact .nil
theorem kwG_shape {α : Type} {n m : Nat} {idx : List Nat} {us ws : List α} (h : (kwG n idx us ws).length = m + 1) : us = [] ∧ ws.length = n := by
  unfold kwG at h
  split at h
  · rename_i c
    rw [Bool.and_eq_true] at c
    exact ⟨List.isEmpty_iff.mp c.1, beq_iff_eq.mp c.2⟩
  · cases h
/-- two parameters, by names -/
theorem kb2 {K : PySem.W.Frag} {fd : FuncData} {ps ks : List Str} {idx : List Nat} (hp : ps.length = 2) (h : ∀ a b : Value, bindArgs fd ⟨[], ks.zip [a, b]⟩ = pure (ps.zip (kwG 2 idx [] [a, b]))) : KBinds K fd ps ks (kwG 2 idx) (kwG 2 idx) :=
  ⟨fun s us ws _ hl => by
    obtain ⟨rfl, hw⟩ := kwG_shape (m := 1) (hl.trans hp)
    match ws, hw with
    | [a, b], _ => exact .of_eq (h a b), fun r q => kwG_vals r q⟩
theorem kb3 {K : PySem.W.Frag} {fd : FuncData} {ps ks : List Str} {idx : List Nat} (hp : ps.length = 3) (h : ∀ a b c : Value, bindArgs fd ⟨[], ks.zip [a, b, c]⟩ = pure (ps.zip (kwG 3 idx [] [a, b, c]))) : KBinds K fd ps ks (kwG 3 idx) (kwG 3 idx) :=
  ⟨fun s us ws _ hl => by
    obtain ⟨rfl, hw⟩ := kwG_shape (m := 2) (hl.trans hp)
    match ws, hw with
    | [a, b, c], _ => exact .of_eq (h a b c), fun r q => kwG_vals r q⟩

/-! ### // by a positive int of any size -/
section
variable {X : Cx} {k : Nat}
theorem op_fdivP (hr : Room k X.A) (hN : X.base.NoSeer ∧ X.prog.given.tree = none) (hk : 40 ≤ k := by decide) (hst : X.stack = X.env :: X.outer := by rfl) (hgen : X.env.scope.isGenerator = false := by rfl) (hco : X.env.scope.isCoroutine = false := by rfl)
    (hb : X.env.builtins = builtinsNs := by rfl) (hg : X.env.globals = mainGlobals := by rfl) : OpR X (binaryOp .FloorDiv) (rI (fun _ j => 0 < j) fun i j => .int (i / j)) := by
  intro pins s σ H x y v u Q I rx ry h
  obtain ⟨i, j, rfl, rfl, hc, q⟩ := h
  obtain ⟨t, rfl⟩ := rx
  obtain ⟨t', rfl⟩ := ry
  have hd : X.A.depth + Builtin.pylongFrames < recursionLimit := by
    have := hr.dp
    show X.A.depth + 100 < _
    omega
  have hsr : SeerAt (model X.prog X.w) X.A s.heap := SeerAt.of (hN.1.keeps I.bk) hN.2 (by rw [I.ok.frames, hst]) hgen hco hb hg
  refine PyProof.Rows.floordiv_int (by omega) ?_ (.inr (PylongRoom.of I.nolimit hd hsr))
  rw [Int.fdiv_eq_ediv_of_nonneg i (by omega)]
  exact ⟨.int (i / j), H, I.tok _, ⟨_, rfl⟩, q⟩
end
section
variable {B : Bg} {ε : Eps} {L La Lb : Own} {ta tb : TE} {i j : Int}
theorem ex_fdivP (ha : EX B ta ε L (.d (.int i)) La) (hb : EX B tb ε La (.d (.int j)) Lb) (hc : 0 < j) : EX B (tOp (rI (fun _ j => 0 < j) fun i j => .int (i / j)) ta tb) ε L (.d (.int (i / j))) Lb := ex_op ha hb (rx_I hc fun _ _ => .int _)
end

/-! ### where nothing is under way: repr -/
structure GOk (P : Program) (w : World) (K : PySem.W.Frag) (mg : Str → Option Value) (base : Heap) (k : Nat) (f : Addr) (fd : FuncData) (ps : List Str) (sp : Sp) : Prop where
  len : ∀ vs H Q E, sp vs H Q E → vs.length = ps.length
  run : ∀ (A : Around) (outer : List Env) (s : Shared) (H : Hp) (args : Args) (us : List Value) (vs : List V) (Q : VK), Room k A → A.guards = some [] → Env0 P w K mg base A outer s H → BindsTo s fd args (ps.zip us) → Vals vs us → sp vs H Q E0 →
    codeAny (model P w) A (.call (.ref f) args) (CR CX0 outer P w H s Q E0) s
structure GDf (P : Program) (w : World) (K : PySem.W.Frag) (mg : Str → Option Value) (base : Heap) (k : Nat) (x : Str) (ps : List Str) (sp : Sp) : Prop where
  ex : ∃ f fd, GOk P w K mg base k f fd ps sp ∧ mg x = some (.ref f) ∧ PySem.W.keepIn K (.ref f) = true ∧ Binds K fd ps []
theorem GDf.mk' {P : Program} {w : World} {K : PySem.W.Frag} {mg : Str → Option Value} {base : Heap} {k : Nat} {x : Str} {ps : List Str} {sp : Sp} {f : Addr} {fd : FuncData} (F : GOk P w K mg base k f fd ps sp) (m : mg x = some (.ref f)) (kp : PySem.W.keepIn K (.ref f) = true) (b : Binds K fd ps []) : GDf P w K mg base k x ps sp := ⟨f, fd, F, m, kp, b⟩
section
variable {X : Cx} {k : Nat} {x : Str} {ps : List Str} {sp : Sp} {p pos : Pos} {e : Expr} {es : List Expr} {t : TA}
theorem pe_callG (hG : X.A.guards = some []) (C : GDf X.prog X.w X.K X.mg X.base k x ps sp) (hr : Room k X.A) (hg : Gl X x) (ha : PA X (e :: es) t) (hdb : (x == ("__debug__" : Str)) = false := by decide)
    (he : starEach (e :: es) X.env = (false, eval e X.env) :: starEach es X.env := by rfl) (hpl : (backTo pos (starEach es X.env)).any (·.1) = false := by rfl) : PE X (.Call (.Name x p) (e :: es) [] pos) (tCall sp [] E0 t) := by
  obtain ⟨f, fd, F, m, kp, b⟩ := C.ex
  refine ⟨fun pins s σ H Q I h => ?_⟩
  refine wpAny_Call_Name_kw (ld_glob I hg m ?_ hdb)
  refine PySem.W.callWith_K (h₀ := X.base) I.ok.mod.kin kp (thn (ha.run pos pins s σ H _ I h) fun us s1 ⟨vs, H1, I1, rv, q⟩ => ⟨I1.kIn, ?_⟩) he hpl
  have q : sp (vs ++ []) H1 Q E0 := q
  rw [List.append_nil] at q
  have hlen : us.length = ps.length := by rw [← rv.length]; exact F.len _ _ _ _ q
  have bt : BindsTo s1 fd ⟨us, []⟩ (ps.zip us) := by
    have z := b s1 us I1.kIn (by rw [List.append_nil]; exact hlen)
    rw [List.append_nil] at z
    exact z
  refine wpAny_call (codeAny_mono (F.run X.A X.stack s1 H1 ⟨us, []⟩ us vs Q hr hG I1.env0 bt rv q) fun res s' hres => ?_)
  match res, hres with
  | .error e, hq => exact False.elim hq
  | .ok (.ret u), hq => exact I1.after hq
  | .ok .next, hq => exact False.elim hq
  | .ok .brk, hq => exact False.elim hq
  | .ok .cont, hq => exact False.elim hq
mutual
/-- no list within -/
def noLst : PyData → Bool
  | .list _ => false
  | .tuple ds => noLsts ds
  | _ => true
def noLsts : List PyData → Bool
  | [] => true
  | d :: ds => noLst d && noLsts ds
end
section
variable {pins : List (Addr × Obj)} {σ : St} {H : Hp} {s : Shared}
theorem sim_reads {h : Heap} {v : V} {u : Value} {d : PyData} (hs : simV v = some d) (r : RelV v u) : Reads h u d [] := by
  cases v with
  | non => cases hs; cases r; exact .none
  | bl b => cases hs; cases r; exact .bool b
  | int i => cases hs; obtain ⟨t, rfl⟩ := r; exact .int i t
  | str x => cases hs; obtain ⟨t, rfl⟩ := r; exact .str x t
  | _ => cases hs
theorem key_reads {h : Heap} {k : Key} {u : Value} (hk : keyIs k u = true) : Reads h u (keyD k) [] := by
  rcases keyIs_shape hk with ⟨i, t, rfl, rfl⟩ | ⟨x, t, rfl, rfl⟩
  · exact .int i t
  · exact .str x t
theorem kvs_reads {h : Heap} {P : Program} {w : World} : ∀ {es : List DictEntry} {ws : List (Key × Value)} {kvs : List (Key × V)} {ps : List (PyData × PyData)}, Pairs (mixKind P w) es ws → KV kvs ws → KvD kvs ps →
    ReadsAll h (es.map (·.key)) (ps.map (·.1)) [] ∧ ReadsAll h (es.map (·.val)) (ps.map (·.2)) []
  | _, _, _, ps, .nil, kv, kd => by
    cases kv
    cases ps with
    | nil => exact ⟨.nil, .nil⟩
    | cons p ps => cases kd
  | _, _, _, ps, .cons hk hv t, kv, kd => by
    cases kv with
    | cons q kv =>
      cases ps with
      | nil => cases kd
      | cons p ps =>
        unfold KvD at kd
        rw [List.map_cons, List.map_cons] at kd
        injection kd with k1 k2
        injection k1 with e1 e2
        obtain ⟨i1, i2⟩ := kvs_reads t kv k2
        obtain ⟨q1, q2⟩ := q
        refine ⟨ReadsAll.cons (as := []) (bs := []) ?_ i1, ReadsAll.cons (as := []) (bs := []) ?_ i2⟩
        · show Reads h _ p.1 []
          rw [← e1, q1]; exact key_reads hk
        · show Reads h (DictEntry.val _) _ []
          rw [hv]; exact sim_reads e2 q2
mutual
theorem dq_reads (I : Inv X pins σ H s) : ∀ {d : PyData} {v : V} {u : Value}, Dq X.K H v d → RelV v u → ∃ as, Reads s.heap u d as ∧ (noLst d = true → sysModules ∉ as)
  | .none, _, _, h, r => by
    cases h
    cases r
    exact ⟨_, .none, fun _ z => nomatch z⟩
  | .bool b, _, _, h, r => by
    cases h
    cases r
    exact ⟨_, .bool b, fun _ z => nomatch z⟩
  | .int i, _, _, h, r => by
    cases h
    obtain ⟨t, rfl⟩ := r
    exact ⟨_, .int i t, fun _ z => nomatch z⟩
  | .str x, _, _, h, r => by
    cases h
    obtain ⟨t, rfl⟩ := r
    exact ⟨_, .str x t, fun _ z => nomatch z⟩
  | .list ds, _, _, h, r => by
    cases h with
    | lst hs ha =>
      cases r
      obtain ⟨its, rv, ⟨o, n, ho, hc, _, hd⟩, _⟩ := I.list (.inl (.inl hs))
      obtain ⟨as, hr, _⟩ := dq_readsAll I ha rv
      exact ⟨_, .list ho hc hd hr, fun z => nomatch z⟩
  | .tuple ds, _, _, h, r => by
    cases h with
    | tup hs ha =>
      cases r
      obtain ⟨its, rv, ⟨o, ho, hc, n, hd⟩, _⟩ := I.tuple (.inl (.inl hs))
      obtain ⟨as, hr, hn⟩ := dq_readsAll I ha rv
      exact ⟨_, .tuple ho hc hd hr, hn⟩
  | .dict _, _, _, h, r => by
    cases h with
    | dic ha hk =>
      cases r
      obtain ⟨_, hne, ws, kv, o, es, ep, ho, hx, hd, _, hp, _⟩ := dk_of I.hok ha
      obtain ⟨r1, r2⟩ := kvs_reads (h := s.heap) hp kv hk
      refine ⟨_, .dict ho hx.1 hd r1 r2, fun _ z => ?_⟩
      rw [List.append_nil] at z
      exact (beq_eq_false_iff_ne.mp hne) (List.mem_singleton.mp z).symm
theorem dq_readsAll (I : Inv X pins σ H s) : ∀ {ds : List PyData} {vs : List V} {us : List Value}, DqAll X.K H vs ds → Vals vs us → ∃ as, ReadsAll s.heap us ds as ∧ (noLsts ds = true → sysModules ∉ as)
  | [], _, _, h, r => by
    cases h
    cases r
    exact ⟨_, .nil, fun _ z => nomatch z⟩
  | d :: ds, _, _, h, r => by
    cases h with
    | cons h1 h2 =>
      cases r with
      | cons r1 r2 =>
        obtain ⟨as, q1, n1⟩ := dq_reads I h1 r1
        obtain ⟨bs, q2, n2⟩ := dq_readsAll I h2 r2
        refine ⟨_, .cons q1 q2, fun z m => ?_⟩
        have z : (noLst d && noLsts ds) = true := z
        rw [Bool.and_eq_true] at z
        rcases List.mem_append.mp m with m | m
        · exact n1 z.1 m
        · exact n2 z.2 m
end
end
/-- what repr can show: no dict beside a list -/
def repOk (d : PyData) : Bool := !d.hasDict || noLst d
def rReprD (K : PySem.W.Frag) : List V → Hp → VK → Prop := fun xs H Q => ∃ v d, xs = [v] ∧ Dq K H v d ∧ d.showable = true ∧ repOk d = true ∧ d.depth ≤ 64 ∧ d.shown.length ≤ sizeLine ∧ Q (.str d.shown) H
theorem call_reprD (hr : Room k X.A) (hG : X.A.guards = some []) : CallR X (.builtin "repr") (rReprD X.K) := by
  intro pins s σ H xs us Q I r h
  obtain ⟨v, d, rfl, hd, h1, h2, h3, h4, q⟩ := h
  obtain ⟨u, rfl, ru⟩ := vals1 r
  have fin : ∀ h' (z : Tok) (tk : Nat), (∀ b o, s.heap.get? b = some o → h'.get? b = some o) → EP X pins σ Q (.str d.shown z) { s with heap := h', toks := tk } := fun h' z tk hk =>
    ⟨.str d.shown, H, I.kept hk, ⟨z, rfl⟩, q⟩
  have big : ∀ a, u = .ref a → wpAny (model X.prog X.w) X.A (call (.builtin "repr") [u]) (EP X pins σ Q) X.xe s := fun a e => by
    subst e
    obtain ⟨as, rd, hn⟩ := dq_reads I hd ru
    refine repr_of_reads' rd h1 (fun hdd => hn ?_) hG (by have := hr.units; have := hr.un; omega) (fun _ _ e => e) (fun h' z tk hk => fin h' z tk hk) h4
    unfold repOk at h2
    rw [hdd] at h2
    exact h2
  cases hd with
  | non => cases ru; exact PySem.P.repr_of_none (fin s.heap _ _ fun _ _ e => e)
  | bl b => cases ru; exact PySem.P.repr_of_bool (fin s.heap _ _ fun _ _ e => e)
  | int i => obtain ⟨t, rfl⟩ := ru; exact PySem.P.repr_of_int (by simpa [PyData.showable] using h1) (fin s.heap _ _ fun _ _ e => e)
  | str z => obtain ⟨t, rfl⟩ := ru; exact PySem.P.repr_of_str (fin s.heap _ _ fun _ _ e => e) h4
  | @lst a _ _ _ _ => exact big a ru
  | @tup a _ _ _ _ => exact big a ru
  | @dic a _ _ _ _ => exact big a ru
end
section
variable {B : Bg} {ε : Eps} {L La : Own} {te : TE}
theorem ex_reprO {d : PyData} (h : EX B te ε L (.d d) La) (h1 : d.showable = true) (h2 : repOk d = true) (h3 : d.depth ≤ 64) (h4 : d.shown.length ≤ sizeLine) : EX B (tCB (rReprD B.K) (tCons te tNil)) ε L (.d (.str d.shown)) La := fun F σ H r Q q =>
  h F σ H r _ fun v F1 H1 s1 r1 o1 => ⟨v, d, rfl, dp_sub r1.sub o1, h1, h2, h3, h4, q _ F1 H1 s1 r1 (.str _)⟩
theorem ex_repr {d : PyData} (h : EX B te ε L (.d d) La) (h1 : d.showable = true) (h2 : d.hasDict = false) (h3 : d.depth ≤ 64) (h4 : d.shown.length ≤ sizeLine) : EX B (tCB (rReprD B.K) (tCons te tNil)) ε L (.d (.str d.shown)) La :=
  ex_reprO h h1 (by unfold repOk; rw [h2]; rfl) h3 h4
end

/-! ### the rule for a def where nothing is under way -/
section
variable {P : Program} {w : World} {K : PySem.W.Frag} {mg : Str → Option Value} {base : Heap}
theorem g_ok {x qual : Str} {st : Stmt} {f : Addr} {fd : FuncData} {N ps : List Str} {k : Nat} {sp : Sp} (Fn : Fun K x qual st f fd) (S : FnScope N ps (defScope st)) (len : ∀ vs H Q E, sp vs H Q E → vs.length = ps.length)
    (hbody : ∀ (cdv : Value) (A : Around) (outer : List Env) (s : Shared) (H : Hp) (vs : List V) (Q : VK), Room k (A.deeper (PyProof.Rows.envOfC qual (defScope st) s.heap.objs.size f cdv)) → (A.deeper (PyProof.Rows.envOfC qual (defScope st) s.heap.objs.size f cdv)).guards = some [] → sp vs H Q E0 →
      ∃ t, PSs (cxOf CX0 P w K mg base N qual (defScope st) f cdv A outer s H E0).nox (defBody st) t ∧ t { nx := fun _ H' => Q .non H', rt := Q } (_root_.L2.start N vs) H) : GOk P w K mg base (k + 1) f fd ps sp := by
  obtain ⟨oc, od, kV, doc, pm, an, cdv, ct, osl, rfl, lk, hcd⟩ := Fn.ex
  refine ⟨len, fun A outer s H args us vs Q hr hG e0 hbd rv hsp => ?_⟩
  have hvl := len _ _ _ _ hsp
  have inK : K.In s.heap := e0.mod.kin.keeps fun b o z => (e0.bs b o z).1
  have nolim : s.heap.NoLimit := e0.mod.nolimit.keeps fun b o z => (e0.bs b o z).1
  have kinds : ∀ y ∈ ps.zip us, (defScope st).names.lookup y.1 = some .local ∨ ((defScope st).names.lookup y.1 = some .cell ∧ ((cellsFrom (s.heap.objs.size + 1) (defScope st).names []).lookup y.1).isSome = true) := fun ⟨n, v⟩ hy => by
    cases S.par n (List.of_mem_zip hy).1 with
    | inl z => exact .inl z
    | inr z => exact .inr ⟨z, PySem.W.cellsFrom_some _ _ _ (.inl z)⟩
  refine codeAny_call_function hr.depth (inK _ _ lk) rfl S.co S.gen rfl (PySem.W.codeRec_of inK hcd) (hbd _ _ _ _ ?_)
  refine wpAny_newFunctionEnv_cells S.kind kinds fun env he s1 ic => ?_
  subst he
  refine ⟨nolim.keeps ic.toInCall.keep, codeAny_func ?_⟩
  obtain ⟨t, ht, hq⟩ := hbody cdv A outer s H vs Q (hr.deeper _) hG hsp
  have I := inv_start (CX := CX0) (E := E0) (cd := cdv) (f := f) (qual := qual) S hr.hd e0 hvl rv ic
  refine wpAny_mono (ht.nox.run [] s1 (_root_.L2.start N vs) H _ I hq) (fun fl s' hs => ?_) fun e s' hs => hs
  match fl, hs with
  | .ret u, ⟨v, σ', H', J, rv', q⟩ => exact ⟨v, H', J.os, J.bare, J.base, J.hok, rv', q⟩
  | .next, ⟨σ', H', J, q⟩ => exact ⟨V.non, H', J.os, J.bare, J.base, J.hok, rfl, q⟩
  | .brk, ⟨_, _, _, q⟩ => exact False.elim q
  | .cont, ⟨_, _, _, q⟩ => exact False.elim q
theorem g_bag {x qual : Str} {st : Stmt} {f : Addr} {fd : FuncData} {N ps : List Str} {k : Nat} {R : Bag → List PyData → PyData → Bag → Prop} (Fn : Fun K x qual st f fd) (S : FnScope N ps (defScope st)) (hps : ps.length ≤ N.length) (len : ∀ b ds d b', R b ds d b' → ds.length + 1 = ps.length)
    (hbody : ∀ (cdv : Value) (A : Around) (outer : List Env) (s : Shared) (H : Hp), Room k (A.deeper (PyProof.Rows.envOfC qual (defScope st) s.heap.objs.size f cdv)) → (A.deeper (PyProof.Rows.envOfC qual (defScope st) s.heap.objs.size f cdv)).guards = some [] →
      ∃ t, PSs (cxOf CX0 P w K mg base N qual (defScope st) f cdv A outer s H E0).nox (defBody st) t ∧
        ∀ (B : Bg) (Q : VK) pb pc b ds d b', B.K = K → B.M = [pb, pc] → R b ds d b' → (∀ v F' H', NxM [pb, pc] B.F0 B.H0 F' H' → BagAt H' pb pc b'.cells b'.cur b'.mix → Dq K F' v d → Q v H') →
          Ho B (t { nx := fun _ H' => Q .non H', rt := Q }) (some (.v (.ref pb)) :: argE ds (N.length - 1)) [b.at pb pc]) :
    GOk P w K mg base (k + 1) f fd ps (spB K R) := by
  refine g_ok Fn S (fun vs H Q E h => ?_) fun cdv A outer s H vs Q hr hG h => ?_
  · obtain ⟨F, pb, pc, b, vs', ds, d, b', rfl, _, _, _, _, _, hd, hR, _⟩ := h
    rw [List.length_cons, dpa_len hd]; exact len b ds d b' hR
  · obtain ⟨t, ht, hb⟩ := hbody cdv A outer s H hr hG
    obtain ⟨F, pb, pc, b, vs', ds, d, b', rfl, hs, f1, f2, ne, bg, hd, hR, q⟩ := h
    refine ⟨t, ht, hb ⟨K, F, H, [pb, pc]⟩ Q pb pc b ds d b' rfl rfl hR q F _ H (rep_startB hs f1 f2 ne bg hd ?_)⟩
    rw [len b ds d b' hR]; exact hps
end
end Fz

/-! ## FzP -/
set_option Elab.async false
set_option linter.all false
set_option maxRecDepth 100000
set_option maxHeartbeats 2000000
set_option autoImplicit false
/-! FzP: comprehensions that own nothing new. -/
namespace Fz
open PySem L2
section
variable {B : Bg} {ε : Eps} {L La : Own} {te tl : TE} {tt : TT} {tas : TA} {g : TG} {vs : List Nat}
theorem range_filter_succ {α : Type} {t : Nat → Bool} {f : Nat → α} {i : Nat} : ((List.range (i + 1)).filter t).map f = ((List.range i).filter t).map f ++ (if t i = true then [f i] else []) := by
  rw [List.range_succ, List.filter_append, List.map_append, List.filter_cons]
  split <;> rfl
theorem en_lcR1P {j : Nat} {n : Int} (t : Nat → Bool) (f : Nat → PyData) (h : EA B tas ε L [.d (.int n)] La) (hn : n ≤ 90000 ∧ -(2 ^ 62) ≤ n) (hj : j ∈ vs)
    (ht : ∀ (i : Nat) m, (i : Int) < n → ETt B tt ((wipeE ε vs).set j (some (.d (.int (i : Int))))) (La ++ [m]) (t i) (La ++ [m]))
    (he : ∀ (i : Nat) m, (i : Int) < n → t i = true → EX B te ((wipeE ε vs).set j (some (.d (.int (i : Int))))) (La ++ [m]) (.d (f i)) (La ++ [m])) :
    EN B (tLc (iRng1 tas) (gName j) tt te vs) ε L (((List.range n.toNat).filter t).map f) La :=
  en_lcR1 h (by omega) (fun i acc L => acc = ((List.range i).filter t).map f ∧ L = La) ⟨rfl, rfl⟩ hj (fun i hi acc L' ⟨ha, hL⟩ => by
    subst ha hL
    refine ⟨?_, _, gt_name, t i, L', fun m => ht i m hi, fun hb => ⟨f i, L', fun m => he i m hi hb, ?_, rfl⟩, fun hb => ⟨?_, rfl⟩⟩
    · rw [List.length_map]
      exact Nat.lt_of_le_of_lt (List.length_filter_le _ _) (by rw [List.length_range]; omega)
    · rw [range_filter_succ, if_pos hb]
    · rw [range_filter_succ, if_neg (by rw [hb]; exact Bool.false_ne_true)]; exact (List.append_nil _).symm) fun acc L' h => h
theorem en_lcR2P {j : Nat} {lo n : Int} (t : Nat → Bool) (f : Nat → PyData) (h : EA B tas ε L [.d (.int lo), .d (.int n)] La) (hn : (-90000 ≤ lo ∧ lo ≤ 90000) ∧ n ≤ 90000 ∧ -90000 ≤ n) (hj : j ∈ vs)
    (ht : ∀ (i : Nat) m, lo + (i : Int) < n → ETt B tt ((wipeE ε vs).set j (some (.d (.int (lo + (i : Int)))))) (La ++ [m]) (t i) (La ++ [m]))
    (he : ∀ (i : Nat) m, lo + (i : Int) < n → t i = true → EX B te ((wipeE ε vs).set j (some (.d (.int (lo + (i : Int)))))) (La ++ [m]) (.d (f i)) (La ++ [m])) (hz : n - lo ≤ 90000) :
    EN B (tLc (iRng2 tas) (gName j) tt te vs) ε L (((List.range (n - lo).toNat).filter t).map f) La :=
  en_lcR2 h (by omega) (fun i acc L => acc = ((List.range i).filter t).map f ∧ L = La) ⟨rfl, rfl⟩ hj (fun i hi acc L' ⟨ha, hL⟩ => by
    subst ha hL
    refine ⟨?_, _, gt_name, t i, L', fun m => ht i m hi, fun hb => ⟨f i, L', fun m => he i m hi hb, ?_, rfl⟩, fun hb => ⟨?_, rfl⟩⟩
    · rw [List.length_map]
      exact Nat.lt_of_le_of_lt (List.length_filter_le _ _) (by rw [List.length_range]; omega)
    · rw [range_filter_succ, if_pos hb]
    · rw [range_filter_succ, if_neg (by rw [hb]; exact Bool.false_ne_true)]; exact (List.append_nil _).symm) fun acc L' h => h
theorem en_lcLP {xs : List PyData} (t : PyData → Bool) (f : PyData → PyData) (E2 : PyData → Eps) (h : EX B tl ε L (.d (.list xs)) La) (hz : xs.length ≤ 90000)
    (hw : ∀ (v : V) (σ : St) (H : Hp) (P : St → Hp → Prop), (g v (wipe σ vs) H P ↔ g v (wipe σ vs) H fun σ2 H2 => wipe σ2 vs = wipe σ vs ∧ P σ2 H2))
    (hg : ∀ d ∈ xs, GT B g (.d d) (wipeE ε vs) (E2 d)) (ht : ∀ d ∈ xs, ∀ m, ETt B tt (E2 d) (La ++ [m]) (t d) (La ++ [m])) (he : ∀ d ∈ xs, t d = true → ∀ m, EX B te (E2 d) (La ++ [m]) (.d (f d)) (La ++ [m])) :
    EN B (tLc (iList B.K tl) g tt te vs) ε L ((xs.filter t).map f) La :=
  en_lcL h (fun i acc L => acc = ((xs.take i).filter t).map f ∧ L = La) ⟨rfl, rfl⟩ hw (fun i d hd => cturn_pure hd hz (hg d (List.mem_of_getElem? hd)) (ht d (List.mem_of_getElem? hd)) (he d (List.mem_of_getElem? hd)))
    fun acc L' ⟨h1, h2⟩ => ⟨by rw [h1, List.take_length], h2⟩
theorem en_lcTP {xs : List PyData} (t : PyData → Bool) (f : PyData → PyData) (E2 : PyData → Eps) (h : EX B tl ε L (.d (.tuple xs)) La) (hz : xs.length ≤ 90000)
    (hw : ∀ (v : V) (σ : St) (H : Hp) (P : St → Hp → Prop), (g v (wipe σ vs) H P ↔ g v (wipe σ vs) H fun σ2 H2 => wipe σ2 vs = wipe σ vs ∧ P σ2 H2))
    (hg : ∀ d ∈ xs, GT B g (.d d) (wipeE ε vs) (E2 d)) (ht : ∀ d ∈ xs, ∀ m, ETt B tt (E2 d) (La ++ [m]) (t d) (La ++ [m])) (he : ∀ d ∈ xs, t d = true → ∀ m, EX B te (E2 d) (La ++ [m]) (.d (f d)) (La ++ [m])) :
    EN B (tLc (iTup B.K tl) g tt te vs) ε L ((xs.filter t).map f) La :=
  en_lcT h (fun i acc L => acc = ((xs.take i).filter t).map f ∧ L = La) ⟨rfl, rfl⟩ hw (fun i d hd => cturn_pure hd hz (hg d (List.mem_of_getElem? hd)) (ht d (List.mem_of_getElem? hd)) (he d (List.mem_of_getElem? hd)))
    fun acc L' ⟨h1, h2⟩ => ⟨by rw [h1, List.take_length], h2⟩
end
end Fz
namespace Fz
open PySem L2
section
variable {B : Bg} {ε : Eps} {L : Own} {X : St → Hp → Prop} {rt : V → Hp → Prop} {bk ct : St → Hp → Prop}
theorem nxt (h : Ho B X ε L) : Ho B (Ends.nx ⟨X, rt, bk, ct⟩) ε L := h
theorem nxc (h : Ho B X ε L) {nx : St → Hp → Prop} : Ho B (Ends.ct ⟨nx, rt, bk, X⟩) ε L := h
end
end Fz
namespace Fz
open PySem L2
section
variable {B : Bg} {ε : Eps} {L : Own} {ts tc : TS} {D : Ends} {rt : V → Hp → Prop} {bk ct : St → Hp → Prop}
theorem x_sq (h : Ho B (ts { D with nx := tc D }) ε L) : Ho B (Ends.nx ⟨tSeq ts tc D, rt, bk, ct⟩) ε L := h
theorem x_sn (h : Ho B D.nx ε L) : Ho B (Ends.nx ⟨tNext D, rt, bk, ct⟩) ε L := h
end
end Fz

/-! ## FzM -/
set_option Elab.async false
set_option linter.all false
set_option maxRecDepth 100000
set_option maxHeartbeats 4000000
set_option autoImplicit false
/-! FzM: list(reversed(list)), at the model's level. -/
namespace Fz
open PySem PySem.Spec PyProof.Rows L2 RT
open Sem (wp)
section
variable {prog : Program} {w : World} {A : Around} {E : Value → Shared → Prop} {s : Shared}
theorem extend_rev {R : Result → Shared → Prop} {it l S : Addr} {items : Array Value} {res : Value} {c0 : Nat} (hh : A.handled = none) (hit : s.heap.IsRevIter it l ((items.size : Int) - 1)) (hl : s.heap.IsList l items) (hne : l ≠ it) (hn : items.size ≤ sizeLine)
    (hSi : S ≠ it) (hSl : S ≠ l) (hS : s.heap.get? S = some { cls := .type "list", data := .seq #[] c0 })
    (hR : ∀ h' tk acc' c', (∀ b o, b ≠ S → b ≠ it → s.heap.get? b = some o → h'.get? b = some o) → h'.get? S = some { cls := .type "list", dict := none, data := .seq acc' c', slots := #[] } →
      ItemsOf (fun i v => items[items.size - 1 - i]? = some v) acc' items.size → R (.ok (.ret res)) { s with heap := h', toks := tk }) :
    wpAny (model prog w) A.in1 (Builtin.List.listExtendWith (.ref S) (.ref it) res)
      (fun fin s' => match fin with | .done f => R (.ok f) s' | .again c' => c'.quiet = true ∧ codeAny (model prog w) A c' R s') (fun e s' => R (.error e) s') s := by
  have W := (Walks.listRev (prog := prog) (w := w) (A := A.in1) hh it l hne items).toS
  have hSf : S ∉ [it, l] := by simp [hSi, hSl]
  have hT : s.TypeIs (.ref it) "list_reverseiterator" := hit.typeIs
  have same : Builtin.List.listSameRef (.ref S) (.ref it) = false := by simp [Builtin.List.listSameRef, hSi]
  have n1 : (Value.type "list_reverseiterator" == Value.type "list") = false := by decide
  have n2 : (Value.type "list_reverseiterator" == Value.type "tuple") = false := by decide
  have e0 : ((items.size : Nat) : Int) - 1 - ((0 : Nat) : Int) = (items.size : Int) - 1 := by omega
  have key : ∀ (h : Heap) (c₁ tk : Nat), h.IsRevIter it l ((items.size : Int) - 1) → h.IsList l items → (∀ b o, b ≠ S → s.heap.get? b = some o → h.get? b = some o) →
      h.get? S = some { cls := .type "list", data := .seq #[] c₁ } → codeAny (model prog w) A (.builtin "list.extend.loop" ⟨[.ref S, .ref it, res], []⟩) R { s with heap := h, toks := tk } := by
    intro h c₁ tk h1 h2 hk hS₁
    refine codeAny_extend_loopS W hn S hSf res items.size 0 _ #[] c₁ rfl (Nat.zero_le _) ⟨Nat.zero_le _, by rw [e0]; exact h1, h2⟩ hS₁ (ItemsOf.nil _) fun s' acc' c' hm hS' hacc => ?_
    rw [Moved.eq_with hm]
    refine hR s'.heap s'.toks acc' c' (fun b o hb hbi e => hm.heap b o (fun hmem => ?_) (hk b o hb e)) hS' hacc
    rcases List.mem_cons.mp hmem with z | z
    · exact hb z
    · exact hbi (List.mem_singleton.mp z)
  unfold Builtin.List.listExtendWith
  refine wpAny_bind (wpAny_typeOf hT ?_)
  simp only [same, n1, n2, Bool.or_false, Bool.false_eq_true, if_false]
  refine wpAny_bind (wpAny_pyIter_revIter hit ?_)
  refine wpAny_bind (wpAny_holding ?_)
  unfold Builtin.List.listLengthHint
  refine wpAny_bind (wpAny_specialOf hT nolen_lri ?_)
  show wpAny _ A.in1 (specialOf (Value.ref it) (Str.ofString "__length_hint__") >>= _) _ _ _
  refine wpAny_bind (wpAny_specialOf hT hint_lri ?_)
  generalize hid : ("list_reverseiterator.__length_hint__" : String) = id0
  wp_delta
  rw [show splitId id0 = some ("list_reverseiterator", "__length_hint__") from by subst hid; decide +kernel]
  subst hid
  refine wpAny_bind (wpAny_isInstance (b := true) hT (by rw [isSubtype_type]; kernel_rfl) ?_)
  refine wpAny_pure ?_
  first
  | (rw [if_neg (by decide)]; exact wpAny_pure ⟨plainId_quiet F.plain_extend_loop _, key s.heap c0 s.toks hit hl (fun b o _ e => e) hS⟩)
  | (refine wpAny_ite_split (fun _ => ?_) (fun _ => wpAny_pure ⟨plainId_quiet F.plain_extend_loop _, key s.heap c0 s.toks hit hl (fun b o _ e => e) hS⟩)
     exact absurd ‹_› (by decide))
theorem list_init_rev {R : Result → Shared → Prop} {it l S : Addr} {items : Array Value} (hh : A.handled = none) (hit : s.heap.IsRevIter it l ((items.size : Int) - 1)) (hl : s.heap.IsList l items) (hne : l ≠ it) (hn : items.size ≤ sizeLine)
    (hSi : S ≠ it) (hSl : S ≠ l) (hS : s.heap.get? S = some { cls := .type "list", data := .seq #[] })
    (hR : ∀ h' tk acc' c', (∀ b o, b ≠ S → b ≠ it → s.heap.get? b = some o → h'.get? b = some o) → h'.get? S = some { cls := .type "list", dict := none, data := .seq acc' c', slots := #[] } →
      ItemsOf (fun i v => items[items.size - 1 - i]? = some v) acc' items.size → R (.ok (.ret .none)) { s with heap := h', toks := tk }) :
    wpAny (model prog w) A.in1 (Builtin.«list.__init__» ⟨[.ref S, .ref it], []⟩)
      (fun fin s' => match fin with | .done f => R (.ok f) s' | .again c' => c'.quiet = true ∧ codeAny (model prog w) A c' R s') (fun e s' => R (.error e) s') s := by
  have oth : ∀ b o, b ≠ S → s.heap.get? b = some o → (s.heap.update S (Obj.mapSeq (fun _ => (#[] : Array Value)))).get? b = some o :=
    fun b o hb e => (Heap.get?_update_other _ _ (Ne.symm hb)).trans e
  show wpAny _ A.in1 (do let old ← Builtin.List.listItems (.ref S); Builtin.List.listUpdate (.ref S) (fun _ => #[]); letGo old.toList.reverse; Builtin.List.listExtendWith (.ref S) (.ref it) .none) _ _ s
  refine wpAny_bind ?_
  unfold Builtin.List.listItems
  refine wpAny_bind (wpAny_seqItems hS rfl (wpAny_pure ?_))
  show wpAny _ _ (updateSeq S (fun _ => #[]) >>= fun _ => letGo (#[] : Array Value).toList.reverse >>= fun _ => Builtin.List.listExtendWith (.ref S) (.ref it) .none) _ _ s
  refine wpAny_bind (wpAny_updateSeq hS rfl ?_)
  have hS₂ := Heap.get?_update_self (Obj.mapSeq (fun _ => (#[] : Array Value))) hS rfl
  refine wpAny_bind (wpAny_letGo ?_)
  obtain ⟨ol, hol, hlr⟩ := id hl
  refine extend_rev hh (hit.at fun o e => oth it o hSi.symm e) ⟨ol, oth l ol hSl.symm hol, hlr⟩ hne hn hSi hSl hS₂ fun h' tk acc' c' hk hS' hacc => ?_
  exact hR h' tk acc' c' (fun b o hb hbi e => hk b o hb hbi (oth b o hb e)) hS' hacc
theorem call_list_rev {Q : Value → Shared → Prop} {it l : Addr} {items : Array Value} (hh : A.handled = none) (hit : s.heap.IsRevIter it l ((items.size : Int) - 1)) (hl : s.heap.IsList l items) (hne : l ≠ it) (hn : items.size ≤ sizeLine)
    (hQ : ∀ h' tk acc' c', (∀ b o, b ≠ it → s.heap.get? b = some o → h'.get? b = some o) →
      h'.get? s.heap.objs.size = some { cls := .type "list", dict := none, data := .seq acc' c', slots := #[] } → ItemsOf (fun i v => items[items.size - 1 - i]? = some v) acc' items.size → Q (.ref s.heap.objs.size) { s with heap := h', toks := tk }) :
    wpAny (model prog w) A (call (.type "list") [.ref it]) Q E s := by
  obtain ⟨oi, hoi, _⟩ := id hit
  obtain ⟨ol, hol, _⟩ := id hl
  refine callType_codes (Q₁ := fun obj s₁ => obj = .ref s.heap.objs.size ∧ s₁ = { s with heap := s.heap.push { cls := .type "list", data := .seq #[] } }) F.called_list (F.typeCall_list_1 _) F.entry_list_init
    (code_list_new _ ⟨rfl, rfl⟩) fun obj s₁ h₁ => ?_
  obtain ⟨rfl, rfl⟩ := h₁
  have hS : (s.heap.push { cls := .type "list", data := .seq #[] }).get? s.heap.objs.size = some { cls := .type "list", data := .seq #[] } := Heap.get?_push_size _ rfl
  refine ⟨⟨_, hS, rfl⟩, F.args_list_init_2 _ _, list_init_rev (A := A.in1) hh (hit.at fun o e => Heap.get?_push_of_some _ e) (hl.push _) hne hn (Nat.ne_of_gt (Heap.lt_size hoi)) (Nat.ne_of_gt (Heap.lt_size hol)) hS fun h' tk acc' c' hk hS' hacc => ?_⟩
  exact ⟨rfl, hQ h' tk acc' c' (fun b o hb e => hk b o (Nat.ne_of_lt (Heap.lt_size e)) hb (Heap.get?_push_of_some _ e)) hS' hacc⟩
end
end Fz

/-! ## FzM2 -/
set_option Elab.async false
set_option linter.all false
set_option maxRecDepth 100000
set_option maxHeartbeats 4000000
set_option autoImplicit false
/-! FzM2: the rule of list(reversed(x)). -/
namespace Fz
open PySem PySem.Spec PyProof.Rows L2 RT
def tListRev (K : PySem.W.Frag) (te : TE) : TE := fun σ H Q => te σ H fun v H1 => ∃ (a : Addr) (xs : List V), v = .ref a ∧ SqL K H1 a xs ∧ ∀ q, H1 q = none → Q (.ref q) (upd H1 q (.lst xs.reverse))
section
variable {X : Cx}
theorem pe_listRev {e : Expr} {te : TE} {p p2 pos pos2 : Pos} (hc : X.calm = true) (hg : Gl X "list") (hm : X.mg "list" = none) (hg2 : Gl X "reversed") (hm2 : X.mg "reversed" = none) (he : PE X e te)
    (hs : starEach [e] X.env = (false, eval e X.env) :: starEach [] X.env := by rfl)
    (hs2 : starEach [.Call (.Name "reversed" p2) [e] [] pos2] X.env = (false, eval (.Call (.Name "reversed" p2) [e] [] pos2) X.env) :: starEach [] X.env := by rfl) :
    PE X (.Call (.Name "list" p) [.Call (.Name "reversed" p2) [e] [] pos2] [] pos) (tListRev X.K te) := by
  refine ⟨fun pins s σ H Q I h => ?_⟩
  refine Call_ (ld_blt I hg hm boot_list (callWith_type1 (args_cons (Call_ (ld_blt I hg2 hm2 boot_reversed (callWith_type1 (args_cons (thn (he.run pins s σ H _ I h) fun u s1 ⟨v, H1, I1, r1, q1⟩ => args_nil ?_) hs) hs rfl))) hs2) hs2 rfl))
  obtain ⟨a, xs, ev, hq, q⟩ := q1
  subst ev
  obtain rfl : u = Value.ref a := r1
  obtain ⟨its, rv, pl, hz⟩ := I1.list hq
  refine call_reversed_list pl.isList (args_nil ?_)
  have k0 : ∀ b o, s1.heap.get? b = some o → (s1.heap.push (revObj a ((its.toArray.size : Int) - 1))).get? b = some o := fun b o z => Heap.get?_push_of_some _ z
  have I2 : Inv X pins σ H1 { s1 with heap := s1.heap.push (revObj a ((its.toArray.size : Int) - 1)) } := I1.kept (t' := s1.toks) k0
  have fp := I1.fpOk (H' := H1) (b := s1.heap.objs.size) (Nat.le_refl _) (I1.hok.fresh (Nat.le_refl _))
  have hl := pl.isList
  obtain ⟨ol, hol, _⟩ := id hl
  have hne : a ≠ s1.heap.objs.size := Nat.ne_of_lt (Heap.lt_size hol)
  refine call_list_rev (s := { s1 with heap := s1.heap.push (revObj a ((its.toArray.size : Int) - 1)) }) (I1.ok.hd hc) ⟨_, Heap.get?_push_size _ rfl, rfl, rfl⟩ (hl.push _) hne (by rw [List.size_toArray, ← rv.length]; exact hz) fun h' tk acc c' hk hS hi => ?_
  refine ⟨.ref (s1.heap.push (revObj a ((its.toArray.size : Int) - 1))).objs.size, upd H1 (s1.heap.push (revObj a ((its.toArray.size : Int) - 1))).objs.size (.lst xs.reverse), ?_, rfl, q _ (I2.hok.fresh (Nat.le_refl _))⟩
  refine I2.turnedNew (t' := tk) (ch := [s1.heap.objs.size]) (fun b o hb z => hk b o (fun y => hb (by rw [y]; exact List.mem_singleton_self _)) z) (fun b hb => by rw [List.mem_singleton.mp hb]; exact fp) (Nat.le_refl _) ?_
  refine (⟨by rw [List.length_reverse]; exact hz, acc.toList, c', vals_rev rv hi, ?_⟩ : ObjOk X.prog X.w _ _ _ (.lst xs.reverse))
  rw [Array.toArray_toList]
  exact hS
end
section
variable {B : Bg} {ε : Eps} {L La : Own} {te : TE} {x : AD}
theorem en_listRev {ds : List PyData} (h : EX B te ε L x La) (hx : IsL La x ds) : EN B (tListRev B.K te) ε L ds.reverse La := fun F σ H r Q q =>
  h F σ H r _ fun v F1 H1 s1 r1 o1 => by
    obtain ⟨p, vs, rfl, g1, g2⟩ := hx.get r1 o1
    exact ⟨p, vs, rfl, g1, fun l hl => q l F1 _ s1 (r1.newM hl) (r1.alloc hl rfl ⟨_, upd_same, dpa_rev g2⟩)⟩
/-- .. of a list just made -/
theorem en_listRevN {ds : List PyData} (h : EN B te ε L ds La) : EN B (tListRev B.K te) ε L ds.reverse La := en_listRev (ex_frz h) .d
end
end Fz

/-! ## FzB -/
set_option Elab.async false
set_option linter.all false
set_option maxRecDepth 100000
set_option maxHeartbeats 2000000
set_option autoImplicit false
/-! FzB: the bag of a law: what is drawn. -/
namespace Fz
open PySem L2
/-- the cells from the last on, the digits at hand -/
def fetchR : List Int → Int → List Int × Int
  | [], cur => ([], cur)
  | c :: r, cur => if cur = 0 then fetchR r (if 1000000000 < c then c else 0) else (c :: r, cur)
theorem fetchR_ok : ∀ (r : List Int) (cur : Int), 0 ≤ cur → (∀ c ∈ r, 0 ≤ c) → 0 ≤ (fetchR r cur).2 ∧ ∀ c ∈ (fetchR r cur).1, 0 ≤ c
  | [], cur, h, h2 => ⟨h, h2⟩
  | c :: r, cur, h, h2 => by
    unfold fetchR
    split
    · refine fetchR_ok r _ ?_ fun x hx => h2 x (List.mem_cons_of_mem _ hx)
      split
      · exact h2 c List.mem_cons_self
      · exact Int.le_refl 0
    · exact ⟨h, h2⟩
def fetchC (b : Bag) : List Int := (fetchR b.cells.reverse b.cur).1
def fetchU (b : Bag) : Int := (fetchR b.cells.reverse b.cur).2
def nextM (m : Int) : Int := (m * 48271 + 11) % 2147483647
theorem nextM_ok (m : Int) : 0 ≤ nextM m ∧ nextM m < 2147483647 := ⟨Int.emod_nonneg _ (by decide), Int.emod_lt_of_pos _ (by decide)⟩
def drawV (b : Bag) (n : Int) : Int := if 0 < fetchU b then fetchU b % n else nextM b.mix * nextM b.mix % 2147483629 / 7 % n
theorem drawV_ok (b : Bag) {n : Int} (h : 0 < n) : 0 ≤ drawV b n ∧ drawV b n < n := by
  unfold drawV
  split
  · exact ⟨Int.emod_nonneg _ (by omega), Int.emod_lt_of_pos _ h⟩
  · exact ⟨Int.emod_nonneg _ (by omega), Int.emod_lt_of_pos _ h⟩
theorem fetch_ok (b : Bag) : 0 ≤ fetchU b ∧ ∀ c ∈ (fetchC b).reverse, 0 ≤ c := by
  have h := fetchR_ok b.cells.reverse b.cur b.ok.2.2.1 fun c hc => b.ok.2.2.2 c (List.mem_reverse.mp hc)
  exact ⟨h.1, fun c hc => h.2 c (List.mem_reverse.mp hc)⟩
def drawB (b : Bag) (n : Int) : Bag :=
  if h : 0 < n then (if hu : 0 < fetchU b then ⟨(fetchC b).reverse, fetchU b / n, b.mix, b.ok.1, b.ok.2.1, Int.ediv_nonneg (fetch_ok b).1 (Int.le_of_lt h), (fetch_ok b).2⟩
    else ⟨(fetchC b).reverse, fetchU b, nextM b.mix, (nextM_ok b.mix).1, (nextM_ok b.mix).2, (fetch_ok b).1, (fetch_ok b).2⟩) else b
theorem drawB_pos {b : Bag} {n : Int} (h : 0 < n) (hu : 0 < fetchU b) : (drawB b n).cells = (fetchC b).reverse ∧ (drawB b n).cur = fetchU b / n ∧ (drawB b n).mix = b.mix := by
  unfold drawB; rw [dif_pos h, dif_pos hu]; exact ⟨rfl, rfl, rfl⟩
theorem drawB_zero {b : Bag} {n : Int} (h : 0 < n) (hu : ¬ 0 < fetchU b) : (drawB b n).cells = (fetchC b).reverse ∧ (drawB b n).cur = fetchU b ∧ (drawB b n).mix = nextM b.mix := by
  unfold drawB; rw [dif_pos h, dif_neg hu]; exact ⟨rfl, rfl, rfl⟩
def R_draw : Bag → List PyData → PyData → Bag → Prop := fun b ds d b' => ∃ n : Int, 0 < n ∧ n.natAbs < 2 ^ 8000 ∧ ds = [.int n] ∧ d = .int (drawV b n) ∧ b' = drawB b n
def R_pick : Bag → List PyData → PyData → Bag → Prop := fun b ds d b' => ∃ xs : List PyData, xs ≠ [] ∧ xs.length ≤ 100000 ∧ ds = [.list xs] ∧ d = xs.getD (drawV b xs.length).toNat .none ∧ b' = drawB b xs.length
end Fz

/-! ## FzR -/
set_option Elab.async false
set_option linter.all false
set_option maxRecDepth 100000
set_option maxHeartbeats 2000000
set_option autoImplicit false
/-! FzR: lists put together, more targets, the bag made. -/
namespace Fz
open PySem L2
section
variable {B : Bg} {ε ε' : Eps} {L La Lb Lc : Own} {te ta tb tn : TE} {x y : AD} {D : Ends} {tas : TA}
inductive IsM (L : Own) : AD → List PyData → Prop
  | d {ds : List PyData} : IsM L (.d (.list ds)) ds
  | o {p : Addr} {ds : List PyData} {k : Nat} (h : L[k]? = some (.lst p ds)) : IsM L (.v (.ref p)) ds
theorem IsM.get {F : Hp} {σ : St} {H : Hp} {v : V} {ds : List PyData} {a : AD} (h : IsM L a ds) (rp : Rep B ε L F σ H) (o : a.ok B.K F v) : ∃ p vs, v = .ref p ∧ H p = some (.lst vs) ∧ DqAll B.K F vs ds := by
  cases h with
  | d =>
    have o' : Dq B.K F v (.list ds) := o
    cases o' with
    | lst h1 h2 => exact ⟨_, _, rfl, rp.sub _ _ h1, h2⟩
  | o hk =>
    obtain ⟨vs, h1, h2⟩ := rp.own _ (List.mem_of_getElem? hk)
    exact ⟨_, vs, o, h1, h2⟩
theorem en_cat {ds es : List PyData} (ha : EX B ta ε L x La) (hb : EX B tb ε La y Lb) (hx : IsM Lb x ds) (hy : IsM Lb y es) (hl : ds.length + es.length ≤ 100000) : EN B (tOp rCat ta tb) ε L (ds ++ es) Lb := en_op ha hb fun F σ H v w rp hv hw Q q => by
  obtain ⟨p, vs, rfl, g1, g2⟩ := hx.get rp hv
  obtain ⟨p', ws, rfl, g3, g4⟩ := hy.get rp hw
  exact ⟨p, p', vs, ws, rfl, rfl, g1, g3, Evl.sz_of (by rw [dpa_len g2, dpa_len g4]; exact hl), fun n hn => q n F _ (Sub.rfl' F) (rp.newM hn) (rp.alloc hn rfl ⟨_, upd_same, dpa_app g2 g4⟩)⟩
theorem gt_tup4 {i j k l : Nat} {d e f h : PyData} : GT B (gTup B.K 4 (gCons (gName i) (gCons (gName j) (gCons (gName k) (gCons (gName l) gNil))))) (.d (.tuple [d, e, f, h])) ε ((((ε.set i (some (.d d))).set j (some (.d e))).set k (some (.d f))).set l (some (.d h))) := fun L F σ H v r o P p => by
  obtain ⟨q, vs, rfl, h1, h2⟩ := tup_inv o
  cases h2 with
  | cons a t =>
    cases t with
    | cons b t =>
      cases t with
      | cons c t =>
        cases t with
        | cons c' t =>
          cases t
          exact ⟨q, _, rfl, tq_sub r.sub h1, rfl, _, _, rfl, _, _, rfl, _, _, rfl, _, _, rfl, rfl, p _ ((((r.slot (a := .d d) a).slot (a := .d e) b).slot (a := .d f) c).slot (a := .d h) c')⟩
/-- [cells, cur, mix] -/
theorem x_retBag {c : List Int} {u mx : Int} (h : EN B tn ε L (c.map PyData.int) La) (ha : ∀ m, EX B ta ε (m :: La) (.d (.int u)) (m :: La)) (hb : ∀ m, EX B tb ε (m :: La) (.d (.int mx)) (m :: La))
    (k : ∀ pb pc F σ H, Rep B ε (.bag pb pc c u mx :: La) F σ H → B.H0 pb = none → B.H0 pc = none → pb ≠ pc → D.rt (.ref pb) H) : Ho B (tRet (tLst (tCons tn (tCons ta (tCons tb tNil)))) D) ε L := fun F σ H r =>
  h F σ H r _ fun pc F1 H1 s1 hpc r1 => ha _ F1 σ H1 r1 _ fun v F2 H2 s2 r2 o2 => hb _ F2 σ H2 r2 _ fun w F3 H3 s3 r3 o3 => by
    have ev : v = .int u := int_inv o2
    have ew : w = .int mx := int_inv o3
    subst ev ew
    refine ⟨by show 3 ≤ sizeLine; decide, fun pb hp => ?_⟩
    obtain ⟨vs, g1, g2⟩ := r3.own _ List.mem_cons_self
    have e2 := dpa_int_inv g2
    subst e2
    have ne : pc ≠ pb := fun e => by rw [e, hp] at g1; cases g1
    have off := r3.off pc List.mem_cons_self
    have h0pc : B.H0 pc = none := off.2.resolve_left hpc
    have ra := r3.alloc (m := .raw pb (.lst [.ref pc, .int u, .int mx])) hp rfl ⟨upd_same, fun _ z => nomatch z⟩
    refine k pb pc F3 σ _ ⟨ra.sub, fun m hm => ?_, fun p hp' => ra.off p hp', ra.nd, ra.sl, ra.len, ra.f0, ra.h0, ra.nc, ra.mm⟩ (r3.newH hp) h0pc ne.symm
    rcases List.mem_cons.mp hm with e | e
    · rw [e]; exact ⟨upd_same, by rw [upd_ne ne]; exact g1⟩
    · exact ra.own m (List.mem_cons_of_mem _ (List.mem_cons_of_mem _ e))
/-- a def that makes the bag of the script -/
def spOwn (K : PySem.W.Frag) : Sp := fun vs H Q _ => ∃ (a : Addr) (ns : List Int), vs = [.ref a] ∧ SqL K H a (ns.map V.int) ∧ ns.length ≤ 63 ∧ ∀ pb pc (b : Bag) H', (∀ a o, H a = some o → H' a = some o) → H pb = none → H pc = none → pb ≠ pc → BagAt H' pb pc b.cells b.cur b.mix → Q (.ref pb) H'
end
end Fz
namespace Fz
open PySem L2
section
variable {B : Bg} {ε ε' : Eps} {L La Lb Lc : Own} {te ta tb tn : TE} {x y : AD} {D : Ends} {tas : TA} {a : AD}
/-- a, b = x, [..] -/
theorem x_parN {i j : Nat} {ds : List PyData} (h : EX B ta ε L a La) (h2 : EN B tb ε La ds Lb) (k : ∀ p, p ∉ B.M → Ho B D.nx ((ε.set i (some a)).set j (some (.v (.ref p)))) (.lst p ds :: Lb)) : Ho B (tPar i j (tCons ta (tCons tb tNil)) D) ε L := fun F σ H r =>
  h F σ H r _ fun v F1 H1 s1 r1 o1 => h2 F1 σ H1 r1 _ fun p F2 H2 s2 hp r2 => ⟨v, .ref p, rfl, k p hp F2 _ H2 ((r2.slot (o1.sub s2)).slot (a := .v (.ref p)) rfl)⟩
theorem seq_nat {n k : Nat} (h : k < n) : seqIndex? (k : Int) n = some k := by
  unfold seqIndex?
  simp; omega
theorem eqv_nil (ds : List PyData) : PyData.eqv (.list ds) (.list []) = ds.isEmpty := by cases ds <;> rfl
/-- x != [] -/
theorem ex_neNil {ds : List PyData} (h : EX B ta ε L x La) (hx : IsL La x ds) (hs : SeqAt.shaped (.list ds) = true) : EX B (tOp (rNeD B.K) ta (tLst tNil)) ε L (.d (.bool (!ds.isEmpty))) La := fun F σ H r Q q =>
  h F σ H r _ fun v F1 H1 s1 r1 o1 => ⟨Nat.zero_le _, fun p hp => by
    obtain ⟨pl, vs, rfl, g1, g2⟩ := hx.get r1 o1
    have s2 : Sub H1 (upd H1 p (.lst [])) := sub_fresh hp
    refine ⟨.list ds, .list [], .lst (sql_sub s2 g1) (dqa_dpa (nodict_shaped hs) (dpa_sub (r1.sub.tr s2) g2)), dq_dp rfl (.lst upd_same .nil), hs, rfl, ?_⟩
    rw [eqv_nil]
    exact q _ F1 _ s1 (r1.heap s2) (.bl _)⟩
end
end Fz
namespace Fz
open PySem L2
theorem en_is {B : Bg} {ε : Eps} {L La : Own} {te : TE} {ds es : List PyData} (h : EN B te ε L ds La) (e : ds = es) : EN B te ε L es La := e ▸ h
theorem cut_map (f : Int → PyData) (ns : List Int) (lo hi : Option Int) : ∃ ms : List Int, cutD (ns.map f) lo hi = ms.map f ∧ ms.length ≤ ns.length := by
  unfold cutD
  refine ⟨(ns.drop (HT.sIx (ns.map f).length 0 lo)).take (HT.sIx (ns.map f).length (ns.map f).length hi - HT.sIx (ns.map f).length 0 lo), ?_, ?_⟩
  · rw [List.map_take, List.map_drop]
  · rw [List.length_take, List.length_drop]
    omega
theorem rep_startS {K : PySem.W.Frag} {N : List Str} {H : Hp} {a : Addr} {ns : List Int} (hS : SqL K H a (ns.map V.int)) (hn : 1 ≤ N.length) :
    Rep ⟨K, H, H, []⟩ (some (.v (.ref a)) :: List.replicate (N.length - 1) none) [.seq a (ns.map PyData.int)] H (_root_.L2.start N [.ref a]) H := by
  refine ⟨Sub.rfl' H, fun m hm => ?_, fun p hp => (nomatch hp), List.nodup_nil, fun i x e => ?_, ?_, Sub.rfl' H, fun _ _ _ e => e, fun _ e _ => .inl e, fun p hp => (nomatch hp)⟩
  · rw [List.mem_singleton.mp hm]
    exact ⟨_, hS, dpa_ints ns⟩
  · cases i with
    | zero => cases e; exact ⟨_, rfl, _, rfl, rfl⟩
    | succ i =>
      have e : (List.replicate (N.length - 1) (none : Option AD))[i]? = some x := e
      rw [List.getElem?_replicate] at e
      split at e
      · cases e
        rename_i hlt
        refine ⟨none, ?_, trivial⟩
        show (List.replicate (N.length - 1) (none : Option V))[i]? = some none
        rw [List.getElem?_replicate, if_pos hlt]
      · cases e
  · show (some (V.ref a) :: List.replicate (N.length - 1) none).length = _
    rw [List.length_cons, List.length_replicate, List.length_cons, List.length_replicate]
end Fz

/-! ## FzS -/
set_option Elab.async false
set_option linter.all false
set_option maxRecDepth 100000
set_option maxHeartbeats 2000000
set_option autoImplicit false
/-! FzS: sum(list of tuples, ()); tuple * 1. -/
namespace Fz
open PySem L2
open Sem (wp)
/-- one deeper, with another wish -/
abbrev cx1 (X : Cx) (E : Value → Shared → Prop) : Cx := { X with A := X.A.in1, xe := E }
section
variable {X : Cx} {pins : List (Addr × Obj)} {σ : St} {H : Hp} {s : Shared} {E : Value → Shared → Prop}
theorem ok_to1 (o : X.Ok) : (cx1 X E).Ok := ⟨o.mod, o.kind, o.glob, o.blt, o.above, o.inj, o.has, o.cab, o.hd, o.frames, o.stk, o.exf, o.bs, o.bsz, o.noex, o.exfs, o.funs, o.frf⟩
theorem inv_to1 (I : Inv X pins σ H s) : Inv (cx1 X E) pins σ H s := ⟨ok_to1 I.ok, I.os, I.bare, I.base, I.loc, I.cell, I.free, I.freeC, I.pin, I.hok, I.len⟩
theorem inv_of1 (o : X.Ok) (I : Inv (cx1 X E) pins σ H s) : Inv X pins σ H s := ⟨o, I.os, I.bare, I.base, I.loc, I.cell, I.free, I.freeC, I.pin, I.hok, I.len⟩
end
theorem args_sumT (a b : Value) : argsOk "sum" ⟨[a, b], []⟩ := by unfold argsOk; kernel_rfl
theorem sub_tuple_bytearray : isSubtype (.type "tuple") (.type "bytearray") = pure false := by rw [isSubtype_type]; kernel_rfl
theorem sub_tuple_str' : isSubtype (.type "tuple") (.type "str") = pure false := by rw [isSubtype_type]; kernel_rfl
theorem sub_tuple_bytes' : isSubtype (.type "tuple") (.type "bytes") = pure false := by rw [isSubtype_type]; kernel_rfl
def stO (pa : Addr) (c : Nat) : Obj := { cls := .type "list", dict := none, data := .seq #[.ref pa] c, slots := #[] }
section
variable {X : Cx} {pins : List (Addr × Obj)} {σ : St} {R : Result → Shared → Prop} {S It l : Addr}
theorem sumT_loop (hh : X.A.handled = none) (hSI : S ≠ It) : ∀ (ps : List Addr) (zs : List (List V)) (dn : List Addr) (acc : List V) (pa : Addr) (H : Hp) (s : Shared) (c : Nat),
    Paired (fun p z => H p = some (.tup z)) ps zs → SqL X.K H l ((dn ++ ps).map V.ref) → H pa = some (.tup acc) → acc.length + zs.flatten.length ≤ sizeLine →
    Inv X pins σ H s → FpOk X pins H S → FpOk X pins H It → s.heap.IsListIter It l dn.length → s.heap.get? S = some (stO pa c) →
    (∀ p H' s', Sub H H' → Inv X pins σ H' s' → H' p = some (.tup (acc ++ zs.flatten)) → R (.ok (.ret (.ref p))) s') →
    codeAny (model X.prog X.w) X.A (.builtin "sum.loop" ⟨[.ref It, .ref S, rawInt 2, rawInt 0], []⟩) R s
  | [], zs, dn, acc, pa, H, s, c, hp, hs, ha, hz, I, fS, fI, hit, hS, hR => by
    cases hp
    obtain ⟨its, rv, hl, _⟩ := I.list hs
    refine codeAny_builtin F.entry_sum_loop ?_
    rw [Around.under_plainId F.plain_sum_loop _]
    show wpAny _ X.A.in1 (seqItems? (.ref S) >>= _) _ _ s
    refine wpAny_bind (wpAny_seqItems hS rfl ?_)
    show wpAny _ X.A.in1 (tryCatch (pyNext (.ref It)) _ >>= _) _ _ s
    refine wpAny_bind (wpAny_tryCatch (wpAny_pyNext_list_end (A := X.A.in1) hh hit hl.isList (Array.getElem?_eq_none (by
      have := rv.length
      rw [List.length_map, List.append_nil] at this
      rw [List.size_toArray]; omega)) fun h' he => ?_))
    obtain ⟨f0, f1, f2, f3, f4, f5⟩ := fI
    exact wpAny_pure (hR pa H _ (Sub.rfl' H) (I.turned (t' := s.toks) (fun b ob hb e => he b ob hb e) f0 f1 f3 f4 f5) (by rw [List.flatten_nil, List.append_nil]; exact ha))
  | p :: ps, zs, dn, acc, pa, H, s, c, hp, hs, ha, hz, I, fS, fI, hit, hS, hR => by
    cases hp with
    | @cons _ z _ zs hpz hp =>
    obtain ⟨its, rv, hl, _⟩ := I.list hs
    have ei := refs_at rv
    subst ei
    have hx : ((dn ++ p :: ps).map Value.ref).toArray[dn.length]? = some (.ref p) := by simp
    have hlI : l ≠ It := fun e => by
      rcases hs with (h | ⟨o, h⟩) | ⟨o, its, n, h, _⟩
      · rw [e, fI.1] at h; cases h
      · rw [e, fI.1] at h; cases h
      · obtain ⟨ol, hol, hcl, _⟩ := hl.isList
        obtain ⟨oi, hoi, hci, _⟩ := hit
        rw [e, hoi] at hol
        cases hol
        rw [hci] at hcl
        exact absurd (Value.type.inj hcl) (by decide)
    refine codeAny_builtin F.entry_sum_loop ?_
    rw [Around.under_plainId F.plain_sum_loop _]
    show wpAny _ X.A.in1 (seqItems? (.ref S) >>= _) _ _ s
    refine wpAny_bind (wpAny_seqItems hS rfl ?_)
    show wpAny _ X.A.in1 (tryCatch (pyNext (.ref It)) _ >>= _) _ _ s
    refine wpAny_bind (wpAny_tryCatch (wpAny_pyNext_list_item hit hl.isList hx fun h1 hit1 hs1 => ?_))
    show wpAny _ X.A.in1 ((holding [Value.ref p] (binaryOp .Add (.ref pa) (.ref p))).attempt >>= _) _ _ _
    refine wpAny_bind (wpAny_attempt (wpAny_holding ?_))
    obtain ⟨f0, f1, f2, f3, f4, f5⟩ := id fI
    have I1 : Inv X pins σ H { s with heap := h1 } := I.turned (t' := s.toks) (fun b ob hb e => (hs1.2 b hb).trans e) f0 f1 f3 f4 f5
    obtain ⟨oi, hoi, hci, hdi⟩ := id hit1
    have hS1 : h1.get? S = some (stO pa c) := (hs1.2 S hSI).trans hS
    have I2 : Inv X ((S, stO pa c) :: (It, oi) :: pins) σ H { s with heap := h1 } := I1.pins_of fun q hq => by
      rcases List.mem_cons.mp hq with e | hq
      · subst e
        exact ⟨hS1, fS.1, fS.2.1, fS.2.2.1, fun v z => by cases z⟩
      · rcases List.mem_cons.mp hq with e | hq
        · subst e
          exact ⟨hoi, fI.1, fI.2.1, fI.2.2.1, fun v z => by rw [hdi] at z; cases z⟩
        · exact I1.pin q (List.mem_append_right _ hq)
    rw [List.flatten_cons, List.length_append] at hz
    refine wpAny_mono (op_catA (X := cx1 X _) _ _ σ H (.ref pa) (.ref p) _ _ (fun v H' => ∃ q, v = .ref q ∧ Sub H H' ∧ H' q = some (.tup (acc ++ z))) (inv_to1 I2) rfl rfl
      ⟨pa, p, acc, z, rfl, rfl, .inl (.inl ha), .inl (.inl hpz), by omega, fun e => ⟨p, rfl, Sub.rfl' H, by rw [e]; exact hpz⟩, fun _ e => ⟨pa, rfl, Sub.rfl' H, by rw [e, List.append_nil]; exact ha⟩, fun _ _ n hn => ⟨n, rfl, sub_fresh hn, upd_same⟩⟩)
      (fun r s2 h2 => ?_) (fun _ _ e => e)
    obtain ⟨v, H', I3, rv3, q, ev, hsub, hq⟩ := h2
    subst ev
    obtain rfl : r = Value.ref q := rv3
    have I4 := inv_of1 I.ok I3
    have pS := I4.pin (S, stO pa c) (List.mem_append_right _ List.mem_cons_self)
    have pI := I4.pin (It, oi) (List.mem_append_right _ (List.mem_cons_of_mem _ List.mem_cons_self))
    have I5 : Inv X pins σ H' s2 := I4.pins_of fun q hq => I4.pin q (List.mem_append_right _ (List.mem_cons_of_mem _ (List.mem_cons_of_mem _ hq)))
    have gS : FpOk X pins H' S := ⟨pS.2.1, fS.2.1, fS.2.2.1, fS.2.2.2.1, fS.2.2.2.2.1, fS.2.2.2.2.2⟩
    have gI : FpOk X pins H' It := ⟨pI.2.1, fI.2.1, fI.2.2.1, fI.2.2.2.1, fI.2.2.2.2.1, fI.2.2.2.2.2⟩
    show wpAny _ X.A.in1 (updateSeq S (fun _ => #[.ref q]) >>= _) _ _ _
    refine wpAny_bind (wpAny_updateSeq pS.1 rfl ?_)
    have hS₂ := Heap.get?_update_self (Obj.mapSeq fun _ => #[Value.ref q]) pS.1 rfl
    refine wpAny_bind (wpAny_letGo ?_)
    refine wpAny_bind (wpAny_updateSeq hS₂ rfl (wpAny_pure ⟨plainId_quiet F.plain_sum_loop _, ?_⟩))
    have hS₃ := Heap.get?_update_self (Obj.mapSeq fun _ => #[Value.ref q]) hS₂ rfl
    have I6 : Inv X pins σ H' { s2 with heap := (s2.heap.update S (Obj.mapSeq fun _ => #[Value.ref q])).update S (Obj.mapSeq fun _ => #[Value.ref q]) } :=
      I5.turned (s := s2) (it := S) (t' := s2.toks) (fun b ob hb e => (Heap.get?_update_other _ _ (fun z => hb z.symm)).trans ((Heap.get?_update_other _ _ (fun z => hb z.symm)).trans e)) gS.1 gS.2.1 gS.2.2.2.1 gS.2.2.2.2.1 gS.2.2.2.2.2
    refine sumT_loop hh hSI ps zs (dn ++ [p]) (acc ++ z) q H' _ c (Paired.mapP hp fun a b h => hsub _ _ h) (by rw [List.append_assoc]; exact sql_sub hsub hs) hq (by rw [List.length_append]; omega)
      I6 gS gI ?_ hS₃ fun p' H'' s' hs' I' h' => hR p' H'' s' (hsub.tr hs') I' (by rw [List.flatten_cons, ← List.append_assoc]; exact h')
    refine ⟨oi, (Heap.get?_update_other _ _ hSI).trans ((Heap.get?_update_other _ _ hSI).trans pI.1), hci, ?_⟩
    rw [List.length_append]; exact hdi
/-- sum(xs, ()) of a list of tuples -/
def rSumT (K : PySem.W.Frag) : List V → Hp → VK → Prop := fun xs H Q => ∃ (l s0 : Addr) (ps : List Addr) (zs : List (List V)), xs = [.ref l, .ref s0] ∧ SqL K H l (ps.map V.ref) ∧ H s0 = some (.tup []) ∧ Paired (fun p z => H p = some (.tup z)) ps zs ∧ zs.flatten.length ≤ sizeLine ∧
  ∀ p H', Sub H H' → H' p = some (.tup zs.flatten) → Q (.ref p) H'
theorem cr_sumT (hc : X.calm = true) : CallR X (.builtin "sum") (rSumT X.K) := by
  intro pins s σ H vs us Q I r h
  obtain ⟨l, s0, ps, zs, rfl, hs, h0, hp, hz, q⟩ := h
  obtain ⟨its, rv, hl, _⟩ := I.list hs
  have hT : ∀ h' : Heap, (∀ b o, s.heap.get? b = some o → h'.get? b = some o) → Shared.TypeIs { s with heap := h' } (.ref s0) "tuple" := fun h' k => by
    obtain ⟨its, _, ⟨o, ho, hc, _⟩, _⟩ := I.tuple (a := s0) (xs := []) (.inl (.inl h0))
    exact ⟨o, k _ _ ho, hc⟩
  cases r with
  | cons r1 r =>
  cases r with
  | cons r2 r =>
  cases r
  cases r1
  cases r2
  refine call_function_tree F.kind_sum F.plain_sum F.entry_sum (args_sumT _ _) ?_
  unfold Builtin.«sum»
  simp only [List.length_cons, List.length_nil]
  rw [if_neg (by decide)]
  refine wpAny_bind (wpAny_of_eq (show Builtin.Builtins.bindParams "sum" ["start"] 0 ⟨[.ref s0], []⟩ = pure [some (.ref s0)] from rfl) ?_)
  refine wpAny_bind (wpAny_pyIter_list hl.isList ?_)
  refine wpAny_bind (wpAny_pure ?_)
  have k1 : ∀ b o, s.heap.get? b = some o → (s.heap.push { cls := .type "list_iterator", data := .fields #[.ref l, .int 0 0] }).get? b = some o := fun b o e => Heap.get?_push_of_some _ e
  simp only [List.forIn_cons, List.forIn_nil]
  refine wpAny_bind (wpAny_bind (wpAny_bind (wpAny_isInstance (T := "tuple") (b := false) (hT _ k1) sub_tuple_str' ?_)))
  simp only [Bool.false_eq_true, if_false]
  refine wpAny_pure (wpAny_bind (wpAny_bind (wpAny_isInstance (T := "tuple") (b := false) (hT _ k1) sub_tuple_bytes' ?_)))
  simp only [Bool.false_eq_true, if_false]
  refine wpAny_pure (wpAny_bind (wpAny_bind (wpAny_isInstance (T := "tuple") (b := false) (hT _ k1) sub_tuple_bytearray ?_)))
  simp only [Bool.false_eq_true, if_false]
  refine wpAny_pure (wpAny_pure ?_)
  refine wpAny_bind (wpAny_newObj_type ?_)
  have I1 : Inv X pins σ H { s with heap := (s.heap.push { cls := .type "list_iterator", data := .fields #[.ref l, .int 0 0] }).push (stO s0 0) } := I.kept (t' := s.toks) fun b o e => Heap.get?_push_of_some _ (k1 b o e)
  have z0 : (s.heap.push { cls := .type "list_iterator", data := .fields #[.ref l, .int 0 0] }).objs.size = s.heap.objs.size + 1 := by simp [Heap.push]
  have hne : (s.heap.push { cls := .type "list_iterator", data := .fields #[.ref l, .int 0 0] }).objs.size ≠ s.heap.objs.size := by rw [z0]; omega
  have fI : FpOk X pins H s.heap.objs.size := I.fpOk (Nat.le_refl _) (I.hok.fresh (Nat.le_refl _))
  have fS : FpOk X pins H (s.heap.push { cls := .type "list_iterator", data := .fields #[.ref l, .int 0 0] }).objs.size := I.fpOk (by omega) (I.hok.fresh (by omega))
  refine wpAny_pure ⟨plainId_quiet F.plain_sum_loop _, sumT_loop (X := X) (pins := pins) (σ := σ) (I.ok.hd hc) hne ps zs [] [] s0 H _ 0 hp hs h0 (by simpa using hz) I1 fS fI ⟨_, Heap.get?_push_of_some _ (Heap.get?_push_size _ rfl), rfl, rfl⟩ (Heap.get?_push_size _ rfl) fun p H' s' hs' I' h' => ?_⟩
  exact ⟨.ref p, H', I', rfl, q p H' hs' h'⟩
end
end Fz

/-! ## FzT -/
set_option Elab.async false
set_option linter.all false
set_option maxRecDepth 100000
set_option maxHeartbeats 2000000
set_option autoImplicit false
/-! FzT: dicts with tuples of ints as keys; tuple * 1. -/
namespace Fz
open PySem L2
open Sem (wp)
theorem tuple_mulW1 (l : Addr) (items : Array Value) (n : Nat) (dd : Option Addr) (sl : Array (Option Value)) (u : Tok) :
    Meets (Builtin.«tuple.__mul__» ⟨[.ref l, .int 1 u], []⟩) (fun _ R s => s.heap.get? l = some { cls := .type "tuple", dict := dd, data := .seq items n, slots := sl } ∧ R (.ok (.ret (Value.ref l))) s) :=
  .of_wp fun prog w A R s h => by
    obtain ⟨hp, g, d, tk, os⟩ := s
    obtain ⟨hl, h⟩ := h
    have f1 := AutoSeq1.idx_int
    have c1 : (items.isEmpty || (1 : Int) == 1) = true := by simp
    wp_walk using wpAny_loadPart' hl
    repeat (first
      | (refine wpAny_ite_true (decide_eq_true c1) ?_; wp_walk using wpAny_loadPart' hl)
      | (refine wpAny_ite_false (by decide) ?_; wp_walk using wpAny_loadPart' hl)
      | (wp_step))
    all_goals first | exact ⟨_, rfl, h⟩ | skip

def rRepT1 (K : PySem.W.Frag) : R2 := fun x y H Q => ∃ l k xs, x = .ref l ∧ y = .int k ∧ SqT K H l xs ∧ xs ≠ [] ∧ ((k = 1 ∧ Q (.ref l) H) ∨ (2 ≤ k ∧ k ≤ 1000 ∧ xs.length ≤ 1000 ∧ ∀ p, H p = none → Q (.ref p) (upd H p (.tup (List.replicate k.toNat xs).flatten))))
theorem op_repT1 {X : Cx} : OpR X (binaryOp .Mult) (rRepT1 X.K) := by
  intro pins s σ H x y v u Q I rx ry h
  obtain ⟨l, k, xs, rfl, rfl, hT, hne, ⟨rfl, q⟩ | ⟨h1, h2, hz, q⟩⟩ := h
  · cases rx
    obtain ⟨t, rfl⟩ := ry
    obtain ⟨its, r, ⟨⟨cls, dd, data, sl⟩, ho, hc, n, hd⟩, hs⟩ := I.tuple hT
    simp only at hc hd
    subst hc hd
    refine wpAny_binaryOp_repeat_ref (T := "tuple") (U := "int") (by decide) ⟨_, ho, rfl⟩ (fun s' => typeIs_int s' 1 t) noFill_tuple_mul F.fills_int_mul F.slot_int_rmul repeat_tuple F.slot_int_index.lookup
      (call_meets F.slot_int_rmul (typeIs_int s 1 t) F.entry_int_rmul (F.args_int_rmul_2 _ _) (int_rmul_tuple 1 t l its.toArray n dd sl)
        ⟨ho, rfl, ⟨_, ho, rfl⟩, call_meets F.slot_tuple_mul ⟨_, ho, rfl⟩ F.entry_tuple_mul (F.args_tuple_mul_2 _ _) (tuple_mulW1 l its.toArray n dd sl t) ⟨ho, ?_⟩⟩)
    exact ⟨.ref l, H, I, rfl, q⟩
  · exact op_repT pins s σ H _ _ v u Q I rx ry ⟨l, k, xs, rfl, rfl, hT, hne, h1, h2, hz, q⟩

/-! ### a display of one pair -/
def tDispT (tk tv : TE) : TE := fun σ H Q => ∀ p, H p = none → tPairs [(tk, tv)] σ (upd H p (.dT [])) fun ps H2 => ∃ b k y, ps = [(V.ref b, y)] ∧ H2 b = some (.tup (k.map kV)) ∧ H2 p = some (.dT []) ∧ Q (.ref p) (upd H2 p (.dT [(k, y)]))
theorem pe_dispT {X : Cx} {pos : Pos} {k v : Expr} {tk tv : TE} (hu : X.A.units + 1 < cLine) (hk : PE X k tk) (hv : PE X v tv) : PE X (.Dict [some k] [v] pos) (tDispT tk tv) := by
  refine ⟨fun pins s σ H Q I q => ?_⟩
  have hn := I.hok.fresh (Nat.le_refl s.heap.objs.size)
  have I1 := I.laid (a := s.heap.objs.size) (o := .dT []) (h' := s.heap.push { cls := .type "dict", data := .dict #[] }) (t' := s.toks) (fun _ _ q => Heap.get?_push_of_some _ q) (Nat.le_refl _) (dt_empty s.heap I.big)
  rw [arm_eval_Dict, zip_pairTrees [some k] [v] X.env pos rfl rfl, dictDisplay_pairs (pairTrees [some k] [v] X.env pos) (fun z => nomatch z) (by show (1 : Nat) < 17; decide)]
  refine wpAny_bind (wpAny_standAt (wpAny_bind (wpAny_subDictH (knd := tupleKind (mixKind X.prog X.w)) (show X.A.units < cLine by omega) (by show (1 : Nat) ≤ 15; decide) ?_)))
  refine thn ((pps_cons hk hv (pps_nil (X := X) (pos := pos))).run pins { s with heap := s.heap.push { cls := .type "dict", data := .dict #[] } } σ _ (fun ps H2 => ∃ b k y, ps = [(.ref b, y)] ∧ H2 b = some (.tup (k.map kV)) ∧ H2 s.heap.objs.size = some (.dT []) ∧ Q (.ref s.heap.objs.size) (upd H2 s.heap.objs.size (.dT [(k, y)]))) I1
    (q _ hn)) fun ws s2 ⟨ps, H2, I2, rel, b, kk, y, ep, hb, hd, q2⟩ => ?_
  subst ep
  cases rel with
  | @cons _ w2 _ ws hw rel =>
  cases rel
  obtain ⟨w1, w2⟩ := w2
  obtain ⟨hw1, hw2⟩ := hw
  obtain rfl : w1 = Value.ref b := hw1
  obtain ⟨z, hds, xs, rel, dd⟩ := dt_of I2.hok hd
  cases rel
  refine ⟨[(kk, b, w2)], ⟨rfl, rfl, key_of I2.hok hb, True.intro⟩, dd, fun h' tk dd' hs => wpAny_pure ?_⟩
  obtain ⟨q, es, ep, hq, h2, h3, h4, _, h5⟩ := dd'
  refine ⟨.ref s.heap.objs.size, _, d_write (ob := .dT [(kk, y)]) I2 (by rw [hd]; exact True.intro) hs ⟨q, hq⟩ ⟨by show (1 : Nat) ≤ sizeLine; decide, hds, [(kk, b, w2)], .cons ⟨rfl, ?_, hw2⟩ .nil, q, es, ep, hq, h2, h3, h4, h5⟩, rfl, q2⟩
  show upd H2 _ _ b = _
  rw [upd_ne (ne_of hb hd (fun z => nomatch z))]
  exact hb
end Fz

/-! ## FzU -/
set_option Elab.async false
set_option linter.all false
set_option maxRecDepth 100000
set_option maxHeartbeats 2000000
set_option autoImplicit false
/-! FzU: owned dicts (keys tuples of ints, values ints). -/
namespace Fz
open PySem L2
abbrev Tab := List (List Int × Int)
def keyK (k : List Int) : List Key := k.map Sum.inl
def tabV (t : Tab) : List (List Key × V) := t.map fun x => (keyK x.1, V.int x.2)
def tupD (k : List Int) : PyData := .tuple (k.map PyData.int)
def getT (t : Tab) (k : List Int) : Option Int := (t.find? fun x => decide (x.1 = k)).map (·.2)
def putT (t : Tab) (k : List Int) (z : Int) : Tab := if (t.any fun x => decide (x.1 = k)) = true then t.map fun x => if x.1 = k then (x.1, z) else x else t ++ [(k, z)]
theorem keyK_inj : ∀ {a b : List Int}, keyK a = keyK b → a = b
  | [], [], _ => rfl
  | [], _ :: _, h => by cases h
  | _ :: _, [], h => by cases h
  | a :: as, b :: bs, h => by
    unfold keyK at h
    rw [List.map_cons, List.map_cons] at h
    injection h with h1 h2
    rw [Sum.inl.inj h1, keyK_inj h2]
theorem keyK_dec (a b : List Int) : decide (keyK a = keyK b) = decide (a = b) := by
  by_cases h : a = b
  · subst h; simp
  · rw [decide_eq_false h, decide_eq_false fun z => h (keyK_inj z)]
theorem val_tab (k : List Int) : ∀ t : Tab, valV (tabV t) (keyK k) = (getT t k).map V.int
  | [] => rfl
  | x :: t => by
    by_cases h : x.1 = k
    · have e1 : valV (tabV (x :: t)) (keyK k) = some (.int x.2) := valV_pos (by show keyK x.1 = keyK k; rw [h])
      have e2 : getT (x :: t) k = some x.2 := by unfold getT; rw [List.find?_cons, decide_eq_true h]; rfl
      rw [e1, e2]; rfl
    · have e1 : valV (tabV (x :: t)) (keyK k) = valV (tabV t) (keyK k) := valV_neg fun z => h (keyK_inj z)
      have e2 : getT (x :: t) k = getT t k := by unfold getT; rw [List.find?_cons, decide_eq_false h]
      rw [e1, e2]; exact val_tab k t
theorem any_tab (k : List Int) : ∀ t : Tab, ((tabV t).any fun kv => decide (kv.1 = keyK k)) = t.any fun x => decide (x.1 = k)
  | [] => rfl
  | x :: t => by
    show (decide (keyK x.1 = keyK k) || (tabV t).any fun kv => decide (kv.1 = keyK k)) = (decide (x.1 = k) || t.any fun x => decide (x.1 = k))
    rw [any_tab k t, keyK_dec]
theorem put_tab (t : Tab) (k : List Int) (z : Int) : putK (tabV t) (keyK k) (.int z) = tabV (putT t k z) := by
  unfold putK putT
  rw [any_tab]
  split
  · unfold tabV
    rw [List.map_map, List.map_map]
    refine List.map_congr_left fun x _ => ?_
    show (if keyK x.1 = keyK k then (keyK x.1, V.int z) else (keyK x.1, V.int x.2)) = (keyK (if x.1 = k then (x.1, z) else x).1, V.int (if x.1 = k then (x.1, z) else x).2)
    by_cases h : x.1 = k
    · rw [if_pos (by rw [h]), if_pos h]
    · rw [if_neg fun e => h (keyK_inj e), if_neg h]
  · unfold tabV
    rw [List.map_append]; rfl
theorem keyV_of {K : PySem.W.Frag} {F : Hp} {vs : List V} {k : List Int} (h : DqAll K F vs (k.map PyData.int)) : vs = (keyK k).map kV := by
  rw [dpa_int_inv h]
  unfold keyK
  rw [List.map_map]; rfl
theorem keyV_dp {K : PySem.W.Frag} {F : Hp} (k : List Int) : DqAll K F ((keyK k).map kV) (k.map PyData.int) := by
  have e : (keyK k).map kV = k.map V.int := by unfold keyK; rw [List.map_map]; rfl
  rw [e]; exact dpa_ints k
section
variable {B : Bg} {ε ε' : Eps} {L L' La Lb Lc : Own} {te ta tb td ty tx tv : TE} {a : AD} {D : Ends} {tas : TA} {ts tc : TS} {g : TG} {p : Addr} {t : Tab} {kk : Nat}
def dT (t : Tab) : HO := .dT (tabV t)
theorem tab_key {F : Hp} {v : V} {k : List Int} (h : (AD.d (tupD k)).ok B.K F v) : ∃ b, v = .ref b ∧ F b = some (.tup ((keyK k).map kV)) := by
  obtain ⟨b, vs, e, h1, h2⟩ := tup_inv h
  rw [keyV_of h2] at h1
  exact ⟨b, e, h1⟩
theorem Rep.tab {F : Hp} {σ : St} {H : Hp} {o : HO} (r : Rep B ε L F σ H) (hk : L[kk]? = some (.raw p o)) : H p = some o := (r.own _ (List.mem_of_getElem? hk)).1
/-- a tuple that stands in the heap is known -/
theorem Rep.adopt {F : Hp} {σ : St} {H : Hp} (r : Rep B ε L F σ H) {q : Addr} {xs : List V} (h : H q = some (.tup xs)) : ∃ F', Sub F F' ∧ F' q = some (.tup xs) ∧ Rep B ε L F' σ H := by
  cases e : F q with
  | some o =>
    have := r.sub q o e
    rw [h] at this; cases this
    exact ⟨F, Sub.rfl' F, e, r⟩
  | none =>
    have sF : Sub F (upd F q (.tup xs)) := sub_fresh e
    refine ⟨upd F q (.tup xs), sF, upd_same, fun a o z => ?_, fun m hm => (r.own m hm).subF sF, fun x hx => ?_, r.nd, fun k x z => ?_, r.len, r.f0.tr sF, r.h0, fun a g1 g2 => ?_, r.mm⟩
    · by_cases c : a = q
      · subst c; rw [upd_same] at z; cases z; exact h
      · rw [upd_ne c] at z; exact r.sub a o z
    · have ne : x ≠ q := fun c => r.noT hx (c ▸ h)
      exact ⟨by rw [upd_ne ne]; exact (r.off x hx).1, (r.off x hx).2⟩
    · obtain ⟨s, q1, q2⟩ := r.sl k x z
      exact ⟨s, q1, q2.sub sF⟩
    · by_cases c : a = q
      · subst c
        by_cases hm : a ∈ B.M
        · exact absurd h fun h => r.noT (r.mm a hm) h
        · cases e0 : B.H0 a with
          | none => exact absurd e0 g2
          | some o =>
            have := r.h0 a o hm e0
            rw [h] at this; cases this
            exact .inr ⟨xs, rfl⟩
      · rw [upd_ne c]; exact r.nc a g1 g2
/-- a new object, owned -/
def EXr (B : Bg) (te : TE) (ε : Eps) (L : Own) (o : HO) (L' : Own) : Prop := ∀ F σ H, Rep B ε L F σ H → ∀ Q : VK, (∀ p F' H', Sub F F' → p ∉ B.M → Rep B ε (.raw p o :: L') F' σ H' → Q (.ref p) H') → te σ H Q
theorem noT_dT {t : List (List Key × V)} : ∀ xs, HO.dT t ≠ .tup xs := fun _ z => nomatch z
theorem exr_newT : EXr B tDNewT ε L (.dT (tabV [])) L := fun F σ H r Q q => fun p hp => q p F _ (Sub.rfl' F) (r.newM hp) (r.alloc hp rfl ⟨upd_same, noT_dT⟩)
theorem x_setR {i : Nat} {o : HO} (h : EXr B te ε L o La) (k : ∀ p, p ∉ B.M → Ho B D.nx (ε.set i (some (.v (.ref p)))) (.raw p o :: La)) : Ho B (tAsg te (gName i) D) ε L := fun F σ H r =>
  h F σ H r _ fun p F1 H1 _ hp r1 => k p hp F1 _ H1 (r1.slot (a := .v (.ref p)) rfl)
theorem x_parR {i j : Nat} {o : HO} (h : EXr B ta ε L o La) (h2 : ∀ p, EX B tb ε (.raw p o :: La) a (.raw p o :: Lb)) (k : ∀ p, p ∉ B.M → Ho B D.nx ((ε.set i (some (.v (.ref p)))).set j (some a)) (.raw p o :: Lb)) : Ho B (tPar i j (tCons ta (tCons tb tNil)) D) ε L := fun F σ H r =>
  h F σ H r _ fun p F1 H1 s1 hp r1 => h2 p F1 σ H1 r1 _ fun v F2 H2 s2 r2 o2 => ⟨.ref p, v, rfl, k p hp F2 _ H2 ((r2.slot (a := .v (.ref p)) rfl).slot o2)⟩
theorem exr_disp {k : List Int} {z : Int} (hk : ∀ p, EX B ty ε (.raw p (.dT []) :: L) (.d (tupD k)) (.raw p (.dT []) :: La)) (hv : ∀ p, EX B tv ε (.raw p (.dT []) :: La) (.d (.int z)) (.raw p (.dT []) :: Lb)) : EXr B (tDispT ty tv) ε L (.dT (tabV [(k, z)])) Lb := fun F σ H r Q q => fun p hp =>
  hk p F σ _ (r.alloc hp rfl ⟨upd_same, noT_dT⟩) _ fun v F1 H1 s1 r1 o1 => hv p F1 σ H1 r1 _ fun w F2 H2 s2 r2 o2 => by
    obtain ⟨b, rfl, hb⟩ := tab_key o1
    have ew : w = .int z := int_inv o2
    subst ew
    have hp2 := r2.tab (kk := 0) rfl
    refine ⟨b, keyK k, .int z, rfl, r2.sub _ _ (s2 _ _ hb), hp2, q p F2 _ (s1.tr s2) (r.newM hp) ?_⟩
    exact r2.chg (k := 0) (m' := .raw p (.dT (tabV [(k, z)]))) rfl rfl ⟨upd_same, noT_dT⟩ fun a o hq e => lst_ne hq e
theorem ex_dget2 {k : List Int} {z : Int} (hd : EX B td ε L (.v (.ref p)) La) (hy : EX B ty ε La (.d (tupD k)) Lb) (hx : EX B tx ε Lb (.d (.int z)) Lc) (hka : ∃ (j : Nat) (kvs : _), La[j]? = some (.raw p (.dT kvs))) (hk : Lc[kk]? = some (.raw p (.dT (tabV t)))) : EX B (tDGet2 td ty tx) ε L (.d (.int ((getT t k).getD z))) Lc := fun F σ H r Q q =>
  hd F σ H r _ fun v F1 H1 s1 r1 o1 => by
    have ev : v = .ref p := o1
    subst ev
    obtain ⟨j, kvs, hj⟩ := hka
    refine ⟨p, rfl, .inr ⟨kvs, .inl (r1.tab hj)⟩, hy F1 σ H1 r1 _ fun w F2 H2 s2 r2 o2 => hx F2 σ H2 r2 _ fun u F3 H3 s3 r3 o3 => ?_⟩
    obtain ⟨b, rfl, hb⟩ := tab_key o2
    have eu : u = .int z := int_inv o3
    subst eu
    refine ⟨valV (tabV t) (keyK k), DGet.t (r3.tab hk) (r3.sub _ _ (s3 _ _ hb)), ?_⟩
    have e : (valV (tabV t) (keyK k)).getD (.int z) = .int ((getT t k).getD z) := by
      rw [val_tab]; cases getT t k <;> rfl
    rw [e]
    exact q _ F3 H3 ((s1.tr s2).tr s3) r3 (.int _)
/-- d[k], the dict at hand or locked -/
theorem ex_dget {k : List Int} {z : Int} (hd : EX B td ε L (.v (.ref p)) La) (hy : EX B ty ε La (.d (tupD k)) Lb) (hk : Lb[kk]? = some (.raw p (.dT (tabV t))) ∨ ∃ od, Lb[kk]? = some (.raw p (.frz od (.dT (tabV t))))) (hz : getT t k = some z) : EX B (tDGet td ty) ε L (.d (.int z)) Lb := fun F σ H r Q q =>
  hd F σ H r _ fun v F1 H1 s1 r1 o1 => hy F1 σ H1 r1 _ fun w F2 H2 s2 r2 o2 => by
    have ev : v = .ref p := o1
    subst ev
    obtain ⟨b, rfl, hb⟩ := tab_key o2
    have rd : Rd H2 p (.dT (tabV t)) := by
      rcases hk with h | ⟨od, h⟩
      · exact .inl (r2.tab h)
      · exact .inr ⟨od, r2.tab h⟩
    refine ⟨p, .int z, rfl, .inr ⟨tabV t, keyK k, b, rd, rfl, r2.sub _ _ hb, ?_⟩, q _ F2 H2 (s1.tr s2) r2 (.int _)⟩
    rw [val_tab, hz]; rfl
theorem x_dput {k : List Int} {z : Int} (hv : EX B tv ε L (.d (.int z)) La) (hd : EX B td ε La (.v (.ref p)) Lb) (hy : EX B ty ε Lb (.d (tupD k)) Lc) (hk : Lc[kk]? = some (.raw p (.dT (tabV t)))) (hl : t.length < 100000)
    (q : Ho B D.nx ε (Lc.set kk (.raw p (.dT (tabV (putT t k z)))))) : Ho B (sDPut td ty tv D) ε L := fun F σ H r =>
  hv F σ H r _ fun u F1 H1 s1 r1 o1 => hd F1 σ H1 r1 _ fun v F2 H2 s2 r2 o2 => hy F2 σ H2 r2 _ fun w F3 H3 s3 r3 o3 => by
    have eu : u = .int z := int_inv o1
    have ev : v = .ref p := o2
    subst eu ev
    obtain ⟨b, rfl, hb⟩ := tab_key o3
    have hl' : (tabV t).length < sizeLine := Evl.sz_lt (by unfold tabV; rw [List.length_map]; exact hl)
    refine ⟨p, _, rfl, DPut.t (r3.tab hk) (r3.sub _ _ hb) hl', ?_⟩
    rw [put_tab]
    exact q F3 σ _ (r3.chg (m' := .raw p (.dT (tabV (putT t k z)))) hk rfl ⟨upd_same, noT_dT⟩ fun a o hq e => lst_ne hq e)
/-- for k in d, the dict locked -/
theorem x_forD (hk : L[kk]? = some (.raw p (.dT (tabV t)))) (h : ∀ od, EX B te ε (L.set kk (.raw p (.frz od (.dT (tabV t))))) (.v (.ref p)) (L.set kk (.raw p (.frz od (.dT (tabV t))))))
    (I : Obj → Nat → Eps → Own → Prop) (h0 : ∀ od, I od 0 ε (L.set kk (.raw p (.frz od (.dT (tabV t)))))) (hl : ∀ od i ε' L', I od i ε' L' → L'[kk]? = some (.raw p (.frz od (.dT (tabV t)))))
    (hs : ∀ od i k z ε' L', t[i]? = some (k, z) → I od i ε' L' → ∃ ε'', GT B g (.d (tupD k)) ε' ε'' ∧ ∀ D' : Ends, D'.nx = AbsP B (I od (i + 1)) → Ho B (tc D') ε'' L')
    (hd : ∀ od ε' L', I od t.length ε' L' → Ho B D.nx ε' (L'.set kk (.raw p (.dT (tabV t))))) : Ho B (tLock (tFor (iKeys te) g tc) D) ε L := fun F σ H r => by
  refine ⟨p, .dT (tabV t), r.tab hk, True.intro, fun od => ?_⟩
  have r0 : Rep B ε (L.set kk (.raw p (.frz od (.dT (tabV t))))) F σ (upd H p (.frz od (.dT (tabV t)))) := r.chg (m' := .raw p (.frz od (.dT (tabV t)))) hk rfl ⟨upd_same, fun _ z => nomatch z⟩ fun a o hq e => lst_ne hq e
  refine h od F σ _ r0 _ fun v F1 H1 s1 r1 o1 => ?_
  have ev : v = .ref p := o1
  subst ev
  refine ⟨p, od, rfl, .inr ⟨tabV t, r1.tab (hl _ _ _ _ (h0 od)), ?_⟩⟩
  refine ⟨fun i m σ' H' => m = t.length - i ∧ i ≤ t.length ∧ AbsP B (I od i) σ' H', ⟨_, rfl, Nat.zero_le _, ε, _, F1, h0 od, r1⟩, ?_⟩
  rintro i m σ' H' ⟨rfl, hi, ε', L', F', hI, r'⟩
  have hp' := r'.tab (hl _ _ _ _ hI)
  have tl : (tabV t).length = t.length := by unfold tabV; rw [List.length_map]
  by_cases hlt : i < t.length
  · obtain ⟨x, hx⟩ : ∃ x, t[i]? = some x := ⟨_, List.getElem?_eq_getElem hlt⟩
    obtain ⟨k, z⟩ := x
    obtain ⟨ε'', hg, hb⟩ := hs od i k z ε' L' hx hI
    refine .inr ⟨⟨hp', by rw [tl]; exact hlt⟩, AbsP B (I od (i + 1)), fun σ2 H2 hN => ⟨t.length - (i + 1), by omega, rfl, hlt, hN⟩, fun x H2 hy => ?_⟩
    obtain ⟨rfl, k', v', b, e1, rfl, hb'⟩ := hy
    have e2 : (tabV t)[i]? = some (keyK k, .int z) := by unfold tabV; rw [List.getElem?_map, hx]; rfl
    rw [e2] at e1
    cases e1
    obtain ⟨F2, s2, f2, r2⟩ := r'.adopt hb'
    exact hg L' F2 σ' _ _ r2 (.tup f2 (keyV_dp k)) _ fun σ3 r3 => hb _ rfl F2 σ3 _ r3
  · have ei : i = t.length := by omega
    subst ei
    refine .inl ⟨⟨hp', by rw [tl]; exact Nat.le_refl _⟩, hp', ?_⟩
    exact hd od _ _ hI F' σ' _ (r'.chg (m' := .raw p (.dT (tabV t))) (hl _ _ _ _ hI) rfl ⟨upd_same, noT_dT⟩ fun a o hq e => lst_ne hq e)
/-- sum(xs, ()) -/
theorem tups_of {K : PySem.W.Frag} {F : Hp} : ∀ {zs : List (List Int)} {vs : List V}, DqAll K F vs (zs.map tupD) → ∃ ps : List Addr, vs = ps.map V.ref ∧ Paired (fun p z => F p = some (.tup z)) ps (zs.map fun z => (keyK z).map kV)
  | [], _, h => by cases h; exact ⟨[], rfl, .nil⟩
  | z :: zs, _, h => by
    cases h with
    | cons a b =>
      cases a with
      | tup a1 a2 =>
        obtain ⟨ps, rfl, h2⟩ := tups_of b
        rw [keyV_of a2] at a1
        exact ⟨_ :: ps, rfl, .cons a1 h2⟩
theorem flat_keys : ∀ zs : List (List Int), (zs.map fun z => (keyK z).map kV).flatten = (keyK zs.flatten).map kV
  | [] => rfl
  | z :: zs => by
    rw [List.map_cons, List.flatten_cons, flat_keys zs, List.flatten_cons]
    unfold keyK
    rw [List.map_append, List.map_append]
theorem ex_sumT {zs : List (List Int)} {x : AD} (h : EX B te ε L x La) (h2 : EX B ta ε La (.d (.tuple [])) Lb) (hx : IsL Lb x (zs.map tupD)) (hz : zs.flatten.length ≤ 100000) : EX B (tCB (rSumT B.K) (tCons te (tCons ta tNil))) ε L (.d (tupD zs.flatten)) Lb := fun F σ H r Q q =>
  h F σ H r _ fun v F1 H1 s1 r1 o1 => h2 F1 σ H1 r1 _ fun w F2 H2 s2 r2 o2 => by
    obtain ⟨pl, vs, rfl, g1, g2⟩ := hx.get r2 (o1.sub s2)
    obtain ⟨s0, ws, rfl, g3, g4⟩ := tup_inv o2
    cases g4
    obtain ⟨ps, rfl, g5⟩ := tups_of g2
    refine ⟨pl, s0, ps, _, rfl, g1, r2.sub _ _ g3, Paired.mapP g5 fun a b e => r2.sub _ _ e, ?_, fun p H' sH hp => ?_⟩
    · rw [flat_keys]; unfold keyK; rw [List.length_map, List.length_map]; exact Evl.sz_of hz
    · rw [flat_keys] at hp
      obtain ⟨F3, s3, f3, r3⟩ := (r2.heap sH).adopt hp
      exact q _ F3 H' ((s1.tr s2).tr s3) r3 (.tup f3 (keyV_dp _))
/-- t * n of a tuple of one -/
theorem ex_rep1 {ds : List PyData} {n : Int} (ha : EX B ta ε L (.d (.tuple ds)) La) (hb : EX B tb ε La (.d (.int n)) Lb) (hne : ds ≠ []) (hl : ds.length ≤ 1000) (hn : 1 ≤ n ∧ n ≤ 1000) : EX B (tOp (rRepT1 B.K) ta tb) ε L (.d (.tuple (List.replicate n.toNat ds).flatten)) Lb := ex_op ha hb fun F σ H v w rp hv hw Q q => by
  obtain ⟨p, vs, rfl, h1, h2⟩ := tup_inv hv
  have hne' : vs ≠ [] := fun e => by
    have := dpa_len h2
    rw [e] at this
    exact hne (List.eq_nil_of_length_eq_zero this.symm)
  refine ⟨p, n, vs, rfl, int_inv hw, tq_sub rp.sub h1, hne', ?_⟩
  by_cases c : n = 1
  · subst c
    refine .inl ⟨rfl, q _ F H (Sub.rfl' F) rp (.tup h1 ?_)⟩
    have e : (List.replicate (1 : Int).toNat ds).flatten = ds := by simp
    rw [e]; exact h2
  · refine .inr ⟨by omega, hn.2, by rw [dpa_len h2]; exact hl, fun n' hn' => ?_⟩
    have hF := sub_none rp.sub hn'
    refine q _ _ _ (sub_fresh hF) (rp.grow hn') (.tup upd_same (dpa_sub (sub_fresh hF) ?_))
    have : ∀ m : Nat, DqAll B.K F (List.replicate m vs).flatten (List.replicate m ds).flatten := fun m => by
      induction m with
      | zero => exact .nil
      | succ m ih => rw [List.replicate_succ, List.replicate_succ, List.flatten_cons, List.flatten_cons]; exact dpa_app h2 ih
    exact this _
/-! #### a def that makes a dict of a dict -/
def spTab (K : PySem.W.Frag) (R : Tab → Int → Int → Tab → Prop) : Sp := fun vs H Q _ => ∃ (p : Addr) (t : Tab) (n m : Int) (u : Tab), vs = [.ref p, .int n, .int m] ∧ H p = some (.dT (tabV t)) ∧ R t n m u ∧
  ∀ pf H', Sub H H' → H pf = none → H' pf = some (.dT (tabV u)) → Q (.ref pf) H'
theorem Rep.madeR {F : Hp} {σ : St} {H H' : Hp} {pf : Addr} {o : HO} (r : Rep B ε L F σ H) (s : Sub H H') (h1 : H pf = none) (h2 : H' pf = some o) (h3 : ∀ xs, o ≠ .tup xs) : Rep B ε (.raw pf o :: L) F σ H' := by
  have ra := r.alloc (m := .raw pf o) h1 rfl ⟨upd_same, h3⟩
  refine ra.heap fun a u e => ?_
  by_cases c : a = pf
  · subst c; rw [upd_same] at e; cases e; exact h2
  · rw [upd_ne c] at e; exact s a u e
theorem exr_call {R : Tab → Int → Int → Tab → Prop} {E : XK} {n m : Int} {u : Tab} (h : EA B tas ε L [.v (.ref p), .d (.int n), .d (.int m)] La) (hk : La[kk]? = some (.raw p (.dT (tabV t)))) (hR : R t n m u) : EXr B (tCall (spTab B.K R) [] E tas) ε L (.dT (tabV u)) La := fun F σ H r Q q =>
  h F σ H r _ fun vs F1 H1 s1 r1 o1 => by
    match vs, o1 with
    | [v, w, x], o =>
      have e1 : v = .ref p := o.1
      have e2 : w = .int n := int_inv o.2.1
      have e3 : x = .int m := int_inv o.2.2.1
      subst e1 e2 e3
      exact ⟨p, t, n, m, u, rfl, r1.tab hk, hR, fun pf H' s h1 h2 => q pf F1 H' s1 (r1.newM h1) (r1.madeR s h1 h2 noT_dT)⟩
/-- the dict made for the call is forgotten -/
theorem exr_callD {R : Tab → Int → Int → Tab → Prop} {E : XK} {n m : Int} {u : Tab} {tr : TA} (hd : EXr B td ε L (.dT (tabV t)) La) (h : ∀ p, EA B tr ε (.raw p (.dT (tabV t)) :: La) [.d (.int n), .d (.int m)] (.raw p (.dT (tabV t)) :: Lb)) (hR : R t n m u) :
    EXr B (tCall (spTab B.K R) [] E (tCons td tr)) ε L (.dT (tabV u)) Lb := fun F σ H r Q q =>
  hd F σ H r _ fun p F1 H1 s1 hp r1 => h p F1 σ H1 r1 _ fun vs F2 H2 s2 r2 o2 => by
    match vs, o2 with
    | [w, x], o =>
      have e2 : w = .int n := int_inv o.1
      have e3 : x = .int m := int_inv o.2.1
      subst e2 e3
      refine ⟨p, t, n, m, u, rfl, r2.tab (kk := 0) rfl, hR, fun pf H' s h1 h2 => q pf F2 H' (s1.tr s2) (r2.newM h1) ?_⟩
      have r3 := r2.madeR s h1 h2 noT_dT
      exact r3.drop (k := 1) rfl fun x hx => by rw [List.mem_singleton.mp hx]; exact hp
theorem Rep.freeze {F : Hp} {σ : St} {H : Hp} (r : Rep B ε L F σ H) {k : Nat} {q : Addr} {ds : List PyData} (hk : L[k]? = some (.lst q ds)) (hq : q ∉ B.M) : ∃ F', Sub F F' ∧ Dq B.K F' (.ref q) (.list ds) ∧ Rep B ε (L.eraseIdx k) F' σ H := by
  obtain ⟨vs, h1, h2⟩ := r.own _ (List.mem_of_getElem? hk)
  have of := r.off q (mem_fps (List.mem_of_getElem? hk) List.mem_cons_self)
  have h0 : B.H0 q = none := of.2.resolve_left hq
  have sF : Sub F (upd F q (.lst vs)) := sub_fresh of.1
  have r2 := r.drop hk fun x hx => by rw [List.mem_singleton.mp hx]; exact hq
  have nin : ∀ x ∈ fps (L.eraseIdx k), x ≠ q := fun x hx c => by
    obtain ⟨m, hm, hx⟩ := List.mem_flatMap.mp hx
    rw [List.mem_eraseIdx_iff_getElem?] at hm
    obtain ⟨j, hj, hm⟩ := hm
    subst c
    exact fps_apart r.nd hk hm (Ne.symm hj) x List.mem_cons_self hx
  refine ⟨upd F q (.lst vs), sF, .lst upd_same (dpa_sub sF h2), fun a o z => ?_, fun m hm => (r2.own m hm).subF sF, fun x hx => ?_, r2.nd, fun j x z => ?_, r2.len, r2.f0.tr sF, r2.h0, fun a g1 g2 => ?_, r2.mm⟩
  · by_cases c : a = q
    · subst c; rw [upd_same] at z; cases z; exact h1
    · rw [upd_ne c] at z; exact r.sub a o z
  · exact ⟨by rw [upd_ne (nin x hx)]; exact (r2.off x hx).1, (r2.off x hx).2⟩
  · obtain ⟨s, q1, q2⟩ := r2.sl j x z
    exact ⟨s, q1, q2.sub sF⟩
  · have ne : a ≠ q := fun c => g2 (c ▸ h0)
    rw [upd_ne ne]; exact r2.nc a g1 g2
/-- an owned list will not change any more -/
theorem ex_frzV {i k : Nat} {q : Addr} {ds : List PyData} (h : ε[i]? = some (some (.v (.ref q)))) (hk : L[k]? = some (.lst q ds)) (hq : q ∉ B.M) : EX B (tVar i) ε L (.d (.list ds)) (L.eraseIdx k) := fun F σ H r Q p => by
  obtain ⟨s, h1, y, rfl, h2⟩ := r.sl i _ h
  obtain ⟨F', s', d', r'⟩ := r.freeze hk hq
  have ey : y = .ref q := h2
  subst ey
  exact ⟨_, h1, p _ F' H s' r' d'⟩
end
theorem hu_in {A : Around} {k : Nat} (hr : Room k A) : A.units + 1 < cLine := by have := hr.units; omega
end Fz

/-! ## FzV -/
set_option Elab.async false
set_option linter.all false
set_option maxRecDepth 100000
set_option maxHeartbeats 2000000
set_option autoImplicit false
namespace Fz
open PySem L2
theorem x_par3 {B : Bg} {ε : Eps} {L L1 : Own} {tas : TA} {D : Ends} {i j l : Nat} {a b c : AD} (h : EA B tas ε L [a, b, c] L1) (k : Ho B D.nx (((ε.set i (some a)).set j (some b)).set l (some c)) L1) : Ho B (tPar3 i j l tas D) ε L := fun F σ H r =>
  h F σ H r _ fun vs F1 H1 _ r1 o1 => by
    match vs, o1 with
    | [u, v, w], o => exact ⟨u, v, w, rfl, k F1 _ H1 (((r1.slot o.1).slot o.2.1).slot o.2.2.1)⟩
end Fz

/-! ## FzW -/
set_option Elab.async false
set_option linter.all false
set_option maxRecDepth 100000
set_option maxHeartbeats 2000000
set_option autoImplicit false
/-! FzW: the head, where nothing is under way and nobody sees the audit. -/
namespace Fz
open PySem L2 PySem.Spec PyProof.Rows
/-- what is tracked is a list -/
def AllLists (h : Heap) (H : Hp) : Prop := ∀ b u, H b = some u → ∃ its, h.get? b = some { cls := .type "list", data := .seq its }
section
variable {h : Heap} {H : Hp}
theorem AllLists.off (t : AllLists h H) {b : Addr} {o : Obj} (e : h.get? b = some o) (no : o.cls = .type "list" → ∀ its n, o.data = .seq its n → False) : (hidT h H).get? b = some o := by
  refine hidT_get e ?_
  match hb : H b with
  | none => rfl
  | some u =>
    obtain ⟨its, e2⟩ := t b u hb
    cases e.symm.trans e2
    exact (no rfl _ _ rfl).elim
theorem AllLists.ns (t : AllLists h H) {b : Addr} {m : Str → Option Value} (x : h.Ns b m) : (hidT h H).Ns b m := by
  obtain ⟨o, es, ep, e, d, rest⟩ := x
  exact ⟨o, es, ep, t.off e (fun _ its n z => by rw [d] at z; cases z), d, rest⟩
theorem AllLists.seer (t : AllLists h H) (x : h.NoSeer) : (hidT h H).NoSeer := by
  obtain ⟨⟨m1, p1, q1⟩, ⟨m2, p2, q2⟩, ⟨m3, p3, q3⟩, ⟨m4, bm, ob, p4, q4, g, c, dd⟩⟩ := x
  exact ⟨⟨m1, t.ns p1, q1⟩, ⟨m2, t.ns p2, q2⟩, ⟨m3, t.ns p3, q3⟩, ⟨m4, bm, ob, t.ns p4, q4, t.off g fun z => absurd (Value.type.inj (c.symm.trans z)) (by decide), c, dd⟩⟩
end
/-- the caller's end: what a run of the law's def leaves -/
def Done (s₁ : Shared) (r : Result) (s' : Shared) : Prop := r = .ok (.ret (.bool true)) ∧ OldK s₁.heap s'.heap ∧ s'.os = s₁.os ∧ AllBare s'.gens
section
variable {P : Program} {w : World} {K : PySem.W.Frag} {mg mb : Str → Option Value} {k : Nat} {fa a : Addr} {fd : FuncData} {x : Str} {sp : Sp} {s₁ : Shared}
/-- from a heap in which lists alone are tracked, each known to its object -/
theorem run_G {H : Hp} (inK : K.In s₁.heap) (top : s₁.heap.Ns mainGlobals mg) (blt : s₁.heap.Ns builtinsNs mb) (bltB : ∀ y : Str, y ≠ "__name__" → mb y = bootBuiltins y) (lim : s₁.heap.NoLimit) (seer : s₁.heap.NoSeer) (bare : s₁.gens = #[]) (room : Room k callerA)
    (tl : AllLists s₁.heap H) (out : ∀ b, H b ≠ none → K.lookup b = none) (known : Only H) (good : HOk P w H s₁.heap)
    (F : ∀ base : Heap, K.In base → base.Ns mainGlobals mg → base.NoSeer → GOk P w K mg base k fa fd [x] sp) (bind : BindsTo s₁ fd ⟨[.ref a], []⟩ [(x, .ref a)]) (say : sp [.ref a] H (fun v _ => v = .bl true) E0) :
    codeAny (model P w) callerA (.call (.ref fa) ⟨[.ref a], []⟩) (Done s₁) s₁ := by
  have inH : K.In (hidT s₁.heap H) := fun b o e => hidT_get (inK b o e) (by
    match hb : H b with
    | none => rfl
    | some u => rw [out b (by rw [hb]; exact Option.some_ne_none u)] at e; cases e)
  have limH : (hidT s₁.heap H).NoLimit := by
    obtain ⟨m, p, q⟩ := lim
    exact ⟨m, tl.ns p, q⟩
  have env : Env0 P w K mg (hidT s₁.heap H) callerA [] s₁ H :=
    { frames := rfl, mod := ⟨inH, tl.ns top, ⟨mb, tl.ns blt, bltB⟩, limH⟩, bs := fun b o e => of_hidT e, bsz := by rw [hidT_size]; exact Nat.le_refl _, funs := trivial, frf := (fun b hb => nomatch hb), hok := good, bare := .of_eq bare }
  refine codeAny_mono ((F _ inH (tl.ns top) (tl.seer seer)).run callerA [] s₁ H ⟨[.ref a], []⟩ [.ref a] [.ref a] _ room rfl env bind (.cons rfl .nil) say) fun r s' h => ?_
  match r, h with
  | .ok (.ret u), ⟨v, H', h1, h2, h3, h4, h5, h6⟩ =>
    cases (show v = .bl true from h6)
    cases (show u = Value.bool true from h5)
    refine ⟨rfl, .of_keep fun b o e => ?_, h1, h2⟩
    match hb : H b, known b with
    | none, _ => exact h3.keep b o e hb (fun z => nomatch z) (fun z => nomatch z)
    | some u, .inl z => cases z
    | some u, .inr ⟨ob, xs, z⟩ =>
      have z2 : H b = some (.frz ob (.lst xs)) := hb.trans z
      have now := (h4 b _ (h3.frzs b ob _ z2)).1
      have old := (good b _ z2).1
      rw [e] at old; cases old
      exact now
  | .error _, h => exact False.elim h
  | .ok .next, h => exact False.elim h
  | .ok .brk, h => exact False.elim h
  | .ok .cont, h => exact False.elim h
/-- the script at a: one of the module's own lists, or known to its object -/
theorem call_G {vs : List Value} {ns : List Int} (inK : K.In s₁.heap) (top : s₁.heap.Ns mainGlobals mg) (blt : s₁.heap.Ns builtinsNs mb) (bltB : ∀ y : Str, y ≠ "__name__" → mb y = bootBuiltins y) (lim : s₁.heap.NoLimit) (seer : s₁.heap.NoSeer) (bare : s₁.gens = #[]) (room : Room k callerA)
    (at' : s₁.heap.get? a = some { cls := .type "list", data := .seq vs.toArray }) (areI : IntsAre vs ns) (few : ns.length ≤ sizeLine)
    (F : ∀ base : Heap, K.In base → base.Ns mainGlobals mg → base.NoSeer → GOk P w K mg base k fa fd [x] sp) (bind : ∀ (s : Shared) (u : Value), BindsTo s fd ⟨[u], []⟩ [(x, u)])
    (say : ∀ H : Hp, Only H → SqL K H a (ns.map V.int) → sp [.ref a] H (fun v _ => v = .bl true) E0) : codeAny (model P w) callerA (.call (.ref fa) ⟨[.ref a], []⟩) (Done s₁) s₁ := by
  have rel := L2.vals_ints areI
  have len := areI.length
  match hk : K.lookup a with
  | some o =>
    cases at'.symm.trans (inK a o hk)
    have none0 : ∀ b u, (fun _ => none : Hp) b = some u → False := fun b u z => by cases z
    exact run_G inK top blt bltB lim seer bare room (H := fun _ => none) (fun b u z => (none0 b u z).elim) (fun b z => absurd rfl z) (fun b => .inl rfl) (fun b u z => (none0 b u z).elim) F (bind _ _)
      (say _ (fun b => .inl rfl) (.inr ⟨_, vs.toArray, _, hk, rfl, rfl, rfl, by rw [List.size_toArray, len]; exact few, by simpa using rel⟩))
  | none =>
    let Ha : Hp := upd (fun _ => none) a (.frz { cls := .type "list", data := .seq vs.toArray } (.lst (ns.map V.int)))
    have cas : ∀ b u, Ha b = some u → b = a ∧ u = .frz { cls := .type "list", data := .seq vs.toArray } (.lst (ns.map V.int)) := fun b u z => by
      by_cases c : b = a
      · subst c
        rw [show Ha b = _ from upd_same] at z
        exact ⟨rfl, (Option.some.inj z).symm⟩
      · rw [show Ha b = none from upd_ne c] at z; cases z
    have onl : Only Ha := fun b => by
      match hb : Ha b with
      | none => exact .inl rfl
      | some u => exact .inr ⟨_, _, by rw [(cas b u hb).2]⟩
    refine run_G inK top blt bltB lim seer bare room (H := Ha) (fun b u z => ?_) (fun b z => ?_) onl (fun b u z => ?_) F (bind _ _) (say _ onl (.inl (.inr ⟨_, upd_same⟩)))
    · rw [(cas b u z).1]; exact ⟨_, at'⟩
    · match hb : Ha b with
      | none => exact absurd hb z
      | some u => rw [(cas b u hb).1]; exact hk
    · obtain ⟨rfl, rfl⟩ := cas b u z
      exact ⟨at', by rw [List.length_map]; exact few, vs, _, rel, at'⟩
end
/-- the walk's head for a def that may show what it has -/
theorem walk_ofG {l : PySem.W.OpenLaw} {n k : Nat} {p : Program} {free : List Str} {XP : (Str → Option Value) → Heap → Prop} {YP : World → Heap → Prop} {d : DefRec} {K : Params → PySem.W.Frag} {sp : World → Sp} {x : Str}
    (most : l.most = some n) (few : n ≤ sizeLine) (plain : d.params.defaults = []) (room : Room k callerA) (him : importsNone p = true) (inK : ∀ (w : World) (h : Heap), YP w h → (K w.params).In h)
    (F : ∀ (w : World) (mg : Str → Option Value) (fa : Addr) (h : Heap), (K w.params).In h → h.Ns mainGlobals mg → mg d.name = some (.ref fa) → ∃ fd : FuncData, (∀ (s : Shared) (u : Value), BindsTo s fd ⟨[u], []⟩ [(x, u)]) ∧
      ∀ base : Heap, (K w.params).In base → base.Ns mainGlobals mg → base.NoSeer → GOk l.prog w (K w.params) mg base k fa fd [x] (sp w))
    (say : ∀ (w : World) (H : Hp) (a : Addr) (ns : List Int), ns.length ≤ n → Only H → SqL (K w.params) H a (ns.map V.int) → sp w [.ref a] H (fun v _ => v = .bl true) E0) : PySem.W.WalkO p free XP YP l.row.toRowW d [] (fun f us => PySem.call f us) :=
  Att.attach_call most plain fun w _ s₁ mg mb fa o pm cd doc a vs ns G Y ho hd hcd hmg hobj hints hlen hg => by
    obtain ⟨fd, bind, made⟩ := F w mg fa _ (inK w _ Y) G.T.g hmg
    exact call_G (inK w _ Y) G.T.g G.T.b G.T.builtins G.T.nolimit (G.T.seer him) hg room hobj hints (Nat.le_trans hlen few) made bind fun H o1 o2 => say w H a ns hlen o1 o2
/-! ### the bag, made -/
section
variable {B : Bg} {ε : Eps} {L La : Own} {te : TE} {D : Ends}
theorem Rep.allocB {F : Hp} {σ : L2.St} {H H' : Hp} {pb pc : Addr} {b : Bag} (r : Rep B ε L F σ H) (s : Sub H H') (h1 : H pb = none) (h2 : H pc = none) (ne : pb ≠ pc) (hb : BagAt H' pb pc b.cells b.cur b.mix) : Rep B ε (b.at pb pc :: L) F σ H' := by
  have r1 := r.heap s
  have e1 : fps (b.at pb pc :: L) = pb :: pc :: fps L := rfl
  refine ⟨r1.sub, fun m hm => ?_, fun p hp => ?_, ?_, r1.sl, r1.len, r1.f0, r1.h0, r1.nc, fun p hp => ?_⟩
  · rcases List.mem_cons.mp hm with e | e
    · rw [e]; exact hb
    · exact r1.own m e
  · rw [e1] at hp
    rcases List.mem_cons.mp hp with e | hp
    · rw [e]; exact ⟨sub_none r.sub h1, .inr (r.newH h1)⟩
    · rcases List.mem_cons.mp hp with e | hp
      · rw [e]; exact ⟨sub_none r.sub h2, .inr (r.newH h2)⟩
      · exact r1.off p hp
  · rw [e1]
    refine List.nodup_cons.mpr ⟨fun hm => ?_, List.nodup_cons.mpr ⟨r.new h2, r.nd⟩⟩
    rcases List.mem_cons.mp hm with e | hm
    · exact ne e
    · exact r.new h1 hm
  · rw [e1]; exact List.mem_cons_of_mem _ (List.mem_cons_of_mem _ (r1.mm p hp))
theorem x_setOwn {i k : Nat} {E : XK} {a : Addr} {ns : List Int} (h : EX B te ε L (.v (.ref a)) La) (hk : La[k]? = some (.seq a (ns.map PyData.int))) (hl : ns.length ≤ 63)
    (q : ∀ (pb pc : Addr) (b : Bag), pb ∉ B.M → pc ∉ B.M → Ho B D.nx (ε.set i (some (.v (.ref pb)))) (b.at pb pc :: La)) : Ho B (tAsg (tCall (spOwn B.K) [] E (tCons te tNil)) (gName i) D) ε L := fun F σ H r =>
  h F σ H r _ fun v F1 H1 s1 r1 o1 => by
    have ev : v = .ref a := o1
    subst ev
    obtain ⟨vs, g1, g2⟩ := r1.own _ (List.mem_of_getElem? hk)
    have e2 := dpa_int_inv g2
    subst e2
    refine ⟨a, ns, rfl, sql_sub r1.sub g1, hl, fun pb pc b H' s hb1 hb2 ne hb => ?_⟩
    exact q pb pc b (r1.newM hb1) (r1.newM hb2) F1 _ H' ((r1.allocB s hb1 hb2 ne hb).slot (a := .v (.ref pb)) rfl)
end
end Fz

/-! ## Fw -/
set_option Elab.async false
set_option linter.all false
set_option maxRecDepth 100000
set_option maxHeartbeats 2000000
set_option autoImplicit false
/-! Fw: what is drawn is known by its bounds alone: expressions with many outcomes, defs by what they promise. -/
namespace Fz
open PySem L2
/-! ### encoders -/
def eT {α : Type} (e : α → PyData) (xs : List α) : PyData := .tuple (xs.map e)
def eL {α : Type} (e : α → PyData) (xs : List α) : PyData := .list (xs.map e)
def eP {α β : Type} (e : α → PyData) (f : β → PyData) (x : α × β) : PyData := .tuple [e x.1, f x.2]
def eO {α : Type} (e : α → PyData) : Option α → PyData
  | none => .none
  | some x => e x
def eU (_ : Unit) : PyData := .none
/-! ### judgements with many outcomes -/
section
variable (B : Bg)
def WX (te : TE) (ε : Eps) (L : Own) (κ : AD → Own → Prop) : Prop := ∀ F σ H, Rep B ε L F σ H → ∀ Q : VK, (∀ a L' v F' H', κ a L' → Sub F F' → Rep B ε L' F' σ H' → a.ok B.K F' v → Q v H') → te σ H Q
def WV {α : Type} (e : α → PyData) (te : TE) (ε : Eps) (L : Own) (κ : α → Own → Prop) : Prop := ∀ F σ H, Rep B ε L F σ H → ∀ Q : VK, (∀ x L' v F' H', κ x L' → Sub F F' → Rep B ε L' F' σ H' → Dq B.K F' v (e x) → Q v H') → te σ H Q
def WR (te : TE) (ε : Eps) (L : Own) (κ : Addr → Own → Prop) : Prop := ∀ F σ H, Rep B ε L F σ H → ∀ Q : VK, (∀ p L' F' H', κ p L' → Sub F F' → Rep B ε L' F' σ H' → Q (.ref p) H') → te σ H Q
def WA (ta : TA) (ε : Eps) (L : Own) (κ : List AD → Own → Prop) : Prop := ∀ F σ H, Rep B ε L F σ H → ∀ Q : List V → Hp → Prop, (∀ as L' vs F' H', κ as L' → Sub F F' → Rep B ε L' F' σ H' → AdAll B.K F' as vs → Q vs H') → ta σ H Q
def WT (tt : TT) (ε : Eps) (L : Own) (κ : Bool → Own → Prop) : Prop := ∀ F σ H, Rep B ε L F σ H → ∀ Q : Bool → Hp → Prop, (∀ b L' F' H', κ b L' → Sub F F' → Rep B ε L' F' σ H' → Q b H') → tt σ H Q
end
/-- a thing in its place -/
inductive At : Own → Nat → MO → Prop
  | z {m : MO} {L : Own} : At (m :: L) 0 m
  | s {m x : MO} {L : Own} {k : Nat} : At L k m → At (x :: L) (k + 1) m
theorem At.get {L : Own} {k : Nat} {m : MO} (h : At L k m) : L[k]? = some m := by
  induction h with
  | z => rfl
  | s _ ih => exact ih
/-- a thing changed in its place -/
inductive Up : Own → MO → MO → Own → Prop
  | z {m m' : MO} {L : Own} : Up (m :: L) m m' (m' :: L)
  | s {m m' x : MO} {L L' : Own} : Up L m m' L' → Up (x :: L) m m' (x :: L')
theorem Up.get {L L' : Own} {m m' : MO} (h : Up L m m' L') : ∃ k, L[k]? = some m ∧ L' = L.set k m' := by
  induction h with
  | z => exact ⟨0, rfl, rfl⟩
  | s _ ih =>
    obtain ⟨k, h1, h2⟩ := ih
    exact ⟨k + 1, h1, by rw [h2]; rfl⟩
theorem Up.mem {L L' : Own} {m m' : MO} (h : Up L m m' L') : m' ∈ L' := by
  induction h with
  | z => exact List.mem_cons_self
  | s _ ih => exact List.mem_cons_of_mem _ ih
/-- a slot stored -/
inductive Sl : Eps → Nat → Option AD → Eps → Prop
  | z {a : Option AD} {x : Option AD} {ε : Eps} : Sl (x :: ε) 0 a (a :: ε)
  | s {a x : Option AD} {ε ε' : Eps} {i : Nat} : Sl ε i a ε' → Sl (x :: ε) (i + 1) a (x :: ε')
theorem Sl.eq {ε ε' : Eps} {i : Nat} {a : Option AD} (h : Sl ε i a ε') : ε' = ε.set i a := by
  induction h with
  | z => rfl
  | s _ ih => rw [ih]; rfl
section
variable {B : Bg} {ε ε' : Eps} {L L' La Lb : Own} {te ta tb : TE} {tt tu : TT} {tas tr : TA} {D : Ends} {ts tc tw : TS} {α β : Type} {e : α → PyData} {f : β → PyData}
/-! ### from what is exact -/
theorem wx_of {a : AD} {κ : AD → Own → Prop} (h : EX B te ε L a L') (k : κ a L') : WX B te ε L κ := fun F σ H r Q q => h F σ H r Q fun v F' H' s r' o => q a L' v F' H' k s r' o
theorem wv_of {x : α} {κ : α → Own → Prop} (h : EX B te ε L (.d (e x)) L') (k : κ x L') : WV B e te ε L κ := fun F σ H r Q q => h F σ H r Q fun v F' H' s r' o => q x L' v F' H' k s r' o
theorem wr_of {ds : List PyData} {κ : Addr → Own → Prop} (h : EN B te ε L ds L') (k : ∀ p, p ∉ B.M → κ p (.lst p ds :: L')) : WR B te ε L κ := fun F σ H r Q q => h F σ H r Q fun p F' H' s hp r' => q p _ F' H' (k p hp) s r'
theorem wa_of {as : List AD} {κ : List AD → Own → Prop} (h : EA B tas ε L as L') (k : κ as L') : WA B tas ε L κ := fun F σ H r Q q => h F σ H r Q fun vs F' H' s r' o => q as L' vs F' H' k s r' o
theorem wt_of {b : Bool} {κ : Bool → Own → Prop} (h : ETt B tt ε L b L') (k : κ b L') : WT B tt ε L κ := fun F σ H r Q q => h F σ H r Q fun F' H' s r' => q b L' F' H' k s r'
theorem wx_v {κ : AD → Own → Prop} (h : WV B e te ε L fun x L' => κ (.d (e x)) L') : WX B te ε L κ := fun F σ H r Q q => h F σ H r Q fun x L' v F' H' k s r' o => q (.d (e x)) L' v F' H' k s r' o
theorem wx_r {κ : AD → Own → Prop} (h : WR B te ε L fun p L' => κ (.v (.ref p)) L') : WX B te ε L κ := fun F σ H r Q q => h F σ H r Q fun p L' F' H' k s r' => q (.v (.ref p)) L' _ F' H' k s r' rfl
theorem wv_mono {κ κ' : α → Own → Prop} (h : WV B e te ε L κ) (k : ∀ x L', κ x L' → κ' x L') : WV B e te ε L κ' := fun F σ H r Q q => h F σ H r Q fun x L' v F' H' c => q x L' v F' H' (k x L' c)
/-- the outcome said by another encoder -/
theorem wv_as {κ : β → Own → Prop} (h : WV B e te ε L fun x L' => ∃ y, e x = f y ∧ κ y L') : WV B f te ε L κ := fun F σ H r Q q => h F σ H r Q fun x L' v F' H' ⟨y, hy, k⟩ s r' o => q y L' v F' H' k s r' (hy ▸ o)
/-! ### two places -/
theorem w_op {γ : Type} {g : γ → PyData} {r : R2} {κ : γ → Own → Prop} (h : WV B e ta ε L fun x L1 => WV B f tb ε L1 fun y L2 => ∃ z, RX B r ε L2 (.d (e x)) (.d (f y)) (.d (g z)) L2 ∧ κ z L2) : WV B g (tOp r ta tb) ε L κ := fun F σ H rp Q q =>
  h F σ H rp _ fun x L1 v F1 H1 k1 s1 r1 o1 => k1 F1 σ H1 r1 _ fun y L2 w F2 H2 ⟨z, hr, k2⟩ s2 r2 o2 => hr F2 σ H2 v w r2 (dp_sub s2 o1) o2 Q fun u F3 H3 s3 r3 o3 => q z L2 u F3 H3 k2 ((s1.tr s2).tr s3) r3 o3
variable {κ : Int → Own → Prop} {κb : Bool → Own → Prop}
theorem w_add (h : WV B PyData.int ta ε L fun i L1 => WV B PyData.int tb ε L1 fun j L2 => κ (i + j) L2) : WV B PyData.int (tOp (rI0 fun i j => .int (i + j)) ta tb) ε L κ := w_op (e := PyData.int) (f := PyData.int) (wv_mono h fun i L1 k => wv_mono k fun j L2 k => ⟨_, rx_I0 fun _ _ => .int _, k⟩)
theorem w_sub (h : WV B PyData.int ta ε L fun i L1 => WV B PyData.int tb ε L1 fun j L2 => κ (i - j) L2) : WV B PyData.int (tOp (rI0 fun i j => .int (i - j)) ta tb) ε L κ := w_op (e := PyData.int) (f := PyData.int) (wv_mono h fun i L1 k => wv_mono k fun j L2 k => ⟨_, rx_I0 fun _ _ => .int _, k⟩)
theorem w_mul (h : WV B PyData.int ta ε L fun i L1 => WV B PyData.int tb ε L1 fun j L2 => CMulW i j ∧ κ (i * j) L2) : WV B PyData.int (tOp (rI CMulW fun i j => .int (i * j)) ta tb) ε L κ := w_op (e := PyData.int) (f := PyData.int) (wv_mono h fun i L1 k => wv_mono k fun j L2 k => ⟨_, rx_I k.1 fun _ _ => .int _, k.2⟩)
theorem w_mod (h : WV B PyData.int ta ε L fun i L1 => WV B PyData.int tb ε L1 fun j L2 => 0 < j ∧ κ (i % j) L2) : WV B PyData.int (tOp (rI (fun _ j => 0 < j) fun i j => .int (i % j)) ta tb) ε L κ := w_op (e := PyData.int) (f := PyData.int) (wv_mono h fun i L1 k => wv_mono k fun j L2 k => ⟨_, rx_I k.1 fun _ _ => .int _, k.2⟩)
theorem w_fdiv (h : WV B PyData.int ta ε L fun i L1 => WV B PyData.int tb ε L1 fun j L2 => CDivW i j ∧ κ (i / j) L2) : WV B PyData.int (tOp (rI CDivW fun i j => .int (i / j)) ta tb) ε L κ := w_op (e := PyData.int) (f := PyData.int) (wv_mono h fun i L1 k => wv_mono k fun j L2 k => ⟨_, rx_I k.1 fun _ _ => .int _, k.2⟩)
theorem w_lt (h : WV B PyData.int ta ε L fun i L1 => WV B PyData.int tb ε L1 fun j L2 => κb (decide (i < j)) L2) : WV B PyData.bool (tOp (rI0 fun i j => .bl (decide (i < j))) ta tb) ε L κb := w_op (e := PyData.int) (f := PyData.int) (wv_mono h fun i L1 k => wv_mono k fun j L2 k => ⟨_, rx_I0 fun _ _ => .bl _, k⟩)
theorem w_le (h : WV B PyData.int ta ε L fun i L1 => WV B PyData.int tb ε L1 fun j L2 => κb (decide (i ≤ j)) L2) : WV B PyData.bool (tOp (rI0 fun i j => .bl (decide (i ≤ j))) ta tb) ε L κb := w_op (e := PyData.int) (f := PyData.int) (wv_mono h fun i L1 k => wv_mono k fun j L2 k => ⟨_, rx_I0 fun _ _ => .bl _, k⟩)
theorem w_gt (h : WV B PyData.int ta ε L fun i L1 => WV B PyData.int tb ε L1 fun j L2 => κb (decide (j < i)) L2) : WV B PyData.bool (tOp (rI0 fun i j => .bl (decide (j < i))) ta tb) ε L κb := w_op (e := PyData.int) (f := PyData.int) (wv_mono h fun i L1 k => wv_mono k fun j L2 k => ⟨_, rx_I0 fun _ _ => .bl _, k⟩)
theorem w_ge (h : WV B PyData.int ta ε L fun i L1 => WV B PyData.int tb ε L1 fun j L2 => κb (decide (j ≤ i)) L2) : WV B PyData.bool (tOp (rI0 fun i j => .bl (decide (j ≤ i))) ta tb) ε L κb := w_op (e := PyData.int) (f := PyData.int) (wv_mono h fun i L1 k => wv_mono k fun j L2 k => ⟨_, rx_I0 fun _ _ => .bl _, k⟩)
theorem rx_eqI {i j : Int} : RX B rEq ε L (.d (.int i)) (.d (.int j)) (.d (.bool (decide (i = j)))) L := fun F σ H v w rp hv hw Q q => by
  rw [int_inv hv, int_inv hw]
  refine ⟨rfl, ?_⟩
  have e : decide ((V.int i) = V.int j) = decide (i = j) := by
    by_cases h : i = j
    · subst h; simp
    · rw [decide_eq_false h, decide_eq_false fun z => h (V.int.inj z)]
  rw [e]
  exact q _ F H (Sub.rfl' F) rp (.bl _)
theorem rx_neI {i j : Int} : RX B rNe ε L (.d (.int i)) (.d (.int j)) (.d (.bool (!decide (i = j)))) L := fun F σ H v w rp hv hw Q q => by
  rw [int_inv hv, int_inv hw]
  refine ⟨rfl, ?_⟩
  have e : decide ((V.int i) = V.int j) = decide (i = j) := by
    by_cases h : i = j
    · subst h; simp
    · rw [decide_eq_false h, decide_eq_false fun z => h (V.int.inj z)]
  rw [e]
  exact q _ F H (Sub.rfl' F) rp (.bl _)
theorem w_eq (h : WV B PyData.int ta ε L fun i L1 => WV B PyData.int tb ε L1 fun j L2 => κb (decide (i = j)) L2) : WV B PyData.bool (tOp rEq ta tb) ε L κb := w_op (e := PyData.int) (f := PyData.int) (wv_mono h fun i L1 k => wv_mono k fun j L2 k => ⟨_, rx_eqI, k⟩)
theorem w_ne (h : WV B PyData.int ta ε L fun i L1 => WV B PyData.int tb ε L1 fun j L2 => κb (!decide (i = j)) L2) : WV B PyData.bool (tOp rNe ta tb) ε L κb := w_op (e := PyData.int) (f := PyData.int) (wv_mono h fun i L1 k => wv_mono k fun j L2 k => ⟨_, rx_neI, k⟩)
theorem w_neg (h : WV B PyData.int ta ε L fun i L1 => κ (-i) L1) : WV B PyData.int (tUn (rU fun i => .int (-i)) ta) ε L κ := fun F σ H rp Q q =>
  h F σ H rp _ fun i L1 v F1 H1 k s1 r1 o1 => ⟨i, int_inv o1, q _ L1 _ F1 H1 k s1 r1 (.int _)⟩
theorem w_eqD {x : α} {y : β} (ha : EX B ta ε L (.d (e x)) La) (hb : EX B tb ε La (.d (f y)) Lb) (h1 : SeqAt.shaped (e x) = true) (h2 : SeqAt.shaped (f y) = true) (k : κb (PyData.eqv (e x) (f y)) Lb) : WV B PyData.bool (tOp (rEqD B.K) ta tb) ε L κb := wv_of (ex_eqD ha hb h1 h2) k
/-! ### tests -/
variable {κt : Bool → Own → Prop}
theorem wt_test (h : WV B PyData.bool te ε L κt) : WT B (tTest te) ε L κt := fun F σ H r Q q => h F σ H r _ fun b L1 v F1 H1 k s1 r1 o1 => ⟨b, bool_inv o1, q b L1 F1 H1 k s1 r1⟩
theorem wt_B (h : WV B PyData.bool te ε L κt) : WT B (tB te) ε L κt := fun F σ H r Q q => h F σ H r _ fun b L1 v F1 H1 k s1 r1 o1 => ⟨b, bool_inv o1, q b L1 F1 H1 k s1 r1⟩
theorem wt_not (h : WT B tt ε L fun b L1 => κt (!b) L1) : WT B (tNot tt) ε L κt := fun F σ H r Q q => h F σ H r _ fun b L1 F1 H1 k s1 r1 => q _ L1 F1 H1 k s1 r1
theorem wt_and (h : WT B tt ε L fun b L1 => (b = true → WT B tu ε L1 κt) ∧ (b = false → κt false L1)) : WT B (tAnd tt tu) ε L κt := fun F σ H r Q q => h F σ H r _ fun b L1 F1 H1 k s1 r1 => by
  cases b with
  | true => exact k.1 rfl F1 σ H1 r1 Q fun c L2 F2 H2 k2 s2 r2 => q c L2 F2 H2 k2 (s1.tr s2) r2
  | false => exact q false L1 F1 H1 (k.2 rfl) s1 r1
theorem wt_or (h : WT B tt ε L fun b L1 => (b = false → WT B tu ε L1 κt) ∧ (b = true → κt true L1)) : WT B (tOr tt tu) ε L κt := fun F σ H r Q q => h F σ H r _ fun b L1 F1 H1 k s1 r1 => by
  cases b with
  | false => exact k.1 rfl F1 σ H1 r1 Q fun c L2 F2 H2 k2 s2 r2 => q c L2 F2 H2 k2 (s1.tr s2) r2
  | true => exact q true L1 F1 H1 (k.2 rfl) s1 r1
theorem wt_mono {κ' : Bool → Own → Prop} (h : WT B tt ε L κt) (k : ∀ x L', κt x L' → κ' x L') : WT B tt ε L κ' := fun F σ H r Q q => h F σ H r Q fun x L' F' H' c => q x L' F' H' (k x L' c)
theorem w_andV (h : WV B PyData.bool ta ε L fun b L1 => (b = true → WV B PyData.bool tb ε L1 κb) ∧ (b = false → κb false L1)) : WV B PyData.bool (tAndV ta tb) ε L κb := fun F σ H r Q q => h F σ H r _ fun b L1 v F1 H1 k s1 r1 o1 => ⟨b, bool_inv o1, by
  cases b with
  | true => exact k.1 rfl F1 σ H1 r1 Q fun c L2 v F2 H2 k2 s2 r2 o2 => q c L2 v F2 H2 k2 (s1.tr s2) r2 o2
  | false => exact q false L1 _ F1 H1 (k.2 rfl) s1 r1 (.bl _)⟩
theorem w_orV (h : WV B PyData.bool ta ε L fun b L1 => (b = false → WV B PyData.bool tb ε L1 κb) ∧ (b = true → κb true L1)) : WV B PyData.bool (tOrV ta tb) ε L κb := fun F σ H r Q q => h F σ H r _ fun b L1 v F1 H1 k s1 r1 o1 => ⟨b, bool_inv o1, by
  cases b with
  | false => exact k.1 rfl F1 σ H1 r1 Q fun c L2 v F2 H2 k2 s2 r2 o2 => q c L2 v F2 H2 k2 (s1.tr s2) r2 o2
  | true => exact q true L1 _ F1 H1 (k.2 rfl) s1 r1 (.bl _)⟩
theorem w_notV (h : WV B PyData.bool te ε L fun b L1 => κb (!b) L1) : WV B PyData.bool (tNotV te) ε L κb := fun F σ H r Q q => h F σ H r _ fun b L1 v F1 H1 k s1 r1 o1 => ⟨b, bool_inv o1, q _ L1 _ F1 H1 k s1 r1 (.bl _)⟩
theorem w_if {κ' : α → Own → Prop} (h : WT B tt ε L fun b L1 => (b = true → WV B e ta ε L1 κ') ∧ (b = false → WV B e tb ε L1 κ')) : WV B e (tIf tt ta tb) ε L κ' := fun F σ H r Q q => h F σ H r _ fun b L1 F1 H1 k s1 r1 => by
  cases b with
  | true => exact k.1 rfl F1 σ H1 r1 Q fun c L2 v F2 H2 k2 s2 r2 o2 => q c L2 v F2 H2 k2 (s1.tr s2) r2 o2
  | false => exact k.2 rfl F1 σ H1 r1 Q fun c L2 v F2 H2 k2 s2 r2 o2 => q c L2 v F2 H2 k2 (s1.tr s2) r2 o2
/-! ### arguments, displays -/
theorem wa_nil {κ : List AD → Own → Prop} (k : κ [] L) : WA B tNil ε L κ := fun F σ H r Q q => q [] L [] F H k (Sub.rfl' F) r trivial
theorem wa_cons {κ : List AD → Own → Prop} (h : WX B te ε L fun a L1 => WA B tr ε L1 fun as L2 => κ (a :: as) L2) : WA B (tCons te tr) ε L κ := fun F σ H r Q q =>
  h F σ H r _ fun a L1 v F1 H1 k s1 r1 o1 => k F1 σ H1 r1 _ fun as L2 vs F2 H2 k2 s2 r2 o2 => q _ L2 _ F2 H2 k2 (s1.tr s2) r2 ⟨o1.sub s2, o2⟩
theorem wa_v {κ : List AD → Own → Prop} (h : WV B e te ε L fun x L1 => WA B tr ε L1 fun as L2 => κ (.d (e x) :: as) L2) : WA B (tCons te tr) ε L κ := wa_cons (wx_v h)
theorem wa_x {a : AD} {κ : List AD → Own → Prop} (h : EX B te ε L a La) (k : WA B tr ε La fun as L2 => κ (a :: as) L2) : WA B (tCons te tr) ε L κ := wa_cons (wx_of h k)
theorem w_tup {ty : List AD → PyData} {κ : α → Own → Prop} (h : WA B tas ε L fun as L1 => ∃ (ds : List PyData) (x : α), as = ds.map AD.d ∧ ds.length ≤ 100000 ∧ e x = .tuple ds ∧ κ x L1) : WV B e (tTup tas) ε L κ := fun F σ H r Q q =>
  h F σ H r _ fun as L1 vs F1 H1 ⟨ds, x, ea, hl, ex, k⟩ s1 r1 o1 => by
    subst ea
    have oa := ad_data o1
    refine ⟨Evl.sz_of (by rw [dpa_len oa]; exact hl), fun p hp => ?_⟩
    have hF := sub_none r1.sub hp
    exact q x L1 _ _ _ k (s1.tr (sub_fresh hF)) (r1.grow hp) (by rw [ex]; exact .tup upd_same (dpa_sub (sub_fresh hF) oa))
theorem w_lst {κ : Addr → Own → Prop} (h : WA B tas ε L fun as L1 => ∃ ds : List PyData, as = ds.map AD.d ∧ ds.length ≤ 100000 ∧ ∀ p, p ∉ B.M → κ p (.lst p ds :: L1)) : WR B (tLst tas) ε L κ := fun F σ H r Q q =>
  h F σ H r _ fun as L1 vs F1 H1 ⟨ds, ea, hl, k⟩ s1 r1 o1 => by
    subst ea
    have oa := ad_data o1
    exact ⟨Evl.sz_of (by rw [dpa_len oa]; exact hl), fun p hp => q p _ F1 _ (k p (r1.newM hp)) s1 (r1.alloc hp rfl ⟨vs, upd_same, oa⟩)⟩
/-- a new list that will not change -/
theorem w_frz {κ : α → Own → Prop} (h : WR B te ε L fun p L1 => ∃ (ds : List PyData) (L2 : Own) (x : α), p ∉ B.M ∧ L1 = .lst p ds :: L2 ∧ e x = .list ds ∧ κ x L2) : WV B e te ε L κ := fun F σ H r Q q =>
  h F σ H r _ fun p L1 F1 H1 ⟨ds, L2, x, hp, e1, e2, k⟩ s1 r1 => by
    subst e1
    have en : EN B (fun σ H Q => Q (.ref p) H) ε (.lst p ds :: L2) ds L2 := fun F σ H r Q q => q p F H (Sub.rfl' F) hp r
    exact ex_frz en F1 σ H1 r1 Q fun v F2 H2 s2 r2 o2 => q x L2 v F2 H2 k (s1.tr s2) r2 (e2 ▸ o2)
/-! ### statements -/
theorem x_setV {i : Nat} {ε' : α → Eps} (h : WV B e te ε L fun x L1 => Ho B D.nx (ε' x) L1) (hs : ∀ x, Sl ε i (some (.d (e x))) (ε' x)) : Ho B (tAsg te (gName i) D) ε L := fun F σ H r =>
  h F σ H r _ fun x L1 v F1 H1 k _ r1 o1 => k F1 _ H1 ((hs x).eq ▸ r1.slot (a := .d (e x)) o1)
theorem x_setO {i : Nat} {ε' : Addr → Eps} (h : WR B te ε L fun p L1 => Ho B D.nx (ε' p) L1) (hs : ∀ p, Sl ε i (some (.v (.ref p))) (ε' p)) : Ho B (tAsg te (gName i) D) ε L := fun F σ H r =>
  h F σ H r _ fun p L1 F1 H1 k _ r1 => k F1 _ H1 ((hs p).eq ▸ r1.slot (a := .v (.ref p)) rfl)
theorem x_parW {i j : Nat} (h : WA B tas ε L fun as L1 => ∃ a b, as = [a, b] ∧ Ho B D.nx ((ε.set i (some a)).set j (some b)) L1) : Ho B (tPar i j tas D) ε L := fun F σ H r =>
  h F σ H r _ fun as L1 vs F1 H1 ⟨a, b, ea, k⟩ _ r1 o1 => by
    subst ea
    match vs, o1 with
    | [v, w], o => exact ⟨v, w, rfl, k F1 _ H1 ((r1.slot o.1).slot o.2.1)⟩
theorem x_par3W {i j l : Nat} (h : WA B tas ε L fun as L1 => ∃ a b c, as = [a, b, c] ∧ Ho B D.nx (((ε.set i (some a)).set j (some b)).set l (some c)) L1) : Ho B (tPar3 i j l tas D) ε L := fun F σ H r =>
  h F σ H r _ fun as L1 vs F1 H1 ⟨a, b, c, ea, k⟩ _ r1 o1 => by
    subst ea
    match vs, o1 with
    | [u, v, w], o => exact ⟨u, v, w, rfl, k F1 _ H1 (((r1.slot o.1).slot o.2.1).slot o.2.2.1)⟩
theorem x_asgW {g : TG} (h : WX B te ε L fun a L1 => ∃ ε', GT B g a ε ε' ∧ Ho B D.nx ε' L1) : Ho B (tAsg te g D) ε L := fun F σ H r =>
  h F σ H r _ fun a L1 v F1 H1 ⟨ε', hg, k⟩ _ r1 o1 => hg L1 F1 σ H1 v r1 o1 _ fun σ' r2 => k F1 σ' H1 r2
theorem x_ifW (h : WT B tt ε L fun b L1 => (b = true → Ho B (ts D) ε L1) ∧ (b = false → Ho B (tw D) ε L1)) : Ho B (tIfS tt ts tw D) ε L := fun F σ H r =>
  h F σ H r _ fun b L1 F1 H1 k _ r1 => by
    cases b with
    | true => exact k.1 rfl F1 σ H1 r1
    | false => exact k.2 rfl F1 σ H1 r1
theorem x_dropW (h : WX B te ε L fun _ L1 => Ho B D.nx ε L1) : Ho B (tDrop te D) ε L := fun F σ H r => h F σ H r _ fun a L1 v F1 H1 k _ r1 o1 => k F1 σ H1 r1
/-- xs.append(e) -/
theorem x_appW {to : TE} {p : Addr} (ho : EX B to ε L (.v (.ref p)) L) (hj : ∃ (j : Nat) (ds' : List PyData), At L j (.lst p ds')) (h : WV B e te ε L fun x L1 => ∃ ds L2, Up L1 (.lst p ds) (.lst p (ds ++ [e x])) L2 ∧ ds.length < 100000 ∧ Ho B D.nx ε L2) : Ho B (tDrop (tBM B.K "list" rAppend to (tCons te tNil)) D) ε L := fun F σ H r =>
  ho F σ H r _ fun v F1 H1 s1 r1 o1 => by
    have ev : v = .ref p := o1
    subst ev
    obtain ⟨j, ds', hj⟩ := hj
    obtain ⟨us, u1, _⟩ := r1.own _ (List.mem_of_getElem? hj.get)
    refine ⟨tyv u1, h F1 σ H1 r1 _ fun x L1 w F2 H2 ⟨ds, L2, hup, hz, k⟩ s2 r2 o2 => ?_⟩
    obtain ⟨n, hk, rfl⟩ := hup.get
    obtain ⟨vs, g1, g2⟩ := r2.own _ (List.mem_of_getElem? hk)
    exact ⟨p, vs, w, rfl, rfl, g1, by rw [dpa_len g2]; exact Evl.sz_lt hz, k F2 σ _ (r2.setL hk (dpa_app g2 (.cons o2 .nil)))⟩
theorem x_while' (I : Nat → Eps → Own → Prop) {m0 : Nat} (h0 : I m0 ε L)
    (hs : ∀ m ε' L', I m ε' L' → WT B tt ε' L' fun b L'' => (b = true → Ho B (tc { D with nx := AbsP B (fun ε L => ∃ m', m' < m ∧ I m' ε L), ct := AbsP B (fun ε L => ∃ m', m' < m ∧ I m' ε L), bk := D.nx }) ε' L'') ∧ (b = false → Ho B D.nx ε' L'')) :
    Ho B (tWhile tt tc D) ε L := fun F σ H r => by
  refine ⟨fun m => AbsP B (I m), ⟨m0, ε, L, F, h0, r⟩, ?_⟩
  rintro m σ' H' ⟨ε', L', F', hI, r'⟩
  refine hs m ε' L' hI F' σ' H' r' _ fun b L2 F2 H2 k _ r2 => ?_
  cases b with
  | true =>
    refine ⟨AbsP B (fun ε L => ∃ m', m' < m ∧ I m' ε L), fun σ3 H3 ⟨ε3, L3, F3, ⟨m', hm, hI'⟩, r3⟩ => ⟨m', hm, ε3, L3, F3, hI', r3⟩, ?_⟩
    exact k.1 rfl F2 σ' H2 r2
  | false => exact k.2 rfl F2 σ' H2 r2
/-! ### typed walks -/
theorem x_forLe {g : TG} {xs : List α} (h : EX B te ε L (.d (eL e xs)) La) (I : V → Nat → Eps → Own → Prop) (h0 : ∀ v, I v 0 ε (La ++ [.know v (eL e xs)])) (hl : ∀ v i ε' L', I v i ε' L' → MO.know v (eL e xs) ∈ L')
    (hs : ∀ v i x ε' L', xs[i]? = some x → I v i ε' L' → ∃ ε'', GT B g (.d (e x)) ε' ε'' ∧ Ho B (tc { D with nx := AbsP B (I v (i + 1)), ct := AbsP B (I v (i + 1)), bk := D.nx }) ε'' L')
    (hd : ∀ v ε' L', I v xs.length ε' L' → Ho B D.nx ε' L') : Ho B (tFor (iList B.K te) g tc D) ε L :=
  x_forL (ds := xs.map e) h I h0 hl (fun v i d ε' L' hd hI => by
    rw [List.getElem?_map] at hd
    cases hx : xs[i]? with
    | none => rw [hx] at hd; cases hd
    | some x => rw [hx] at hd; cases hd; exact hs v i x ε' L' hx hI) (fun v ε' L' hI => hd v ε' L' (by rw [List.length_map] at hI; exact hI))
theorem x_forTe {g : TG} {xs : List α} (h : EX B te ε L (.d (eT e xs)) La) (I : V → Nat → Eps → Own → Prop) (h0 : ∀ v, I v 0 ε (La ++ [.know v (eT e xs)])) (hl : ∀ v i ε' L', I v i ε' L' → MO.know v (eT e xs) ∈ L')
    (hs : ∀ v i x ε' L', xs[i]? = some x → I v i ε' L' → ∃ ε'', GT B g (.d (e x)) ε' ε'' ∧ Ho B (tc { D with nx := AbsP B (I v (i + 1)), ct := AbsP B (I v (i + 1)), bk := D.nx }) ε'' L')
    (hd : ∀ v ε' L', I v xs.length ε' L' → Ho B D.nx ε' L') : Ho B (tFor (iTup B.K te) g tc D) ε L :=
  x_forT (ds := xs.map e) h I h0 hl (fun v i d ε' L' hd hI => by
    rw [List.getElem?_map] at hd
    cases hx : xs[i]? with
    | none => rw [hx] at hd; cases hd
    | some x => rw [hx] at hd; cases hd; exact hs v i x ε' L' hx hI) (fun v ε' L' hI => hd v ε' L' (by rw [List.length_map] at hI; exact hI))
/-- the end of a turn -/
theorem x_end {I : Eps → Own → Prop} (h : I ε' L) (w : Wk ε ε' := by repeat (first | exact trivial | refine ⟨Or.inr rfl, ?_⟩ | refine ⟨Or.inl rfl, ?_⟩)) : Ho B (AbsP B I) ε L := x_abs h w
/-- what is owned is given up -/
theorem ho_off {P : St → Hp → Prop} {p : Addr} {ds : List PyData} (hp : p ∉ B.M) (h : Ho B P ε L) : Ho B P ε (.lst p ds :: L) := ho_drop (k := 0) h rfl fun x hx => by rw [List.mem_singleton.mp hx]; exact hp
end

/-! ### what defs promise -/
section
variable {α β : Type}
/-- a def of data: of y that is let, some x that is promised -/
def spD (K : PySem.W.Frag) (a : β → List PyData) (Pre : β → Prop) (e : α → PyData) (Post : β → α → Prop) : Sp := fun vs H Q _ => ∃ F y, Sub F H ∧ DqAll K F vs (a y) ∧ Pre y ∧ ∀ x v F' H', Post y x → NxM [] F H F' H' → Dq K F' v (e x) → Q v H'
/-- the same with the bag ahead -/
def spG (K : PySem.W.Frag) (a : β → List PyData) (Pre : β → Prop) (e : α → PyData) (Post : β → α → Prop) : Sp := fun vs H Q _ => ∃ F pb pc b vs' y, vs = .ref pb :: vs' ∧ Sub F H ∧ F pb = none ∧ F pc = none ∧ pb ≠ pc ∧ BagAt H pb pc (Bag.cells b) b.cur b.mix ∧ DqAll K F vs' (a y) ∧ Pre y ∧
  ∀ x (b' : Bag) v F' H', Post y x → NxM [pb, pc] F H F' H' → BagAt H' pb pc b'.cells b'.cur b'.mix → Dq K F' v (e x) → Q v H'
variable {P : Program} {w : World} {K : PySem.W.Frag} {mg : Str → Option Value} {base : Heap} {f : Addr} {fd : FuncData} {ps : List Str} {k : Nat}
theorem fn_wk {sp sp' : Sp} (F : FnOk P w K mg base CX0 k f fd ps sp) (h : ∀ vs H Q E, sp' vs H Q E → sp vs H Q E) : FnOk P w K mg base CX0 k f fd ps sp' :=
  ⟨fun vs H Q E x => F.len vs H Q E (h vs H Q E x), fun A outer s H args us vs Q E r e0 b v x => F.run A outer s H args us vs Q E r e0 b v (h vs H Q E x)⟩
theorem spG_of {R : Bag → List PyData → PyData → Bag → Prop} {a : β → List PyData} {Pre : β → Prop} {e : α → PyData} {Post : β → α → Prop} (h : ∀ y b, Pre y → ∃ x b', R b (a y) (e x) b' ∧ Post y x) : ∀ vs H Q E, spG K a Pre e Post vs H Q E → spB K R vs H Q E := fun vs H Q E ⟨F, pb, pc, b, vs', y, h1, h2, h3, h4, h5, h6, h7, h8, q⟩ =>
  let ⟨x, b', hR, hP⟩ := h y b h8
  ⟨F, pb, pc, b, vs', a y, e x, b', h1, h2, h3, h4, h5, h6, h7, hR, fun v F' H' n hb o => q x b' v F' H' hP n hb o⟩
theorem spD_of {R : List PyData → PyData → Prop} {a : β → List PyData} {Pre : β → Prop} {e : α → PyData} {Post : β → α → Prop} (h : ∀ y, Pre y → ∃ x, R (a y) (e x) ∧ Post y x) : ∀ vs H Q E, spD K a Pre e Post vs H Q E → spR K R vs H Q E := fun vs H Q E ⟨F, y, h2, h7, h8, q⟩ =>
  let ⟨x, hR, hP⟩ := h y h8
  ⟨F, a y, e x, h2, h7, hR, fun v F' H' n o => q x v F' H' hP n o⟩
/-- what a return has to show -/
def RetD (B : Bg) (Q : VK) (e : α → PyData) (Post : α → Prop) : Prop := ∀ x v F σ H ε L, Post x → Rep B ε L F σ H → Dq B.K F v (e x) → Q v H
def RetG (B : Bg) (pb pc : Addr) (Q : VK) (e : α → PyData) (Post : α → Prop) : Prop := ∀ x (b : Bag) v F σ H ε L, Post x → Rep B ε L F σ H → b.at pb pc ∈ L → Dq B.K F v (e x) → Q v H
section
variable {B : Bg} {ε : Eps} {L La : Own} {te : TE} {D : Ends} {tas tk : TA} {e : α → PyData} {Post : α → Prop} {Q : VK}
theorem x_retD (q : RetD B Q e Post) (h : WV B e te ε L fun x _ => Post x) (hD : D.rt = Q := by rfl) : Ho B (tRet te D) ε L := fun F σ H r => h F σ H r _ fun x L1 v F1 H1 k _ r1 o1 => by
  rw [hD]; exact q x v F1 σ H1 ε L1 k r1 o1
theorem x_retG {pb pc : Addr} (q : RetG B pb pc Q e Post) (h : WV B e te ε L fun x L1 => Post x ∧ ∃ b : Bag, b.at pb pc ∈ L1) (hD : D.rt = Q := by rfl) : Ho B (tRet te D) ε L := fun F σ H r => h F σ H r _ fun x L1 v F1 H1 ⟨k, b, hb⟩ _ r1 o1 => by
  rw [hD]; exact q x b v F1 σ H1 ε L1 k r1 hb o1
theorem x_retG' {pb pc : Addr} (q : RetG B pb pc Q e Post) (h : WR B te ε L fun p L1 => ∃ (ds : List PyData) (L2 : Own) (x : α), p ∉ B.M ∧ L1 = .lst p ds :: L2 ∧ e x = .list ds ∧ Post x ∧ ∃ b : Bag, b.at pb pc ∈ L2) (hD : D.rt = Q := by rfl) : Ho B (tRet te D) ε L := x_retG q (w_frz (κ := fun x L1 => Post x ∧ ∃ b : Bag, b.at pb pc ∈ L1) h) hD
variable {γ : Type} {a : β → List PyData} {Pre : β → Prop} {E : XK} {P2 : β → α → Prop} {κ : α → Own → Prop} {gV : List V → List V → List V}
theorem w_callD (h : WA B tas ε L fun as L1 => ∃ y, as = (a y).map AD.d ∧ Pre y ∧ ∀ x, P2 y x → κ x L1) : WV B e (tCall (spD B.K a Pre e P2) [] E tas) ε L κ := fun F σ H r Q q =>
  h F σ H r _ fun as L1 vs F1 H1 ⟨y, ea, hy, k⟩ s1 r1 o1 => by
    subst ea
    rw [List.append_nil]
    exact ⟨F1, y, r1.sub, ad_data o1, hy, fun x v F' H' hx n o => q x L1 v F' H' (k x hx) (s1.tr n.1) (r1.call n) o⟩
theorem Rep.bagNd {F : Hp} {σ : St} {H : Hp} {pb pc : Addr} {c : List Int} {u m : Int} (r : Rep B ε L F σ H) (hm : MO.bag pb pc c u m ∈ L) : pb ≠ pc := fun ee => by
  have x : ([pb, pc] : List Addr).Nodup := by
    have sl : ([pb, pc] : List Addr).Sublist (fps L) := by
      obtain ⟨l1, l2, e2⟩ := List.append_of_mem hm
      rw [e2]
      unfold fps
      rw [List.flatMap_append, List.flatMap_cons]
      exact (List.sublist_append_left _ _).trans (List.sublist_append_right _ _)
    exact r.nd.sublist sl
  subst ee
  simp at x
/-- a call that draws from the bag -/
theorem w_callG {pb pc : Addr} {κ : α → Own → Prop} (h : WA B tas ε L fun as L1 => ∃ (y : β) (b : Bag) (L2 : Bag → Own), as = .v (.ref pb) :: (a y).map AD.d ∧ (∀ b', Up L1 (b.at pb pc) (b'.at pb pc) (L2 b')) ∧ Pre y ∧ ∀ x b', P2 y x → κ x (L2 b')) : WV B e (tCall (spG B.K a Pre e P2) [] E tas) ε L κ := fun F σ H r Q q =>
  h F σ H r _ fun as L1 vs F1 H1 ⟨y, b, L2, ea, hup, hy, k⟩ s1 r1 o1 => by
    subst ea
    match vs, o1 with
    | v :: vs', o =>
      have ev : v = .ref pb := o.1
      subst ev
      rw [List.append_nil]
      obtain ⟨n0, hk, _⟩ := (hup b).get
      have hm := List.mem_of_getElem? hk
      refine ⟨F1, pb, pc, b, vs', y, rfl, r1.sub, (r1.off pb (mem_fps hm List.mem_cons_self)).1, (r1.off pc (mem_fps hm (List.mem_cons_of_mem _ List.mem_cons_self))).1, r1.bagNd hm, r1.own _ hm, ad_data o.2, hy,
        fun x b' v F' H' hx n hb o => ?_⟩
      obtain ⟨n1, hk1, e1⟩ := (hup b').get
      exact q x (L2 b') v F' H' (k x b' hx) (s1.tr n.1) (e1 ▸ r1.callB hk1 n hb) o
/-- with keywords alone -/
theorem w_callKD (h : WA B tk ε L fun as L1 => ∃ y, (∀ K F zs, AdAll K F as zs → DqAll K F (gV [] zs) (a y)) ∧ Pre y ∧ ∀ x, P2 y x → κ x L1) : WV B e (tCallK (spD B.K a Pre e P2) gV E tNil tk) ε L κ := fun F σ H r Q q =>
  h F σ H r _ fun as L1 vs F1 H1 ⟨y, ea, hy, k⟩ s1 r1 o1 => ⟨F1, y, r1.sub, ea _ _ _ o1, hy, fun x v F' H' hx n o => q x L1 v F' H' (k x hx) (s1.tr n.1) (r1.call n) o⟩
end
/-! ### the rules for defs -/
theorem fn_D {x qual : Str} {st : Stmt} {N : List Str} {a : β → List PyData} {Pre : β → Prop} {e : α → PyData} {Post : β → α → Prop} (Fn : Fun K x qual st f fd) (S : FnScope N ps (defScope st)) (hps : ps.length ≤ N.length) (len : ∀ y, (a y).length = ps.length)
    (hbody : ∀ (cdv : Value) (A : Around) (outer : List Env) (s : Shared) (H : Hp) (E : XK), Room k (A.deeper (PyProof.Rows.envOfC qual (defScope st) s.heap.objs.size f cdv)) →
      ∃ t, PSs (cxOf CX0 P w K mg base N qual (defScope st) f cdv A outer s H E).nox (defBody st) t ∧
        ∀ (B : Bg) (Q : VK) y, B.K = K → Pre y → RetD B Q e (Post y) → Ho B (t { nx := fun _ H' => Q .non H', rt := Q }) (argE (a y) N.length) []) :
    FnOk P w K mg base CX0 (k + 1) f fd ps (spD K a Pre e Post) := by
  refine Fn.ok S (fun vs H Q E h => ?_) fun cdv A outer s H vs Q E hr h => ?_
  · obtain ⟨F, y, _, hd, _⟩ := h
    rw [dpa_len hd]; exact len y
  · obtain ⟨t, ht, hb⟩ := hbody cdv A outer s H E hr
    obtain ⟨F, y, hs, hd, hy, q⟩ := h
    refine ⟨t, ht, hb ⟨K, F, H, []⟩ Q y rfl hy (fun x v F' σ' H' ε L hx r o => q x v F' H' hx r.nx o) F _ H (rep_start hs hd ?_)⟩
    rw [len y]; exact hps
theorem fn_G {x qual : Str} {st : Stmt} {N : List Str} {a : β → List PyData} {Pre : β → Prop} {e : α → PyData} {Post : β → α → Prop} (Fn : Fun K x qual st f fd) (S : FnScope N ps (defScope st)) (hps : ps.length ≤ N.length) (len : ∀ y, (a y).length + 1 = ps.length)
    (hbody : ∀ (cdv : Value) (A : Around) (outer : List Env) (s : Shared) (H : Hp) (E : XK), Room k (A.deeper (PyProof.Rows.envOfC qual (defScope st) s.heap.objs.size f cdv)) →
      ∃ t, PSs (cxOf CX0 P w K mg base N qual (defScope st) f cdv A outer s H E).nox (defBody st) t ∧
        ∀ (B : Bg) (Q : VK) pb pc b y, B.K = K → Pre y → RetG B pb pc Q e (Post y) → Ho B (t { nx := fun _ H' => Q .non H', rt := Q }) (some (.v (.ref pb)) :: argE (a y) (N.length - 1)) [Bag.at b pb pc]) :
    FnOk P w K mg base CX0 (k + 1) f fd ps (spG K a Pre e Post) := by
  refine Fn.ok S (fun vs H Q E h => ?_) fun cdv A outer s H vs Q E hr h => ?_
  · obtain ⟨F, pb, pc, b, vs', y, rfl, _, _, _, _, _, hd, _⟩ := h
    rw [List.length_cons, dpa_len hd]; exact len y
  · obtain ⟨t, ht, hb⟩ := hbody cdv A outer s H E hr
    obtain ⟨F, pb, pc, b, vs', y, rfl, hs, f1, f2, ne, bg, hd, hy, q⟩ := h
    refine ⟨t, ht, hb ⟨K, F, H, [pb, pc]⟩ Q pb pc b y rfl hy (fun x b' v F' σ' H' ε L hx r hm o => q x b' v F' H' hx r.nx (r.bag hm) o) F _ H (rep_startB hs f1 f2 ne bg hd ?_)⟩
    rw [len y]; exact hps
theorem g_D {x qual : Str} {st : Stmt} {N : List Str} {a : β → List PyData} {Pre : β → Prop} {e : α → PyData} {Post : β → α → Prop} (Fn : Fun K x qual st f fd) (S : FnScope N ps (defScope st)) (hps : ps.length ≤ N.length) (len : ∀ y, (a y).length = ps.length)
    (hbody : ∀ (cdv : Value) (A : Around) (outer : List Env) (s : Shared) (H : Hp), Room k (A.deeper (PyProof.Rows.envOfC qual (defScope st) s.heap.objs.size f cdv)) → (A.deeper (PyProof.Rows.envOfC qual (defScope st) s.heap.objs.size f cdv)).guards = some [] →
      ∃ t, PSs (cxOf CX0 P w K mg base N qual (defScope st) f cdv A outer s H E0).nox (defBody st) t ∧
        ∀ (B : Bg) (Q : VK) y, B.K = K → Pre y → RetD B Q e (Post y) → Ho B (t { nx := fun _ H' => Q .non H', rt := Q }) (argE (a y) N.length) []) :
    GOk P w K mg base (k + 1) f fd ps (spD K a Pre e Post) := by
  refine g_ok Fn S (fun vs H Q E h => ?_) fun cdv A outer s H vs Q hr hG h => ?_
  · obtain ⟨F, y, _, hd, _⟩ := h
    rw [dpa_len hd]; exact len y
  · obtain ⟨t, ht, hb⟩ := hbody cdv A outer s H hr hG
    obtain ⟨F, y, hs, hd, hy, q⟩ := h
    refine ⟨t, ht, hb ⟨K, F, H, []⟩ Q y rfl hy (fun x v F' σ' H' ε L hx r o => q x v F' H' hx r.nx o) F _ H (rep_start hs hd ?_)⟩
    rw [len y]; exact hps
theorem g_G {x qual : Str} {st : Stmt} {N : List Str} {a : β → List PyData} {Pre : β → Prop} {e : α → PyData} {Post : β → α → Prop} (Fn : Fun K x qual st f fd) (S : FnScope N ps (defScope st)) (hps : ps.length ≤ N.length) (len : ∀ y, (a y).length + 1 = ps.length)
    (hbody : ∀ (cdv : Value) (A : Around) (outer : List Env) (s : Shared) (H : Hp), Room k (A.deeper (PyProof.Rows.envOfC qual (defScope st) s.heap.objs.size f cdv)) → (A.deeper (PyProof.Rows.envOfC qual (defScope st) s.heap.objs.size f cdv)).guards = some [] →
      ∃ t, PSs (cxOf CX0 P w K mg base N qual (defScope st) f cdv A outer s H E0).nox (defBody st) t ∧
        ∀ (B : Bg) (Q : VK) pb pc b y, B.K = K → Pre y → RetG B pb pc Q e (Post y) → Ho B (t { nx := fun _ H' => Q .non H', rt := Q }) (some (.v (.ref pb)) :: argE (a y) (N.length - 1)) [Bag.at b pb pc]) :
    GOk P w K mg base (k + 1) f fd ps (spG K a Pre e Post) := by
  refine g_ok Fn S (fun vs H Q E h => ?_) fun cdv A outer s H vs Q hr hG h => ?_
  · obtain ⟨F, pb, pc, b, vs', y, rfl, _, _, _, _, _, hd, _⟩ := h
    rw [List.length_cons, dpa_len hd]; exact len y
  · obtain ⟨t, ht, hb⟩ := hbody cdv A outer s H hr hG
    obtain ⟨F, pb, pc, b, vs', y, rfl, hs, f1, f2, ne, bg, hd, hy, q⟩ := h
    refine ⟨t, ht, hb ⟨K, F, H, [pb, pc]⟩ Q pb pc b y rfl hy (fun x b' v F' σ' H' ε L hx r hm o => q x b' v F' H' hx r.nx (r.bag hm) o) F _ H (rep_startB hs f1 f2 ne bg hd ?_)⟩
    rw [len y]; exact hps
end
end Fz

/-! ## FzX -/
set_option Elab.async false
set_option linter.all false
set_option maxRecDepth 100000
set_option maxHeartbeats 2000000
set_option autoImplicit false
/-! FzX: t[::-1] and t[i::-1] of a tuple; a raise that is never reached. -/
namespace Fz
open PySem PySem.Spec PyProof.Rows HT L2
/-- how many items t[lo::-1] has -/
def revN (n : Nat) : Option Int → Nat
  | none => n
  | some v => if v < 0 then (v + (n : Int) + 1).toNat else min (v + 1).toNat n
theorem revN_le (n : Nat) (lo : Option Int) : revN n lo ≤ n := by
  cases lo with
  | none => exact Nat.le_refl _
  | some v =>
    unfold revN
    dsimp only
    split
    · omega
    · exact Nat.min_le_right _ _
theorem adjust_rev (n : Nat) (lo : Option Int) : Builtin.Slice.sliceAdjust lo none (-1) (n : Int) = ((revN n lo : Int) - 1, -1) := by
  have h1 : ((-1 : Int) < 0) := by decide
  unfold Builtin.Slice.sliceAdjust
  simp only [h1, if_true]
  refine Prod.ext ?_ rfl
  cases lo with
  | none => rfl
  | some v =>
    show (if v < 0 then max (v + (n : Int)) (-1) else min v ((n : Int) - 1)) = ((if v < 0 then (v + (n : Int) + 1).toNat else min (v + 1).toNat n : Nat) : Int) - 1
    by_cases hv : v < 0
    · rw [if_pos hv, if_pos hv]; omega
    · rw [if_neg hv, if_neg hv]; omega
theorem places_rev (m : Nat) : Builtin.Slice.slicePlaces ((m : Int) - 1) (-1) (-1) = m := by
  unfold Builtin.Slice.slicePlaces
  have h1 : ¬ ((-1 : Int) > 0) := by decide
  rw [if_neg h1]
  have e : (- -1 : Int) = 1 := by decide
  rw [e, Int.ediv_one]
  split <;> omega
theorem pick_rev (xs : Array Value) (m : Nat) (h : m ≤ xs.size) : ((List.range m).filterMap fun (k : Nat) => xs[((m : Int) - 1 + (k : Int) * -1).toNat]?).toArray = ((xs.toList.take m).reverse).toArray := by
  congr 1
  have e : ((List.range m).filterMap fun (k : Nat) => xs[((m : Int) - 1 + (k : Int) * -1).toNat]?) = (List.range m).map fun k => xs.toList.getD (m - 1 - k) default := by
    have : ∀ l : List Nat, (∀ k ∈ l, k < m) → (l.filterMap fun (k : Nat) => xs[((m : Int) - 1 + (k : Int) * -1).toNat]?) = l.map fun k => xs.toList.getD (m - 1 - k) default := fun l => by
      induction l with
      | nil => exact fun _ => rfl
      | cons a l ih =>
        intro hl
        have ha := hl a List.mem_cons_self
        have e2 : ((m : Int) - 1 + (a : Int) * -1).toNat = m - 1 - a := by omega
        have hlt : m - 1 - a < xs.size := by omega
        rw [List.filterMap_cons, List.map_cons, e2, Array.getElem?_eq_getElem hlt, ih fun k hk => hl k (List.mem_cons_of_mem _ hk)]
        show xs[m - 1 - a] :: _ = _
        congr 1
        rw [List.getD_eq_getElem?_getD, List.getElem?_eq_getElem (by rw [Array.length_toList]; exact hlt)]
        rfl
    exact this _ fun k hk => List.mem_range.mp hk
  rw [e]
  refine List.ext_getElem ?_ fun i h1 h2 => ?_
  · rw [List.length_map, List.length_range, List.length_reverse, List.length_take, Array.length_toList]; omega
  · rw [List.length_map, List.length_range] at h1
    rw [List.getElem_map, List.getElem_range, List.getElem_reverse, List.getElem_take, List.getD_eq_getElem?_getD, List.getElem?_eq_getElem (by rw [Array.length_toList]; omega)]
    simp only [List.length_take, Array.length_toList]
    have : min m xs.size = m := by omega
    simp only [this]
    rfl
section
variable {prog : Program} {w : World} {A : Around} {E : Value → Shared → Prop} {s : Shared}
theorem getItem_tuple_rev {t sl : Addr} {items : Array Value} {vl vs : Value} {lo : Option Int} {Q : Value → Shared → Prop} (ht : IsTup s.heap t items) (hs : s.heap.IsSliceOf sl vl .none vs) (pl : IsPart vl lo) (ps : IsPart vs (some (-1)))
    (h : Q (.ref s.heap.objs.size) { s with heap := s.heap.push { cls := .type "tuple", data := .seq ((items.toList.take (revN items.size lo)).reverse).toArray } })
    (hsz : items.size ≤ sizeLine) : wpAny (model prog w) A (getItem (.ref t) (.ref sl)) Q E s := by
  have htake : sizeOk (.seq ((items.toList.take (revN items.size lo)).reverse).toArray) := by
    show ((items.toList.take (revN items.size lo)).reverse).toArray.size ≤ sizeLine
    rw [List.size_toArray, List.length_reverse, List.length_take, Array.length_toList]
    omega
  obtain ⟨os, hos, hcs, hds⟩ := id hs
  have hTs : s.TypeIs (.ref sl) "slice" := ⟨os, hos, hcs⟩
  unfold getItem
  try with_reducible refine wpAny_holding ?_
  first | refine wpAny_bind (wpAny_pure ?_) | skip
  refine wpAny_bind (wpAny_sequenceKey ht.typeIs (by decide) ?_)
  refine wpAny_bind (wpAny_callSpecial?_slot (name := Str.ofString "__getitem__") ht.typeIs PyProof.Rows.slot_tuple_getitem
    (wpAny_call_entry PyProof.Rows.slot_tuple_getitem ht.typeIs entry_tuple_getitem ?_ (args_tuple_getitem _ _)))
  show wpAny _ _ (Builtin.Tuple.tupleItemsOf (.ref t) >>= _) _ _ s
  refine wpAny_bind (tupleItemsOf_ ht ?_)
  refine wpAny_bind (wpAny_typeOf hTs ?_)
  rw [if_pos (by decide)]
  have happ : ∀ {Q : Int × Int × Nat → Shared → Prop}, Q (((revN items.size lo : Nat) : Int) - 1, -1, revN items.size lo) s → wpAny (model prog w) A.in1 (Builtin.Slice.sliceApplied (.ref sl) (pure (items.size : Int))) Q E s := fun {Q} h => by
    unfold Builtin.Slice.sliceApplied Builtin.Slice.sliceFields
    refine wpAny_bind (wpAny_bind (wpAny_field hos hds (x := vl) rfl (wpAny_bind (wpAny_field hos hds (x := .none) rfl (wpAny_bind (wpAny_field hos hds (x := vs) rfl (wpAny_pure ?_)))))))
    refine wpAny_bind (slicePart_ ps ?_)
    show wpAny _ _ (if ((-1 : Int) == 0) = true then _ else _) _ _ s
    rw [if_neg (by decide)]
    refine wpAny_bind (slicePart_ pl (wpAny_bind (slicePart_none (wpAny_bind (wpAny_pure ?_)))))
    show wpAny _ _ (match Builtin.Slice.sliceAdjust lo none (-1) (items.size : Int) with | (lo, hi) => pure (lo, (-1 : Int), Builtin.Slice.slicePlaces lo hi (-1))) _ _ s
    rw [adjust_rev]
    show wpAny _ _ (pure (((revN items.size lo : Nat) : Int) - 1, (-1 : Int), Builtin.Slice.slicePlaces (((revN items.size lo : Nat) : Int) - 1) (-1) (-1))) _ _ s
    rw [places_rev]
    exact wpAny_pure h
  refine wpAny_bind (wpAny_mono (happ (Q := fun r s' => r = (((revN items.size lo : Nat) : Int) - 1, -1, revN items.size lo) ∧ s' = s) ⟨rfl, rfl⟩) ?_ (fun _ _ e => e))
  rintro r s' ⟨rfl, rfl⟩
  show wpAny _ _ (if ((((revN items.size lo : Nat) : Int) - 1 == 0) && ((-1 : Int) == 1) && (revN items.size lo == items.size)) = true then _ else _) _ _ s'
  have hno : ¬ (((((revN items.size lo : Nat) : Int) - 1 == 0) && ((-1 : Int) == 1) && (revN items.size lo == items.size)) = true) := by
    rw [show ((-1 : Int) == 1) = false from by decide]
    simp
  rw [if_neg hno, pick_rev _ _ (revN_le _ _)]
  first
    | exact wpAny_bind (m := Builtin.Tuple.tupleExact _) (wpAny_newObj_type (wpAny_pure ⟨_, rfl, wpAny_pure h⟩) htake)
    | exact wpAny_bind (m := Builtin.Tuple.tupleExact _) (wpAny_newObj_type (wpAny_bind (wpAny_pure (wpAny_pure ⟨_, rfl, wpAny_pure h⟩))) htake)
    | exact wpAny_bind (wpAny_bind (m := Builtin.Tuple.tupleExact _) (wpAny_newObj_type (wpAny_pure (wpAny_pure ⟨_, rfl, wpAny_pure h⟩)) htake))
    | exact wpAny_bind (wpAny_bind (m := Builtin.Tuple.tupleExact _) (wpAny_newObj_type (wpAny_pure ⟨_, rfl, wpAny_pure h⟩) htake))
end
def tRevT (K : PySem.W.Frag) (te : TE) (to : TO) : TE := fun σ H Q => te σ H fun x H1 => to σ H1 fun lo H2 => ∃ a xs, x = .ref a ∧ SqT K H2 a xs ∧ ∀ p, H2 p = none → Q (.ref p) (upd H2 p (.tup (xs.take (revN xs.length lo)).reverse))
theorem pe_revT {X : Cx} {e : Expr} {lo : Option Expr} {te : TE} {to : TO} {k : Nat} {p1 p2 p3 pos : Pos} (he : PE X e te) (hlo : PO X lo to) {ops : Value → Value → List Value} (hsub : ∀ v w, subscripted (.Slice lo none (some (.UnaryOp .USub (.Constant (.int 1) k p1) p2)) p3) false v w = operate (ops v w) (getItem v w)) : PE X (.Subscript e (.Slice lo none (some (.UnaryOp .USub (.Constant (.int 1) k p1) p2)) p3) pos) (tRevT X.K te to) := by
  refine ⟨fun pins s σ H Q I h => ?_⟩
  refine Subscript_ (thn (he.run pins s σ H _ I h) fun v s1 ⟨x, H1, I1, r1, q1⟩ => ?_)
  have hst : PO X (some (.UnaryOp .USub (.Constant (.int 1) k p1) p2)) (tPart (tUn (rU fun i => .int (-i)) (tC (.int 1)))) := po_some (pe_un un_neg pe_int)
  refine wpAny_Slice (thn (hlo.run pins s1 σ H1 _ I1 q1) fun vl s2 ⟨l, H2, I2, pl, q2⟩ => ?_)
  refine thn (po_none.run pins s2 σ H2 (fun o H3 => o = none ∧ H3 = H2) I2 ⟨rfl, rfl⟩) fun vu s3 ⟨u, H3, I3, pu, eu, e3⟩ => ?_
  subst eu e3
  cases pu
  refine thn (hst.run pins s3 σ H3 (fun o H4 => o = some (-1) ∧ H4 = H3) I3 ⟨1, rfl, -1, rfl, rfl, rfl⟩) fun vs s4 ⟨o, H4, I4, ps, eo, e4⟩ => ?_
  subst eo e4
  obtain ⟨a, xs, ex, hx, q⟩ := q2
  subst ex
  cases r1
  have I5 : Inv X pins σ H4 { s4 with heap := s4.heap.push { cls := .type "slice", data := .fields #[vl, .none, vs] } } := I4.kept (t' := s4.toks) fun b ob q => Heap.get?_push_of_some _ q
  obtain ⟨its, r, ht, hz⟩ := I5.tuple hx
  have hlen : its.toArray.size = xs.length := by rw [List.size_toArray]; exact r.length.symm
  show wpAny (model X.prog X.w) X.A (subscriptTail e (.Slice lo none (some (.UnaryOp .USub (.Constant (.int 1) k p1) p2)) p3) (.ref a) (.ref s4.heap.objs.size)) (EP X pins σ Q) X.xe { s4 with heap := s4.heap.push { cls := .type "slice", data := .fields #[vl, .none, vs] } }
  refine tail_any (ops := ops (.ref a) (.ref s4.heap.objs.size)) ht.typeIs PyProof.Rows.slot_tuple_getitem.lookup ?_ (hsub _ _)
  refine getItem_tuple_rev ht (Heap.IsSliceOf.new _ vl .none vs) pl ps ?_ (by rw [hlen]; exact hz)
  rw [hlen]
  refine ⟨.ref _, _, I5.laid (t' := s4.toks) (o := .tup (xs.take (revN xs.length l)).reverse) (fun b ob q => Heap.get?_push_of_some _ q) (Nat.le_refl _) ?_, rfl, q _ (I5.hok.fresh (Nat.le_refl _))⟩
  exact ⟨by rw [List.length_reverse, List.length_take]; omega, _, (r.take (revN xs.length l)).reverse, IsTup.new _ _⟩
theorem pe_revT0 {X : Cx} {e : Expr} {te : TE} {k : Nat} {p1 p2 p3 pos : Pos} (he : PE X e te) : PE X (.Subscript e (.Slice none none (some (.UnaryOp .USub (.Constant (.int 1) k p1) p2)) p3) pos) (tRevT X.K te tNoPart) := pe_revT he po_none (ops := fun v w => [v, w]) (fun v w => by with_unfolding_all rfl)
theorem ps_dead {X : Cx} {st : Stmt} : PS X st (fun _ _ _ => False) := ⟨fun _ _ _ _ _ _ h => h.elim⟩
section
variable {B : Bg} {ε : Eps} {L La Lb : Own} {te : TE} {to : TO} {lo : Option Int}
theorem ex_revT {ds : List PyData} (h : EX B te ε L (.d (.tuple ds)) La) (h2 : EO B to ε La lo Lb) : EX B (tRevT B.K te to) ε L (.d (.tuple (ds.take (revN ds.length lo)).reverse)) Lb := fun F σ H r Q q =>
  h F σ H r _ fun v F1 H1 s1 r1 o1 => h2 F1 σ H1 r1 _ fun F2 H2 s2 r2 => by
    obtain ⟨p, vs, rfl, g1, g2⟩ := tup_inv (o1.sub s2)
    refine ⟨p, vs, rfl, tq_sub r2.sub g1, fun p' hp => ?_⟩
    have hF := sub_none r2.sub hp
    rw [dpa_len g2]
    exact q _ _ _ ((s1.tr s2).tr (sub_fresh hF)) (r2.grow hp) (.tup upd_same (dpa_sub (sub_fresh hF) (dpa_rev (dpa_take _ g2))))
theorem ex_revT0 {ds : List PyData} (h : EX B te ε L (.d (.tuple ds)) La) : EX B (tRevT B.K te tNoPart) ε L (.d (.tuple ds.reverse)) La := by
  have := ex_revT h (eo_n (ε := ε) (B := B))
  have e : ds.take (revN ds.length none) = ds := List.take_length
  rw [e] at this
  exact this
end
end Fz

/-! ## FzY -/
set_option Elab.async false
set_option linter.all false
set_option maxRecDepth 100000
set_option maxHeartbeats 2000000
set_option autoImplicit false
/-! FzY: comprehensions that draw; chains; extend; lists unpacked. -/
namespace Fz
open PySem L2
section
variable {B : Bg} {ε ε' : Eps} {L L' La Lb Lc : Own} {te ta tb tc tl : TE} {tt tu : TT} {tas tr : TA} {a b x : AD} {D : Ends} {ts tw : TS} {g : TG} {vs : List Nat} {i j : Int}
def eD (d : PyData) : PyData := d
/-- one turn of a comprehension that may draw -/
def CTurnW (B : Bg) (g : TG) (tt : TT) (te : TE) (ε : Eps) (vs : List Nat) (I : Nat → List PyData → Own → Prop) (i : Nat) (d : PyData) : Prop :=
  ∀ acc L', I i acc L' → acc.length < 100000 ∧ ∃ ε2, GT B g (.d d) (wipeE ε vs) ε2 ∧ ∀ m, WT B tt ε2 (L' ++ [m]) fun b L1 => (b = true → WV B eD te ε2 L1 fun e L2 => ∃ L3, L2 = L3 ++ [m] ∧ I (i + 1) (acc ++ [e]) L3) ∧ (b = false → ∃ L3, L1 = L3 ++ [m] ∧ I (i + 1) acc L3)
theorem cturn_goW {F1 : Hp} {σ : St} {I : Nat → List PyData → Own → Prop} {Dl : Addr} {i : Nat} {H : Hp} {d : PyData} {w : V} (hw : ∀ v σ H P, (g v (wipe σ vs) H P ↔ g v (wipe σ vs) H fun σ2 H2 => wipe σ2 vs = wipe σ vs ∧ P σ2 H2))
    (ct : CTurnW B g tt te ε vs I i d) (c : CW B ε vs F1 σ I Dl i H) (hd : ∀ F acc L, Sub F1 F → Rep B (wipeE ε vs) (L ++ [.lst Dl acc]) F (wipe σ vs) H → Dq B.K F w d) :
    g w (wipe σ vs) H fun σ2 H2 => wipe σ2 vs = wipe σ vs ∧ tt σ2 H2 fun b H3 =>
      if b = true then te σ2 H3 fun y H4 => ∃ acc, H4 Dl = some (.lst acc) ∧ acc.length < sizeLine ∧ CW B ε vs F1 σ I Dl (i + 1) (upd H4 Dl (.lst (acc ++ [y]))) else CW B ε vs F1 σ I Dl (i + 1) H3 := by
  obtain ⟨acc, L', F, s, hI, r⟩ := c
  obtain ⟨hz, ε2, hg, h1⟩ := ct acc L' hI
  refine (hw w σ H _).mp (hg _ F _ H w r (hd F acc L' s r) _ fun σ2 r2 => ?_)
  refine h1 _ F σ2 H r2 _ fun b L1 F3 H3 k s3 r3 => ?_
  cases b with
  | true =>
    show te σ2 H3 _
    refine k.1 rfl F3 σ2 H3 r3 _ fun e L2 y F4 H4 k4 s4 r4 o4 => ?_
    obtain ⟨L3, rfl, h5⟩ := k4
    obtain ⟨ws, k1, k2⟩ := r4.own _ (List.mem_append_right _ List.mem_cons_self)
    have hz2 : ws.length < sizeLine := by rw [dpa_len k2]; exact Evl.sz_lt hz
    refine ⟨ws, k1, hz2, acc ++ [e], L3, F4, (s.tr s3).tr s4, h5, ?_⟩
    have r5 : Rep B (wipeE ε vs) (L3 ++ [.lst Dl acc]) F4 (wipe σ vs) H4 := r4.reslot r ((s3).tr s4)
    have r6 := r5.chg (m' := .lst Dl (acc ++ [e])) (H' := upd H4 Dl (.lst (ws ++ [y]))) get_last rfl ⟨_, upd_same, dpa_app k2 (.cons o4 .nil)⟩ fun q o hq e => by
      rw [upd_ne (fun z => hq (by rw [z]; exact List.mem_cons_self))]; exact e
    rw [set_last] at r6
    exact r6
  | false =>
    obtain ⟨L3, rfl, h3⟩ := k.2 rfl
    exact ⟨acc, L3, F3, s.tr s3, h3, r3.reslot r s3⟩
theorem cw_endW {F F1 : Hp} {σ : St} {H1 : Hp} {I : Nat → List PyData → Own → Prop} {Dl : Addr} {n : Nat} {H' : Hp} {Q : VK} {κ : Addr → Own → Prop} (s1 : Sub F F1) (r1 : Rep B ε La F1 σ H1) (hD : H1 Dl = none) (c : CW B ε vs F1 σ I Dl n H')
    (hd : ∀ p acc L', p ∉ B.M → I n acc L' → κ p (.lst p acc :: L')) (q : ∀ p L' F' H', κ p L' → Sub F F' → Rep B ε L' F' σ H' → Q (.ref p) H') : Q (.ref Dl) H' := by
  obtain ⟨acc, L', F', s, hI, r⟩ := c
  exact q Dl _ F' H' (hd Dl acc L' (r1.newM hD) hI) (s1.tr s) (r.reslot r1 s).toHead
theorem wr_lcR1 {j : Nat} {n : Int} {κ : Addr → Own → Prop} (h : EA B tas ε L [.d (.int n)] La) (hn : -(2 ^ 62) ≤ n ∧ n < 2 ^ 62) (I : Nat → List PyData → Own → Prop) (h0 : I 0 [] La) (hj : j ∈ vs)
    (hs : ∀ i : Nat, (i : Int) < n → CTurnW B (gName j) tt te ε vs I i (.int (i : Int))) (hd : ∀ p acc L', p ∉ B.M → I n.toNat acc L' → κ p (.lst p acc :: L')) : WR B (tLc (iRng1 tas) (gName j) tt te vs) ε L κ := fun F σ H r Q q =>
  h F σ H r _ fun ws F1 H1 s1 r1 o1 => by
    match ws, o1 with
    | [v], o =>
      have ev : v = .int n := int_inv o.1
      subst ev
      refine ⟨n, rfl, hn.1, hn.2, fun Dl hD => lc_range (lo := 0) (n := n.toNat) (CW B ε vs F1 σ I Dl) (cw_start r1 hD h0) (fun i H' hi c => ?_) fun H' c => cw_endW s1 r1 hD c hd q⟩
      have e0 : (0 : Int) + (i : Int) = (i : Int) := Int.zero_add _
      rw [e0]
      exact cturn_goW (gw_name hj) (hs i (by omega)) c fun _ _ _ _ _ => .int _
theorem wr_lcR2 {j : Nat} {lo n : Int} {κ : Addr → Own → Prop} (h : EA B tas ε L [.d (.int lo), .d (.int n)] La) (hn : (-(2 ^ 62) ≤ lo ∧ lo < 2 ^ 62) ∧ -(2 ^ 62) ≤ n ∧ n < 2 ^ 62) (I : Nat → List PyData → Own → Prop) (h0 : I 0 [] La) (hj : j ∈ vs)
    (hs : ∀ i : Nat, lo + (i : Int) < n → CTurnW B (gName j) tt te ε vs I i (.int (lo + (i : Int)))) (hd : ∀ p acc L', p ∉ B.M → I (n - lo).toNat acc L' → κ p (.lst p acc :: L')) : WR B (tLc (iRng2 tas) (gName j) tt te vs) ε L κ := fun F σ H r Q q =>
  h F σ H r _ fun ws F1 H1 s1 r1 o1 => by
    match ws, o1 with
    | [v, w], o =>
      have ev : v = .int lo := int_inv o.1
      have ew : w = .int n := int_inv o.2.1
      subst ev ew
      refine ⟨lo, n, rfl, ⟨hn.1.1, hn.1.2, hn.2.1, hn.2.2⟩, fun Dl hD => lc_range (lo := lo) (n := (n - lo).toNat) (CW B ε vs F1 σ I Dl) (cw_start r1 hD h0) (fun i H' hi c => ?_) fun H' c => cw_endW s1 r1 hD c hd q⟩
      exact cturn_goW (gw_name hj) (hs i (by omega)) c fun _ _ _ _ _ => .int _
theorem wr_lcL {xs : List PyData} {κ : Addr → Own → Prop} (h : WV B eD tl ε L fun d L1 => d = .list xs ∧ L1 = La) (I : Nat → List PyData → Own → Prop) (h0 : I 0 [] La)
    (hw : ∀ (v : V) (σ : St) (H : Hp) (P : St → Hp → Prop), (g v (wipe σ vs) H P ↔ g v (wipe σ vs) H fun σ2 H2 => wipe σ2 vs = wipe σ vs ∧ P σ2 H2))
    (hs : ∀ (i : Nat) d, xs[i]? = some d → CTurnW B g tt te ε vs I i d) (hd : ∀ p acc L', p ∉ B.M → I xs.length acc L' → κ p (.lst p acc :: L')) : WR B (tLc (iList B.K tl) g tt te vs) ε L κ := fun F σ H r Q q =>
  h F σ H r _ fun d L1 v F1 H1 k s1 r1 o1 => by
    obtain ⟨rfl, rfl⟩ := k
    have o' : Dq B.K F1 v (.list xs) := o1
    cases o' with
    | @lst p us _ q1 q2 =>
      refine ⟨p, rfl, ⟨us, .inl (.inl (r1.sub _ _ q1))⟩, fun Dl hD => lc_list (xs := us) (CW B ε vs F1 σ I Dl) (cw_start r1 hD h0) (fun i H' _ c => ?_) (fun i x H' hi c => ?_) fun H' c => cw_endW s1 r1 hD (by rw [dpa_len q2] at c; exact c) hd q⟩
      · obtain ⟨acc, L', F', s, hI, r'⟩ := c
        exact .inl (.inl (r'.sub _ _ (s _ _ q1)))
      · have hlt : i < xs.length := by rw [← dpa_len q2]; exact (List.getElem?_eq_some_iff.mp hi).1
        obtain ⟨w, e1, e2⟩ := dpa_get q2 (List.getElem?_eq_getElem hlt)
        have ex : x = w := Option.some.inj (hi.symm.trans e1)
        subst ex
        exact cturn_goW hw (hs i _ (List.getElem?_eq_getElem hlt)) c fun F' _ _ s _ => dp_sub s e2
theorem wr_lcT {xs : List PyData} {κ : Addr → Own → Prop} (h : WV B eD tl ε L fun d L1 => d = .tuple xs ∧ L1 = La) (I : Nat → List PyData → Own → Prop) (h0 : I 0 [] La)
    (hw : ∀ (v : V) (σ : St) (H : Hp) (P : St → Hp → Prop), (g v (wipe σ vs) H P ↔ g v (wipe σ vs) H fun σ2 H2 => wipe σ2 vs = wipe σ vs ∧ P σ2 H2))
    (hs : ∀ (i : Nat) d, xs[i]? = some d → CTurnW B g tt te ε vs I i d) (hd : ∀ p acc L', p ∉ B.M → I xs.length acc L' → κ p (.lst p acc :: L')) : WR B (tLc (iTup B.K tl) g tt te vs) ε L κ := fun F σ H r Q q =>
  h F σ H r _ fun d L1 v F1 H1 k s1 r1 o1 => by
    obtain ⟨rfl, rfl⟩ := k
    have o' : Dq B.K F1 v (.tuple xs) := o1
    cases o' with
    | @tup p us _ q1 q2 =>
      refine ⟨p, rfl, ⟨us, tq_sub r1.sub q1⟩, fun Dl hD => lc_tup (xs := us) (CW B ε vs F1 σ I Dl) (cw_start r1 hD h0) (fun i H' _ c => ?_) (fun i x H' hi c => ?_) fun H' c => cw_endW s1 r1 hD (by rw [dpa_len q2] at c; exact c) hd q⟩
      · obtain ⟨acc, L', F', s, hI, r'⟩ := c
        exact tq_sub r'.sub (s _ _ q1)
      · have hlt : i < xs.length := by rw [← dpa_len q2]; exact (List.getElem?_eq_some_iff.mp hi).1
        obtain ⟨w, e1, e2⟩ := dpa_get q2 (List.getElem?_eq_getElem hlt)
        have ex : x = w := Option.some.inj (hi.symm.trans e1)
        subst ex
        exact cturn_goW hw (hs i _ (List.getElem?_eq_getElem hlt)) c fun F' _ _ s _ => dp_sub s e2
/-! ### chains -/
theorem ex_chain {p q : Int → Int → Bool} {k : Int} (ha : EX B ta ε L (.d (.int i)) La) (hb : EX B tb ε La (.d (.int j)) Lb) (hc : EX B tc ε Lb (.d (.int k)) Lb) : EX B (tChain (rI0 fun i j => .bl (p i j)) (rI0 fun i j => .bl (q i j)) ta tb tc) ε L (.d (.bool (p i j && q j k))) Lb := fun F σ H r Q f =>
  ha F σ H r _ fun v F1 H1 s1 r1 o1 => hb F1 σ H1 r1 _ fun w F2 H2 s2 r2 o2 => ⟨i, j, int_inv o1, int_inv o2, p i j, rfl, by
    have e1 : v = .int i := int_inv o1
    cases c : p i j with
    | true =>
      rw [c] at f
      exact hc F2 σ H2 r2 _ fun u F3 H3 s3 r3 o3 => ⟨j, k, int_inv o2, int_inv o3, f _ F3 H3 ((s1.tr s2).tr s3) r3 (.bl _)⟩
    | false =>
      rw [c] at f
      exact f _ F2 H2 (s1.tr s2) r2 (.bl _)⟩
/-! ### more -/
theorem gt_lst2 {i j : Nat} {d e : PyData} : GT B (gLst B.K 2 (gCons (gName i) (gCons (gName j) gNil))) (.d (.list [d, e])) ε ((ε.set i (some (.d d))).set j (some (.d e))) := fun L F σ H v r o P p => by
  have o' : Dq B.K F v (.list [d, e]) := o
  cases o' with
  | lst h1 h2 =>
  cases h2 with
  | cons a t =>
    cases t with
    | cons b t =>
      cases t
      exact ⟨_, _, rfl, .inl (.inl (r.sub _ _ h1)), rfl, _, _, rfl, _, _, rfl, rfl, p _ ((r.slot (a := .d d) a).slot (a := .d e) b)⟩
theorem gt_lst3 {i j k : Nat} {d e f : PyData} : GT B (gLst B.K 3 (gCons (gName i) (gCons (gName j) (gCons (gName k) gNil)))) (.d (.list [d, e, f])) ε (((ε.set i (some (.d d))).set j (some (.d e))).set k (some (.d f))) := fun L F σ H v r o P p => by
  have o' : Dq B.K F v (.list [d, e, f]) := o
  cases o' with
  | lst h1 h2 =>
  cases h2 with
  | cons a t =>
    cases t with
    | cons b t =>
      cases t with
      | cons c t =>
        cases t
        exact ⟨_, _, rfl, .inl (.inl (r.sub _ _ h1)), rfl, _, _, rfl, _, _, rfl, _, _, rfl, rfl, p _ (((r.slot (a := .d d) a).slot (a := .d e) b).slot (a := .d f) c)⟩
/-- tuple(reversed(xs)) -/
theorem ex_tupRev {ds : List PyData} (h : EX B te ε L x La) (hx : IsL La x ds) : EX B (RT.tTupRev B.K te) ε L (.d (.tuple ds.reverse)) La := fun F σ H r Q q =>
  h F σ H r _ fun v F1 H1 s1 r1 o1 => by
    obtain ⟨p, vs, rfl, g1, g2⟩ := hx.get r1 o1
    refine ⟨p, vs, rfl, g1, fun l hl => ?_⟩
    have hF := sub_none r1.sub hl
    exact q _ _ _ (s1.tr (sub_fresh hF)) (r1.grow hl) (.tup upd_same (dpa_sub (sub_fresh hF) (dpa_rev g2)))
/-- [..] * n -/
theorem en_repL {ds : List PyData} {n : Nat} (ha : EX B ta ε L x La) (hb : EX B tb ε La (.d (.int n)) Lb) (hx : IsM Lb x ds) (hl : ds.length * n ≤ 100000) (hn : n ≤ 100000) : EN B (tOp rRep ta tb) ε L (List.replicate n ds).flatten Lb := en_op ha hb fun F σ H v w rp hv hw Q q => by
  obtain ⟨p, vs, rfl, g1, g2⟩ := hx.get rp hv
  refine ⟨p, n, vs, rfl, int_inv hw, g1, by omega, by omega, Evl.sz_of (by rw [dpa_len g2, Int.toNat_natCast]; exact hl), fun p' hp' => q p' F _ (Sub.rfl' F) (rp.newM hp') (rp.alloc hp' rfl ⟨_, upd_same, ?_⟩)⟩
  rw [Int.toNat_natCast]
  have : ∀ m : Nat, DqAll B.K F (List.replicate m vs).flatten (List.replicate m ds).flatten := fun m => by
    induction m with
    | zero => exact .nil
    | succ m ih => rw [List.replicate_succ, List.replicate_succ, List.flatten_cons, List.flatten_cons]; exact dpa_app g2 ih
  exact this n
/-- xs.extend(ys), ys a list that does not change -/
theorem x_extW {to : TE} {p : Addr} (ho : EX B to ε L (.v (.ref p)) L) (hj : ∃ (j : Nat) (ds' : List PyData), At L j (.lst p ds')) (h : WV B eD te ε L fun d L1 => ∃ es ds L2, d = .list es ∧ Up L1 (.lst p ds) (.lst p (ds ++ es)) L2 ∧ ds.length + es.length ≤ 100000 ∧ Ho B D.nx ε L2) : Ho B (tDrop (tBM B.K "list" rExtend to (tCons te tNil)) D) ε L := fun F σ H r =>
  ho F σ H r _ fun v F1 H1 s1 r1 o1 => by
    have ev : v = .ref p := o1
    subst ev
    obtain ⟨j, ds', hj⟩ := hj
    obtain ⟨us, u1, _⟩ := r1.own _ (List.mem_of_getElem? hj.get)
    refine ⟨tyv u1, h F1 σ H1 r1 _ fun d L1 w F2 H2 ⟨es, ds, L2, ed, hup, hz, k⟩ s2 r2 o2 => ?_⟩
    subst ed
    obtain ⟨n, hk, rfl⟩ := hup.get
    obtain ⟨vs, g1, g2⟩ := r2.own _ (List.mem_of_getElem? hk)
    have o' : Dq B.K F2 w (.list es) := o2
    cases o' with
    | @lst b us' _ q1 q2 =>
      exact ⟨p, b, vs, us', rfl, rfl, g1, r2.sub _ _ q1, Evl.sz_of (by rw [dpa_len g2, dpa_len q2]; exact hz), k F2 σ _ (r2.setL hk (dpa_app g2 q2))⟩
end
end Fz

/-! ## K80M -/
/-! K80M: the plain mathematics of the cards: products, binomials, counts of falls, bounds. -/
set_option autoImplicit false
set_option linter.all false
namespace K80

/-! ### sizes -/
def Bd (k : Nat) (x : Int) : Prop := x.natAbs < 2 ^ k
theorem Bd.mono {k l : Nat} {x : Int} (h : Bd k x) (e : k ≤ l) : Bd l x := Nat.lt_of_lt_of_le h (Nat.pow_le_pow_right (by decide) e)
theorem Bd.mul {k l : Nat} {x y : Int} (h : Bd k x) (h2 : Bd l y) : Bd (k + l) (x * y) := by
  unfold Bd at *
  rw [Int.natAbs_mul, Nat.pow_add]
  exact Nat.mul_lt_mul'' h h2
theorem Bd.add {k : Nat} {x y : Int} (h : Bd k x) (h2 : Bd k y) : Bd (k + 1) (x + y) := by
  unfold Bd at *
  have := Int.natAbs_add_le x y
  rw [Nat.pow_succ]
  omega
theorem Bd.sub {k : Nat} {x y : Int} (h : Bd k x) (h2 : Bd k y) : Bd (k + 1) (x - y) := by
  unfold Bd at *
  rw [Nat.pow_succ]
  omega
theorem Bd.neg {k : Nat} {x : Int} (h : Bd k x) : Bd k (-x) := by unfold Bd at *; rw [Int.natAbs_neg]; exact h
theorem Bd.abs {k : Nat} {x : Int} (h : Bd k x) : Bd k (x.natAbs : Int) := by unfold Bd at *; rw [Int.natAbs_natCast]; exact h
theorem Bd.div {k : Nat} {x y : Int} (h : Bd k x) : Bd k (x / y) := by
  unfold Bd at *
  exact Nat.lt_of_le_of_lt (Int.natAbs_ediv_le_natAbs x y) h
theorem Bd.of {k : Nat} {x : Int} {n : Nat} (h0 : -(n : Int) < x) (h : x < n) (hn : n ≤ 2 ^ k) : Bd k x := by unfold Bd; omega
theorem Bd.le {k : Nat} {x y : Int} (h : Bd k y) (h0 : 0 ≤ x) (hx : x ≤ y) : Bd k x := by unfold Bd at *; omega
theorem Bd.pow {k : Nat} {x : Int} (h : Bd k x) : ∀ n : Nat, Bd (k * n + 1) (x ^ n)
  | 0 => by unfold Bd; simp
  | n + 1 => by
    rw [Int.pow_succ]
    have := (Bd.pow h n).mul h
    exact this.mono (by rw [Nat.mul_succ]; omega)
theorem bd_zero (k : Nat) : Bd k 0 := by unfold Bd; exact Nat.two_pow_pos k
theorem bd_one (k : Nat) : Bd (k + 1) 1 := by unfold Bd; have := Nat.pow_le_pow_right (show 0 < 2 by decide) (show 1 ≤ k + 1 by omega); have e : (1 : Int).natAbs = 1 := rfl; rw [e]; omega

/-! ### factorials, rising products -/
def fac : Nat → Nat
  | 0 => 1
  | n + 1 => fac n * (n + 1)
theorem fac_succ (n : Nat) : fac (n + 1) = fac n * (n + 1) := rfl
theorem fac_pos : ∀ n, 0 < fac n
  | 0 => Nat.one_pos
  | n + 1 => Nat.mul_pos (fac_pos n) (Nat.succ_pos n)
theorem fac_bd : ∀ n : Nat, n ≤ 63 → Bd (6 * n + 1) (fac n : Int)
  | 0, _ => by unfold Bd fac; decide
  | n + 1, h => by
    have e : (fac (n + 1) : Int) = (fac n : Int) * ((n + 1 : Nat) : Int) := by rw [fac_succ, Int.natCast_mul]
    rw [e]
    have := (fac_bd n (by omega)).mul (show Bd 6 ((n + 1 : Nat) : Int) by unfold Bd; rw [Int.natAbs_natCast]; omega)
    exact this.mono (by omega)
def prodF (a : Int) : Nat → Int
  | 0 => 1
  | n + 1 => prodF a n * (a + n)
theorem prodF_bd {k : Nat} {a : Int} (h : ∀ i : Nat, i < 64 → Bd k (a + i)) : ∀ n : Nat, n ≤ 64 → Bd (k * n + 1) (prodF a n)
  | 0, _ => by unfold Bd prodF; simp
  | n + 1, hn => by
    unfold prodF
    exact ((prodF_bd h n (by omega)).mul (h n (by omega))).mono (by rw [Nat.mul_succ]; omega)
/-- how often an order comes: n cards, d falls, t piles -/
def dealtBy (t : Int) (n : Nat) (d : Int) : Int := prodF (t - d) n / (fac n : Int)
/-- binomials -/
def ch : Nat → Nat → Nat
  | _, 0 => 1
  | 0, _ + 1 => 0
  | n + 1, k + 1 => ch n k + ch n (k + 1)
theorem ch_zero : ∀ {n k : Nat}, n < k → ch n k = 0
  | _, 0, h => absurd h (Nat.not_lt_zero _)
  | 0, _ + 1, _ => rfl
  | n + 1, k + 1, h => by unfold ch; rw [ch_zero (by omega), ch_zero (by omega)]
theorem ch_n0 (n : Nat) : ch n 0 = 1 := by cases n <;> rfl
theorem ch_succ (n k : Nat) : ch (n + 1) (k + 1) = ch n k + ch n (k + 1) := by rw [ch]
/-- (k + 1) * C(n + 1, k + 1) = (n + 1) * C(n, k) -/
theorem ch_absorb : ∀ n k : Nat, ch (n + 1) (k + 1) * (k + 1) = ch n k * (n + 1)
  | 0, 0 => rfl
  | 0, k + 1 => by rw [ch_zero (show 0 + 1 < k + 1 + 1 by omega), ch_zero (show 0 < k + 1 by omega), Nat.zero_mul, Nat.zero_mul]
  | n + 1, 0 => by
    have := ch_absorb n 0
    rw [ch_n0] at this ⊢
    rw [ch_succ, ch_n0]
    have e : ch (n + 1) (0 + 1) * (0 + 1) = ch (n + 1) (0 + 1) := Nat.mul_one _
    rw [e] at this
    have e2 : (1 + ch (n + 1) (0 + 1)) * (0 + 1) = 1 + ch (n + 1) (0 + 1) := Nat.mul_one _
    omega
  | n + 1, k + 1 => by
    have h1 := ch_absorb n k
    have h2 := ch_absorb n (k + 1)
    rw [ch_succ (n + 1) (k + 1), Nat.add_mul]
    have e1 : ch (n + 1) (k + 1) * (k + 1 + 1) = ch (n + 1) (k + 1) * (k + 1) + ch (n + 1) (k + 1) := Nat.mul_succ _ _
    rw [e1, h1, h2]
    have e2 : ch (n + 1) (k + 1) = ch n k + ch n (k + 1) := ch_succ n k
    rw [e2]
    have e3 : (ch n k + ch n (k + 1)) * (n + 1 + 1) = (ch n k + ch n (k + 1)) * (n + 1) + (ch n k + ch n (k + 1)) := Nat.mul_succ _ _
    rw [e3, Nat.add_mul]
    omega
/-- (n + 1 - k) * C(n + 1, k) = (n + 1) * C(n, k) -/
theorem ch_left : ∀ n k : Nat, k ≤ n + 1 → ch (n + 1) k * (n + 1 - k) = ch n k * (n + 1)
  | n, 0, _ => by rw [ch_n0, ch_n0]; rfl
  | n, k + 1, h => by
    have h1 := ch_absorb n k
    have h3 : ch (n + 1) (k + 1) * (n + 1 - (k + 1)) + ch (n + 1) (k + 1) * (k + 1) = ch (n + 1) (k + 1) * (n + 1) := by
      rw [← Nat.mul_add]
      congr 1
      omega
    have h4 : ch (n + 1) (k + 1) * (n + 1) = ch n k * (n + 1) + ch n (k + 1) * (n + 1) := by rw [ch_succ, Nat.add_mul]
    omega
/-- for a from 1 on the rising product is fac times a binomial -/
theorem prodF_ch (a : Nat) : ∀ n : Nat, prodF ((a : Int) + 1) n = ((ch (a + n) n * fac n : Nat) : Int)
  | 0 => by unfold prodF; rw [ch_n0]; rfl
  | n + 1 => by
    unfold prodF
    rw [prodF_ch a n]
    have h := ch_absorb (a + n) n
    have e : (a : Int) + 1 + (n : Int) = ((a + n + 1 : Nat) : Int) := by omega
    rw [e, ← Int.natCast_mul]
    congr 1
    rw [fac_succ]
    have e2 : a + (n + 1) = a + n + 1 := rfl
    rw [e2]
    calc ch (a + n) n * fac n * (a + n + 1) = fac n * (ch (a + n) n * (a + n + 1)) := by rw [Nat.mul_comm (ch _ _) (fac n), Nat.mul_assoc]
      _ = fac n * (ch (a + n + 1) (n + 1) * (n + 1)) := by rw [h]
      _ = ch (a + n + 1) (n + 1) * (fac n * (n + 1)) := by rw [← Nat.mul_assoc, Nat.mul_comm (fac n), Nat.mul_assoc]
theorem prodF_zero {a : Int} : ∀ {n : Nat}, -(n : Int) < a → a ≤ 0 → prodF a n = 0
  | 0, h, h2 => by omega
  | n + 1, h, h2 => by
    unfold prodF
    by_cases e : a + n = 0
    · rw [e, Int.mul_zero]
    · rw [prodF_zero (n := n) (by omega) h2, Int.zero_mul]
theorem dealtBy_ch {t : Int} {n : Nat} {d : Int} {a : Nat} (h : t - d = (a : Int) + 1) : dealtBy t n d = (ch (a + n) n : Int) := by
  unfold dealtBy
  rw [h, prodF_ch, Int.natCast_mul]
  exact Int.mul_ediv_cancel _ (by have := fac_pos n; omega)
theorem dealtBy_zero {t : Int} {n : Nat} {d : Int} (h : -(n : Int) < t - d) (h2 : t - d ≤ 0) : dealtBy t n d = 0 := by
  unfold dealtBy
  rw [prodF_zero h h2, Int.zero_ediv]
/-- the law's own way to reckon it -/
def topF (a : Int) : Nat → Int
  | 0 => 1
  | i + 1 => topF a i * (if 0 > a + i then 0 else a + i) / ((i : Int) + 1)
theorem topF_ch (a : Nat) : ∀ n : Nat, topF ((a : Int) + 1) n = (ch (a + n) n : Int)
  | 0 => by unfold topF; rw [ch_n0]; rfl
  | n + 1 => by
    unfold topF
    rw [topF_ch a n, if_neg (by omega)]
    have h := ch_absorb (a + n) n
    have e : (ch (a + n) n : Int) * ((a : Int) + 1 + (n : Int)) = (ch (a + (n + 1)) (n + 1) : Int) * ((n : Int) + 1) := by
      have e1 : (a : Int) + 1 + (n : Int) = ((a + n + 1 : Nat) : Int) := by omega
      have e2 : (n : Int) + 1 = ((n + 1 : Nat) : Int) := by omega
      rw [e1, e2, ← Int.natCast_mul, ← Int.natCast_mul]
      congr 1
      exact h.symm
    rw [e]
    exact Int.mul_ediv_cancel _ (by omega)
theorem topF_zero {a : Int} (h : a ≤ 0) : ∀ n : Nat, topF a (n + 1) = 0
  | 0 => by
    unfold topF topF
    have e : (if (0 : Int) > a + ((0 : Nat) : Int) then (0 : Int) else a + ((0 : Nat) : Int)) = 0 := by split <;> omega
    rw [e]; rfl
  | n + 1 => by unfold topF; rw [topF_zero h n, Int.zero_mul, Int.zero_ediv]
theorem topF_dealt {t d : Int} {n : Nat} (h : n = 0 ∨ -(n : Int) < t - d) : topF (t - d) n = dealtBy t n d := by
  by_cases hp : t - d ≤ 0
  · cases n with
    | zero => unfold dealtBy topF prodF fac; rfl
    | succ n => rw [topF_zero hp, dealtBy_zero (h.resolve_left (by omega)) hp]
  · obtain ⟨a, ha⟩ : ∃ a : Nat, t - d = (a : Int) + 1 := ⟨(t - d - 1).toNat, by omega⟩
    rw [dealtBy_ch ha, ha, topF_ch]
/-- behind each other numbers of falls: the law's other way -/
theorem step_dealt {t : Int} {n d : Nat} (hn : 0 < n) (hd : d + 1 ≤ n) (ht : 0 < t) :
    dealtBy t n d * (t - 1 - d) / (if 1 < t - 1 - d + n then t - 1 - d + n else 1) = dealtBy t n ((d : Int) + 1) := by
  by_cases h0 : t - 1 - d < 0
  · rw [dealtBy_zero (by omega) (by omega), dealtBy_zero (by omega) (by omega), Int.zero_mul, Int.zero_ediv]
  · obtain ⟨a, ha⟩ : ∃ a : Nat, t - 1 - d = (a : Int) := ⟨(t - 1 - d).toNat, by omega⟩
    have e1 : t - d = (a : Int) + 1 := by omega
    rw [dealtBy_ch e1, ha]
    have em : (if 1 < (a : Int) + n then (a : Int) + n else 1) = ((a + n : Nat) : Int) := by split <;> omega
    rw [em]
    cases a with
    | zero =>
      rw [dealtBy_zero (by omega) (by omega)]
      simp
    | succ a =>
      rw [dealtBy_ch (a := a) (by omega)]
      have h := ch_left (a + n) n (by omega)
      have e2 : a + 1 + n = a + n + 1 := by omega
      have e3 : a + n + 1 - n = a + 1 := by omega
      rw [e3] at h
      rw [e2]
      have e4 : (ch (a + n + 1) n : Int) * ((a + 1 : Nat) : Int) = (ch (a + n) n : Int) * ((a + n + 1 : Nat) : Int) := by
        rw [← Int.natCast_mul, ← Int.natCast_mul, h]
      rw [e4]
      exact Int.mul_ediv_cancel _ (by omega)
end K80

/-! ## FzE -/
set_option Elab.async false
set_option linter.all false
set_option maxRecDepth 100000
set_option maxHeartbeats 2000000
set_option autoImplicit false
/-! FzE: data that can be shown and told apart. -/
namespace Fz
open PySem L2 K80
def Sh (d : PyData) : Prop := d.showable = true ∧ d.hasDict = false ∧ d.depth ≤ 64 ∧ d.shown.length ≤ sizeLine
def SameOk (d : PyData) : Prop := Sh d ∧ SeqAt.shaped d = true ∧ PyData.eqv d d = true
/-- data of so great a depth, so many leaves -/
structure Nice (k m : Nat) (d : PyData) : Prop where
  sh : d.showable = true
  nd : d.hasDict = false
  dp : d.depth ≤ k
  lf : d.leavesShort 700 = true
  bk : d.bulk ≤ m
  ly : d.canLay0 = true
structure NiceL (k m : Nat) (ds : List PyData) : Prop where
  sh : PyData.showableAll ds = true
  nd : PyData.hasDictAll ds = false
  dp : PyData.depthAll ds ≤ k
  lf : PyData.leavesShortAll 700 ds = true
  bk : PyData.bulkAll ds ≤ m
  ly : PyData.canLayAll0 ds = true
theorem niceL_nil {k m : Nat} : NiceL k m [] := ⟨rfl, rfl, Nat.zero_le _, rfl, Nat.zero_le _, rfl⟩
theorem niceL_cons {k m n : Nat} {d : PyData} {ds : List PyData} (h : Nice k m d) (h2 : NiceL k n ds) : NiceL k (m + 1 + n) (d :: ds) := by
  refine ⟨?_, ?_, ?_, ?_, ?_, ?_⟩
  · show (d.showable && PyData.showableAll ds) = true
    rw [h.sh, h2.sh]; rfl
  · show (d.hasDict || PyData.hasDictAll ds) = false
    rw [h.nd, h2.nd]; rfl
  · show max d.depth (PyData.depthAll ds) ≤ k
    exact Nat.max_le.mpr ⟨h.dp, h2.dp⟩
  · show (d.leavesShort 700 && PyData.leavesShortAll 700 ds) = true
    rw [h.lf, h2.lf]; rfl
  · show d.bulk + 1 + PyData.bulkAll ds ≤ m + 1 + n
    have := h.bk; have := h2.bk; omega
  · show (d.canLay0 && PyData.canLayAll0 ds) = true
    rw [h.ly, h2.ly]; rfl
theorem niceL_all {k m : Nat} : ∀ {ds : List PyData}, (∀ d ∈ ds, Nice k m d) → NiceL k (ds.length * (m + 1)) ds
  | [], _ => niceL_nil
  | d :: ds, h => by
    have := niceL_cons (h d List.mem_cons_self) (niceL_all fun x hx => h x (List.mem_cons_of_mem _ hx))
    rw [List.length_cons, Nat.succ_mul, Nat.add_comm]
    exact this
theorem NiceL.mono {k k' m m' : Nat} {ds : List PyData} (h : NiceL k m ds) (hk : k ≤ k') (hm : m ≤ m') : NiceL k' m' ds := ⟨h.sh, h.nd, Nat.le_trans h.dp hk, h.lf, Nat.le_trans h.bk hm, h.ly⟩
theorem Nice.mono {k k' m m' : Nat} {d : PyData} (h : Nice k m d) (hk : k ≤ k') (hm : m ≤ m') : Nice k' m' d := ⟨h.sh, h.nd, Nat.le_trans h.dp hk, h.lf, Nat.le_trans h.bk hm, h.ly⟩
theorem nice_tup {k m : Nat} {ds : List PyData} (h : NiceL k m ds) : Nice (k + 1) m (.tuple ds) := ⟨h.sh, h.nd, Nat.succ_le_succ h.dp, h.lf, h.bk, h.ly⟩
theorem nice_lst {k m : Nat} {ds : List PyData} (h : NiceL k m ds) : Nice (k + 1) m (.list ds) := ⟨h.sh, h.nd, Nat.succ_le_succ h.dp, h.lf, h.bk, h.ly⟩
theorem nice_eT {α : Type} {e : α → PyData} {k m n : Nat} {xs : List α} (h : ∀ x ∈ xs, Nice k m (e x)) (hn : xs.length ≤ n) : Nice (k + 1) (n * (m + 1)) (eT e xs) := by
  refine nice_tup ((niceL_all (k := k) (m := m) (ds := xs.map e) fun d hd => ?_).mono (Nat.le_refl _) (by rw [List.length_map]; exact Nat.mul_le_mul_right _ hn))
  obtain ⟨x, hx, rfl⟩ := List.mem_map.mp hd
  exact h x hx
theorem nice_eL {α : Type} {e : α → PyData} {k m n : Nat} {xs : List α} (h : ∀ x ∈ xs, Nice k m (e x)) (hn : xs.length ≤ n) : Nice (k + 1) (n * (m + 1)) (eL e xs) := by
  refine nice_lst ((niceL_all (k := k) (m := m) (ds := xs.map e) fun d hd => ?_).mono (Nat.le_refl _) (by rw [List.length_map]; exact Nat.mul_le_mul_right _ hn))
  obtain ⟨x, hx, rfl⟩ := List.mem_map.mp hd
  exact h x hx
theorem nice_bool (b : Bool) {k m : Nat} : Nice k m (.bool b) := ⟨rfl, rfl, Nat.zero_le _, rfl, Nat.zero_le _, rfl⟩
theorem nice_none {k m : Nat} : Nice k m .none := ⟨rfl, rfl, Nat.zero_le _, rfl, Nat.zero_le _, rfl⟩
theorem int_short {i : Int} (h : Bd 1920 i) : (PyData.int i).shown.length ≤ 700 := by
  have big : (2 : Nat) ^ 1920 ≤ 10 ^ 600 := by decide +kernel
  have nat : ∀ m : Nat, m < 2 ^ 1920 → (Str.ofString (toString (m : Int))).length ≤ 600 := fun m hm => by
    refine PyProof.Rows.toString_length_le (by omega) (by decide) ?_
    have : (m : Int) < ((10 ^ 600 : Nat) : Int) := by
      have := Nat.lt_of_lt_of_le hm big
      omega
    rw [Int.natCast_pow] at this
    exact this
  rw [PyData.shown_int]
  cases i with
  | ofNat m => exact Nat.le_trans (nat m h) (by decide)
  | negSucc m =>
    have h1 := nat (m + 1) h
    have e : toString (Int.negSucc m) = "-" ++ toString ((m + 1 : Nat) : Int) := rfl
    rw [PyProof.Rows.ofString_length] at h1
    show (Str.ofString (toString (Int.negSucc m))).length ≤ 700
    rw [PyProof.Rows.ofString_length, e, String.toList_append, List.length_append]
    have e2 : ("-" : String).toList.length = 1 := rfl
    omega
theorem nice_int {i : Int} {k m : Nat} (h : Bd 1920 i) : Nice k m (.int i) := by
  refine ⟨?_, rfl, Nat.zero_le _, decide_eq_true (int_short h), Nat.zero_le _, rfl⟩
  show decide (i.natAbs.log2 < 1920) = true
  refine decide_eq_true ?_
  by_cases c : i.natAbs = 0
  · rw [c]; decide
  · exact (Nat.log2_lt c).mpr h
theorem nice_ints {l : List Int} {n : Nat} (h : ∀ x ∈ l, Bd 1920 x) (hn : l.length ≤ n) : Nice 1 n (.tuple (l.map PyData.int)) := by
  have := nice_eT (e := PyData.int) (k := 0) (m := 0) (xs := l) (fun x hx => nice_int (h x hx)) hn
  rw [Nat.mul_one] at this
  exact this
theorem Nice.show {k m : Nat} {d : PyData} (h : Nice k m d) (hk : k ≤ 64) (hm : m ≤ 20000) : Sh d := by
  refine ⟨h.sh, h.nd, Nat.le_trans h.dp hk, ?_⟩
  have := PyData.shown_le_bulk 700 (by decide) d h.lf
  have h2 := h.bk
  have : (700 + 2) * d.bulk ≤ 702 * 20000 := Nat.mul_le_mul_left _ (Nat.le_trans h2 hm)
  rw [sizeLine_eq]
  omega
theorem Nice.shp {k m : Nat} {d : PyData} (h : Nice k m d) (hk : k ≤ 64) : SeqAt.shaped d = true := by
  unfold SeqAt.shaped
  rw [h.ly, decide_eq_true (Nat.le_trans h.dp hk)]; rfl
theorem Nice.same {k m : Nat} {d : PyData} (h : Nice k m d) (hk : k ≤ 64) (hm : m ≤ 20000) : SameOk d := ⟨h.show hk hm, h.shp hk, SeqAt.eqv_refl d h.ly⟩
section
variable {B : Bg} {ε : Eps} {L La : Own} {te : TE}
theorem ex_rep {d : PyData} (s : Sh d) (h : EX B te ε L (.d d) La) : EX B (tCB (rReprD B.K) (tCons te tNil)) ε L (.d (.str d.shown)) La := ex_repr h s.1 s.2.1 s.2.2.1 s.2.2.2
end
/-! ### encoders that tell apart -/
/-- equal data, equal things -/
def Eq' {α : Type} [DecidableEq α] (e : α → PyData) : Prop := ∀ x y, PyData.eqv (e x) (e y) = decide (x = y)
theorem eq_int : Eq' PyData.int := fun a b => by
  show (a == b) = decide (a = b)
  by_cases h : a = b
  · subst h; simp
  · rw [decide_eq_false h, beq_eq_false_iff_ne.mpr h]
theorem eq_bool : Eq' PyData.bool := fun a b => by cases a <;> cases b <;> rfl
theorem eqv_all {α : Type} [DecidableEq α] {e : α → PyData} (h : Eq' e) : ∀ a b : List α, PyData.eqvAll (a.map e) (b.map e) = decide (a = b)
  | [], [] => by simp [PyData.eqvAll]
  | [], _ :: _ => by simp [PyData.eqvAll]
  | _ :: _, [] => by simp [PyData.eqvAll]
  | x :: a, y :: b => by
    show (PyData.eqv (e x) (e y) && PyData.eqvAll (a.map e) (b.map e)) = _
    rw [h, eqv_all h a b]
    by_cases h1 : x = y
    · subst h1
      by_cases h2 : a = b
      · subst h2; simp
      · simp [h2]
    · simp [h1]
theorem eq_eT {α : Type} [DecidableEq α] {e : α → PyData} (h : Eq' e) : Eq' (eT e) := fun a b => eqv_all h a b
theorem eq_eL {α : Type} [DecidableEq α] {e : α → PyData} (h : Eq' e) : Eq' (eL e) := fun a b => eqv_all h a b
theorem eq_eP {α β : Type} [DecidableEq α] [DecidableEq β] {e : α → PyData} {f : β → PyData} (h : Eq' e) (h2 : Eq' f) : Eq' (eP e f) := fun a b => by
  show (PyData.eqv (e a.1) (e b.1) && (PyData.eqv (f a.2) (f b.2) && true)) = _
  rw [h, h2, Bool.and_true]
  obtain ⟨a1, a2⟩ := a
  obtain ⟨b1, b2⟩ := b
  by_cases h1 : a1 = b1
  · subst h1
    by_cases h3 : a2 = b2
    · subst h3; simp
    · simp [h3]
  · simp [h1]
end Fz

/-! ## FzG -/
set_option Elab.async false
set_option linter.all false
set_option maxRecDepth 100000
set_option maxHeartbeats 2000000
set_option autoImplicit false
/-! FzG: draws from the bag, known by their bounds. -/
namespace Fz
open PySem L2 K80
abbrev S_draw (K : PySem.W.Frag) : Sp := spG K (fun n : Int => [.int n]) (fun n => 0 < n ∧ n < 2 ^ 200) PyData.int (fun n x => 0 ≤ x ∧ x < n)
abbrev S_pick (K : PySem.W.Frag) : Sp := spG K (fun xs : List PyData => [.list xs]) (fun xs => xs ≠ [] ∧ xs.length ≤ 100000) eD (fun xs d => d ∈ xs)
theorem small_n {n : Int} (h0 : 0 < n) (h : n < 2 ^ 200) : n.natAbs < 2 ^ 8000 := by
  have h1 : n.natAbs < 2 ^ 200 := by
    have e : ((2 : Int) ^ 200) = ((2 ^ 200 : Nat) : Int) := by decide
    rw [e] at h
    omega
  exact Nat.lt_of_lt_of_le h1 (Nat.pow_le_pow_right (by decide) (by decide))
section
variable {P : Program} {w : World} {K : PySem.W.Frag} {mg : Str → Option Value} {base : Heap} {f : Addr} {fd : FuncData} {ps : List Str} {k : Nat}
theorem draw_wk (h : FnOk P w K mg base CX0 k f fd ps (spB K R_draw)) : FnOk P w K mg base CX0 k f fd ps (S_draw K) :=
  fn_wk h (spG_of fun n b ⟨h0, h1⟩ => ⟨drawV b n, drawB b n, ⟨n, h0, small_n h0 h1, rfl, rfl, rfl⟩, drawV_ok b h0⟩)
theorem pick_wk (h : FnOk P w K mg base CX0 k f fd ps (spB K R_pick)) : FnOk P w K mg base CX0 k f fd ps (S_pick K) :=
  fn_wk h (spG_of fun xs b ⟨h0, h1⟩ => by
    have hpos := List.length_pos_iff.mpr h0
    have hv := drawV_ok b (show (0 : Int) < (xs.length : Int) by omega)
    have hlt : (drawV b xs.length).toNat < xs.length := by omega
    refine ⟨xs.getD (drawV b xs.length).toNat .none, drawB b xs.length, ⟨xs, h0, h1, rfl, rfl, rfl⟩, ?_⟩
    rw [List.getD_eq_getElem?_getD, List.getElem?_eq_getElem hlt]
    exact List.getElem_mem hlt)
end
section
variable {B : Bg} {ε : Eps} {L La : Own} {tas : TA} {E : XK} {pb pc : Addr} {α : Type} {e : α → PyData}
theorem w_draw {κ : Int → Own → Prop} (h : WA B tas ε L fun as L1 => ∃ (n : Int) (b : Bag) (L2 : Bag → Own), as = [.v (.ref pb), .d (.int n)] ∧ (∀ b', Up L1 (b.at pb pc) (b'.at pb pc) (L2 b')) ∧ 0 < n ∧ n < 2 ^ 200 ∧ ∀ x b', 0 ≤ x → x < n → κ x (L2 b')) : WV B PyData.int (tCall (S_draw B.K) [] E tas) ε L κ :=
  w_callG (pb := pb) (pc := pc) fun F σ H r Q q => h F σ H r Q fun as L' vs F' H' ⟨n, b, L2, ea, hup, h0, h1, k⟩ => q as L' vs F' H' ⟨n, b, L2, ea, hup, ⟨h0, h1⟩, fun x b' hx => k x b' hx.1 hx.2⟩
/-- draw(bag, n), n at hand -/
theorem w_drw {κ : Int → Own → Prop} {i : Nat} {te : TE} {n : Int} {b : Bag} {L2 : Bag → Own} (hb : ε[i]? = some (some (.v (.ref pb)))) (hn : EX B te ε L (.d (.int n)) L) (hup : ∀ b', Up L (b.at pb pc) (b'.at pb pc) (L2 b')) (h0 : 0 < n ∧ n < 2 ^ 200) (k : ∀ x b', 0 ≤ x → x < n → κ x (L2 b')) : WV B PyData.int (tCall (S_draw B.K) [] E (tCons (tVar i) (tCons te tNil))) ε L κ :=
  w_draw (wa_x (ex_v hb) (wa_x hn (wa_nil ⟨n, b, L2, rfl, hup, h0.1, h0.2, k⟩)))
theorem w_pick {κ : α → Own → Prop} (h : WA B tas ε L fun as L1 => ∃ (xs : List α) (b : Bag) (L2 : Bag → Own), as = [.v (.ref pb), .d (eL e xs)] ∧ (∀ b', Up L1 (b.at pb pc) (b'.at pb pc) (L2 b')) ∧ xs ≠ [] ∧ xs.length ≤ 100000 ∧ ∀ x b', x ∈ xs → κ x (L2 b')) : WV B e (tCall (S_pick B.K) [] E tas) ε L κ :=
  wv_as (e := eD) (w_callG (pb := pb) (pc := pc) fun F σ H r Q q => h F σ H r Q fun as L' vs F' H' ⟨xs, b, L2, ea, hup, h0, h1, k⟩ => q as L' vs F' H' ⟨xs.map e, b, L2, ea, hup, ⟨by simpa using h0, by rw [List.length_map]; exact h1⟩, fun x b' hx => by
    obtain ⟨y, hy, rfl⟩ := List.mem_map.mp hx
    exact ⟨y, rfl, k y b' hy⟩⟩)
/-- pick(bag, xs), xs at hand -/
theorem w_pck {κ : α → Own → Prop} {xs : List α} {i : Nat} {te : TE} {b : Bag} {L2 : Bag → Own} (hb : ε[i]? = some (some (.v (.ref pb)))) (hn : EX B te ε L (.d (eL e xs)) La) (hup : ∀ b', Up La (b.at pb pc) (b'.at pb pc) (L2 b')) (h0 : xs ≠ []) (h1 : xs.length ≤ 100000) (k : ∀ x b', x ∈ xs → κ x (L2 b')) : WV B e (tCall (S_pick B.K) [] E (tCons (tVar i) (tCons te tNil))) ε L κ :=
  w_pick (wa_x (ex_v hb) (wa_x hn (wa_nil ⟨xs, b, L2, rfl, hup, h0, h1, k⟩)))
end
end Fz

/-! ## FzH -/
set_option Elab.async false
set_option linter.all false
set_option maxRecDepth 100000
set_option maxHeartbeats 2000000
set_option autoImplicit false
/-! FzH: tuples and lists by what their items stand for. -/
namespace Fz
open PySem L2
theorem cut_to {α : Type} (e : α → PyData) (xs : List α) {i : Int} (h : 0 ≤ i) : cutD (xs.map e) none (some i) = (xs.take i.toNat).map e := by
  unfold cutD
  have e1 : HT.sIx (xs.map e).length 0 none = 0 := rfl
  have e2 : HT.sIx (xs.map e).length (xs.map e).length (some i) = min i.toNat (xs.map e).length := by
    show (if i < 0 then _ else _) = _
    rw [if_neg (by omega)]
  rw [e1, e2, List.drop_zero, Nat.sub_zero, List.map_take]
  by_cases c : i.toNat ≤ (xs.map e).length
  · rw [Nat.min_eq_left c]
  · rw [Nat.min_eq_right (by omega), List.take_length, List.take_of_length_le (by omega)]
theorem cut_from {α : Type} (e : α → PyData) (xs : List α) {i : Int} (h : 0 ≤ i) : cutD (xs.map e) (some i) none = (xs.drop i.toNat).map e := by
  unfold cutD
  have e1 : HT.sIx (xs.map e).length (xs.map e).length none = (xs.map e).length := rfl
  have e2 : HT.sIx (xs.map e).length 0 (some i) = min i.toNat (xs.map e).length := by
    show (if i < 0 then _ else _) = _
    rw [if_neg (by omega)]
  rw [e1, e2, List.map_drop]
  by_cases c : i.toNat ≤ (xs.map e).length
  · rw [Nat.min_eq_left c, List.take_of_length_le (by rw [List.length_drop]; exact Nat.le_refl _)]
  · rw [Nat.min_eq_right (by omega), List.drop_length, Nat.sub_self, List.take_zero, List.drop_eq_nil_of_le (by omega)]
theorem cut_mid {α : Type} (e : α → PyData) (xs : List α) {i j : Int} (h : 0 ≤ i) (h2 : 0 ≤ j) : cutD (xs.map e) (some i) (some j) = ((xs.drop i.toNat).take (j.toNat - i.toNat)).map e := by
  unfold cutD
  have e1 : HT.sIx (xs.map e).length (xs.map e).length (some j) = min j.toNat (xs.map e).length := by
    show (if j < 0 then _ else _) = _
    rw [if_neg (by omega)]
  have e2 : HT.sIx (xs.map e).length 0 (some i) = min i.toNat (xs.map e).length := by
    show (if i < 0 then _ else _) = _
    rw [if_neg (by omega)]
  rw [e1, e2, List.map_take, List.map_drop]
  have hl : ((xs.map e).drop i.toNat).length = (xs.map e).length - i.toNat := List.length_drop ..
  generalize (xs.map e) = zs at *
  by_cases c : i.toNat ≤ zs.length
  · have m1 : min i.toNat zs.length = i.toNat := Nat.min_eq_left c
    rw [m1]
    by_cases c2 : j.toNat ≤ zs.length
    · rw [Nat.min_eq_left c2]
    · rw [Nat.min_eq_right (by omega), List.take_of_length_le (by omega), List.take_of_length_le (by omega)]
  · have m1 : min i.toNat zs.length = zs.length := Nat.min_eq_right (by omega)
    rw [m1, List.drop_length, List.drop_eq_nil_of_le (show zs.length ≤ i.toNat by omega), List.take_nil, List.take_nil]
section
variable {B : Bg} {ε : Eps} {L La Lb Lc : Own} {te ta tb ti tj : TE} {x : AD} {α β : Type} {e : α → PyData} {f : β → PyData} {xs ys : List α} {i j : Int}
theorem ex_take (h : EX B te ε L (.d (eT e xs)) La) (h1 : EX B ti ε La (.d (.int i)) Lb) (hi : 0 ≤ i) : EX B (tSl (rSlA B.K) te tNoPart (tPart ti)) ε L (.d (eT e (xs.take i.toNat))) Lb :=
  ex_is (ex_slT (ds := xs.map e) h eo_n (eo_s h1)) (by rw [cut_to e xs hi]; rfl)
theorem ex_from (h : EX B te ε L (.d (eT e xs)) La) (h1 : EX B ti ε La (.d (.int i)) Lb) (hi : 0 ≤ i) : EX B (tSl (rSlA B.K) te (tPart ti) tNoPart) ε L (.d (eT e (xs.drop i.toNat))) Lb :=
  ex_is (ex_slT (ds := xs.map e) h (eo_s h1) eo_n) (by rw [cut_from e xs hi]; rfl)
theorem ex_mid (h : EX B te ε L (.d (eT e xs)) La) (h1 : EX B ti ε La (.d (.int i)) Lb) (h2 : EX B tj ε Lb (.d (.int j)) Lc) (hi : 0 ≤ i) (hj : 0 ≤ j) : EX B (tSl (rSlA B.K) te (tPart ti) (tPart tj)) ε L (.d (eT e ((xs.drop i.toNat).take (j.toNat - i.toNat)))) Lc :=
  ex_is (ex_slT (ds := xs.map e) h (eo_s h1) (eo_s h2)) (by rw [cut_mid e xs hi hj]; rfl)
theorem en_take (h : EX B te ε L x La) (h1 : EX B ti ε La (.d (.int i)) Lb) (hx : IsL Lb x (xs.map e)) (hi : 0 ≤ i) : EN B (tSl (rSlL B.K) te tNoPart (tPart ti)) ε L ((xs.take i.toNat).map e) Lb :=
  en_is (en_slL (ds := xs.map e) h eo_n (eo_s h1) hx) (cut_to e xs hi)
theorem en_from (h : EX B te ε L x La) (h1 : EX B ti ε La (.d (.int i)) Lb) (hx : IsL Lb x (xs.map e)) (hi : 0 ≤ i) : EN B (tSl (rSlL B.K) te (tPart ti) tNoPart) ε L ((xs.drop i.toNat).map e) Lb :=
  en_is (en_slL (ds := xs.map e) h (eo_s h1) eo_n hx) (cut_from e xs hi)
theorem ex_cat (h : EX B ta ε L (.d (eT e xs)) La) (h2 : EX B tb ε La (.d (eT e ys)) Lb) (hl : xs.length + ys.length ≤ 100000) : EX B (tOp (rCatA B.K) ta tb) ε L (.d (eT e (xs ++ ys))) Lb :=
  ex_is (ex_catT (ds := xs.map e) (es := ys.map e) h h2 (by rw [List.length_map, List.length_map]; exact hl)) (by unfold eT; rw [List.map_append])
theorem ex_len (h : EX B te ε L (.d (eT e xs)) La) {r : List V → Hp → VK → Prop} (hr : r = fun xs H Q => ∃ p ys, xs = [.ref p] ∧ (SqL B.K H p ys ∨ SqT B.K H p ys) ∧ Q (.int ys.length) H := by rfl) : EX B (tCB r (tCons te tNil)) ε L (.d (.int (xs.length : Int))) La :=
  ex_int (ex_lenT (ds := xs.map e) h hr) (by rw [List.length_map])
theorem ex_lenl (h : EX B te ε L x La) (hx : IsL La x (xs.map e)) {r : List V → Hp → VK → Prop} (hr : r = fun xs H Q => ∃ p ys, xs = [.ref p] ∧ (SqL B.K H p ys ∨ SqT B.K H p ys) ∧ Q (.int ys.length) H := by rfl) : EX B (tCB r (tCons te tNil)) ε L (.d (.int (xs.length : Int))) La :=
  ex_int (ex_lenL (ds := xs.map e) h hx hr) (by rw [List.length_map])
theorem at_e {n : Nat} {a : α} (h : xs[n]? = some a) : atI (xs.map e) (n : Int) = some (e a) := atI_nat (by rw [List.getElem?_map, h]; rfl)
theorem ex_at {n : Nat} {a : α} (h : EX B ta ε L (.d (eT e xs)) La) (h2 : EX B tb ε La (.d (.int i)) Lb) (hn : i = (n : Int)) (ha : xs[n]? = some a) : EX B (tOp (rIxT B.K) ta tb) ε L (.d (e a)) Lb := ex_ixT (ds := xs.map e) h h2 (by rw [hn]; exact at_e ha)
theorem ex_atl {n : Nat} {a : α} (h : EX B ta ε L x La) (h2 : EX B tb ε La (.d (.int i)) Lb) (hx : IsL Lb x (xs.map e)) (hn : i = (n : Int)) (ha : xs[n]? = some a) : EX B (tOp (rIxL B.K) ta tb) ε L (.d (e a)) Lb := ex_ixL (ds := xs.map e) h h2 hx (by rw [hn]; exact at_e ha)
theorem at_end {a : α} {zs : List α} : atI ((zs ++ [a]).map e) (-1) = some (e a) := by
  unfold atI ixN
  have hl : ((zs ++ [a]).map e).length = zs.length + 1 := by rw [List.length_map, List.length_append]; rfl
  rw [hl]
  have h1 : ¬ (0 ≤ (-1 : Int)) := by decide
  rw [if_neg h1]
  split
  · have e3 : ((-1 : Int) + ((zs.length + 1 : Nat) : Int)).toNat = zs.length := by omega
    simp only [Option.bind]
    rw [e3, List.getElem?_map, List.getElem?_append_right (Nat.le_refl _), Nat.sub_self]
    rfl
  · omega
/-! displays that draw -/
variable {tas : TA} {D : Ends} {tt : TT} {ts tw : TS}
theorem w_dispL {κ : List α → Own → Prop} (h : WA B tas ε L fun as L1 => ∃ xs : List α, as = xs.map (fun x => AD.d (e x)) ∧ xs.length ≤ 100000 ∧ κ xs L1) : WV B (eL e) (tLst tas) ε L κ :=
  w_frz (w_lst fun F σ H r Q q => h F σ H r Q fun as L' vs F' H' ⟨xs, ea, hl, k⟩ => q as L' vs F' H' ⟨xs.map e, by rw [ea, List.map_map]; rfl, by rw [List.length_map]; exact hl, fun p hp => ⟨_, _, xs, hp, rfl, rfl, k⟩⟩)
theorem w_dispT {κ : List α → Own → Prop} (h : WA B tas ε L fun as L1 => ∃ xs : List α, as = xs.map (fun x => AD.d (e x)) ∧ xs.length ≤ 100000 ∧ κ xs L1) : WV B (eT e) (tTup tas) ε L κ :=
  w_tup (ty := fun _ => .none) fun F σ H r Q q => h F σ H r Q fun as L' vs F' H' ⟨xs, ea, hl, k⟩ => q as L' vs F' H' ⟨xs.map e, xs, by rw [ea, List.map_map]; rfl, by rw [List.length_map]; exact hl, rfl, k⟩
theorem w_pair {κ : α × β → Own → Prop} (h : WV B e ta ε L fun x L1 => WV B f tb ε L1 fun y L2 => κ (x, y) L2) : WV B (eP e f) (tTup (tCons ta (tCons tb tNil))) ε L κ :=
  w_tup (ty := fun _ => .none) (wa_v (wv_mono h fun x L1 k => wa_v (wv_mono k fun y L2 k => wa_nil ⟨[e x, f y], (x, y), rfl, Nat.le_of_ble_eq_true rfl, rfl, k⟩)))
theorem ex_pair {x : α} {y : β} (h : EX B ta ε L (.d (e x)) La) (h2 : EX B tb ε La (.d (f y)) Lb) : EX B (tTup (tCons ta (tCons tb tNil))) ε L (.d (eP e f (x, y))) Lb :=
  ex_tup (ds := [e x, f y]) (ea_cons h (ea_cons h2 ea_nil)) (Nat.le_of_ble_eq_true rfl)
theorem rx_catT {ds es : List PyData} (hl : ds.length + es.length ≤ 100000) : RX B (rCatA B.K) ε L (.d (.tuple ds)) (.d (.tuple es)) (.d (.tuple (ds ++ es))) L := fun F σ H v w rp hv hw Q q => by
  obtain ⟨p, vs, rfl, g1, g2⟩ := tup_inv hv
  obtain ⟨p', ws, rfl, g3, g4⟩ := tup_inv hw
  have app := dpa_app g2 g4
  refine ⟨p, p', vs, ws, rfl, rfl, tq_sub rp.sub g1, tq_sub rp.sub g3, Evl.sz_of (by rw [dpa_len g2, dpa_len g4]; exact hl), fun e => ?_, fun _ e => ?_, fun _ _ n hn => ?_⟩
  · subst e
    exact q _ F H (Sub.rfl' F) rp (.tup g3 app)
  · subst e
    rw [List.append_nil] at app
    exact q _ F H (Sub.rfl' F) rp (.tup g1 app)
  · have hF := sub_none rp.sub hn
    exact q _ _ _ (sub_fresh hF) (rp.grow hn) (.tup upd_same (dpa_sub (sub_fresh hF) app))
theorem w_catT {κ : List α → Own → Prop} (h : WV B (eT e) ta ε L fun x L1 => WV B (eT e) tb ε L1 fun y L2 => x.length + y.length ≤ 100000 ∧ κ (x ++ y) L2) : WV B (eT e) (tOp (rCatA B.K) ta tb) ε L κ :=
  w_op (e := eT e) (f := eT e) (g := eT e) (wv_mono h fun x L1 k => wv_mono k fun y L2 k => ⟨x ++ y, by
    have := rx_catT (B := B) (ε := ε) (L := L2) (ds := x.map e) (es := y.map e) (by rw [List.length_map, List.length_map]; exact k.1)
    rw [← List.map_append] at this
    exact this, k.2⟩)
theorem x_ifJ {J : Own → Prop} (h : WT B tt ε L fun b L1 => (b = true → Ho B (ts D) ε L1) ∧ (b = false → J L1)) (he : ∀ L1, J L1 → Ho B (tw D) ε L1) : Ho B (tIfS tt ts tw D) ε L :=
  x_ifW (wt_mono h fun b L1 k => ⟨k.1, fun hb => he L1 (k.2 hb)⟩)
theorem x_asgP2 {i j : Nat} (h : WA B tas ε L fun as L1 => ∃ a b, as = [a, b] ∧ Ho B D.nx ((ε.set i (some a)).set j (some b)) L1) : Ho B (tAsg (tTup tas) (gTup B.K 2 (gCons (gName i) (gCons (gName j) gNil))) D) ε L := fun F σ H r =>
  h F σ H r _ fun as L1 vs F1 H1 ⟨a, b, ea, k⟩ _ r1 o1 => by
    subst ea
    match vs, o1 with
    | [v, w], o =>
      refine ⟨by show 2 ≤ sizeLine; decide, fun p hp => ⟨p, [v, w], rfl, .inl (.inl upd_same), rfl, _, _, rfl, _, _, rfl, rfl, ?_⟩⟩
      exact k F1 _ _ (((r1.heap (sub_fresh hp)).slot o.1).slot o.2.1)
theorem x_asgP3 {i j l : Nat} (h : WA B tas ε L fun as L1 => ∃ a b c, as = [a, b, c] ∧ Ho B D.nx (((ε.set i (some a)).set j (some b)).set l (some c)) L1) : Ho B (tAsg (tTup tas) (gTup B.K 3 (gCons (gName i) (gCons (gName j) (gCons (gName l) gNil)))) D) ε L := fun F σ H r =>
  h F σ H r _ fun as L1 vs F1 H1 ⟨a, b, c, ea, k⟩ _ r1 o1 => by
    subst ea
    match vs, o1 with
    | [u, v, w], o =>
      refine ⟨by show 3 ≤ sizeLine; decide, fun p hp => ⟨p, [u, v, w], rfl, .inl (.inl upd_same), rfl, _, _, rfl, _, _, rfl, _, _, rfl, rfl, ?_⟩⟩
      exact k F1 _ _ ((((r1.heap (sub_fresh hp)).slot o.1).slot o.2.1).slot o.2.2.1)
/-! walks over what is drawn -/
variable {tc : TS} {g : TG}
theorem x_forR1W {j : Nat} (h : WA B tas ε L fun as L1 => ∃ n : Int, as = [.d (.int n)] ∧ (-(2 ^ 62) ≤ n ∧ n < 2 ^ 62) ∧ ∃ I : Nat → Eps → Own → Prop, I 0 ε L1 ∧
    (∀ (i : Nat) ε' L', (i : Int) < n → I i ε' L' → Ho B (tc { D with nx := AbsP B (I (i + 1)), ct := AbsP B (I (i + 1)), bk := D.nx }) (ε'.set j (some (.d (.int (i : Int))))) L') ∧
    (∀ ε' L', I n.toNat ε' L' → Ho B D.nx ε' L')) : Ho B (tFor (iRng1 tas) (gName j) tc D) ε L := fun F σ H r =>
  h F σ H r _ fun as L1 vs F1 H1 ⟨n, ea, hn, I, h0, hs, hd⟩ s1 r1 o1 => by
    subst ea
    match vs, o1 with
    | [v], o =>
      have ev : v = .int n := int_inv o.1
      subst ev
      exact x_forR1 (tas := fun σ H Q => Q [.int n] H) (fun F σ H r Q q => q [.int n] F H (Sub.rfl' F) r ⟨.int n, trivial⟩) hn I h0 hs hd F1 σ H1 r1
theorem x_forLW (h : WV B eD te ε L fun d L1 => ∃ ds : List PyData, d = .list ds ∧ ∃ I : V → Nat → Eps → Own → Prop, (∀ v, I v 0 ε (L1 ++ [.know v (.list ds)])) ∧ (∀ v i ε' L', I v i ε' L' → MO.know v (.list ds) ∈ L') ∧
    (∀ v i d ε' L', ds[i]? = some d → I v i ε' L' → ∃ ε'', GT B g (.d d) ε' ε'' ∧ Ho B (tc { D with nx := AbsP B (I v (i + 1)), ct := AbsP B (I v (i + 1)), bk := D.nx }) ε'' L') ∧
    (∀ v ε' L', I v ds.length ε' L' → Ho B D.nx ε' L')) : Ho B (tFor (iList B.K te) g tc D) ε L := fun F σ H r =>
  h F σ H r _ fun d L1 v F1 H1 ⟨ds, ed, I, h0, hl, hs, hd⟩ s1 r1 o1 => by
    have o' : Dq B.K F1 v (.list ds) := by rw [← ed]; exact o1
    have r2 := r1.learn o'
    cases o' with
    | @lst p vs _ q1 q2 =>
      have back : ∀ {i : Nat} {ε' : Eps} {L' : Own} {F' : Hp} {σ' : St} {H' : Hp}, I (.ref p) i ε' L' → Rep B ε' L' F' σ' H' → ∃ ws, SqL B.K H' p ws ∧ DqAll B.K F' ws ds := fun hI r' => by
        have k : Dq B.K _ (.ref p) (.list ds) := r'.own _ (hl _ _ _ _ hI)
        cases k with
        | lst k1 k2 => exact ⟨_, .inl (.inl (r'.sub _ _ k1)), k2⟩
      refine ⟨p, rfl, ⟨vs, .inl (.inl (r1.sub _ _ q1))⟩, ⟨fun i m σ' H' => m = ds.length - i ∧ i ≤ ds.length ∧ AbsP B (I (.ref p) i) σ' H', ⟨_, rfl, Nat.zero_le _, ε, _, F1, h0 _, r2⟩, ?_⟩⟩
      rintro i m σ' H' ⟨rfl, hi, ε', L', F', hI, r'⟩
      obtain ⟨ws, k1, k2⟩ := back hI r'
      by_cases hlt : i < ds.length
      · obtain ⟨d, hdi⟩ : ∃ d, ds[i]? = some d := ⟨_, List.getElem?_eq_getElem hlt⟩
        obtain ⟨w, e1, e2⟩ := dpa_get k2 hdi
        obtain ⟨ε'', hg, hb⟩ := hs _ i d ε' L' hdi hI
        refine .inr ⟨⟨ws, w, k1, e1⟩, AbsP B (I (.ref p) (i + 1)), fun σ2 H2 hN => ⟨ds.length - (i + 1), by omega, rfl, hlt, hN⟩, fun x H2 hy => ?_⟩
        obtain ⟨rfl, hx⟩ := hy
        have ex : x = w := Option.some.inj ((hx ws k1).symm.trans e1)
        subst ex
        exact hg L' F' σ' _ x r' e2 _ fun σ3 r3 => hb F' σ3 _ r3
      · have ei : i = ds.length := by omega
        subst ei
        exact .inl ⟨⟨ws, k1, by rw [dpa_len k2]; exact Nat.le_refl _⟩, hd _ _ _ hI F' σ' H' r'⟩
/-- an expression of one outcome alone -/
theorem ex_of {a : α} (h : ∀ κ : α → Own → Prop, κ a La → WV B e te ε L κ) : EX B te ε L (.d (e a)) La := fun F σ H r Q q =>
  h (fun y L' => y = a ∧ L' = La) ⟨rfl, rfl⟩ F σ H r Q fun y L' v F' H' ⟨e1, e2⟩ s r' o => by
    subst e1 e2
    exact q v F' H' s r' o
/-- x == [] -/
theorem ex_eqNil {ds : List PyData} (h : EX B ta ε L x La) (hx : IsL La x ds) (hs : SeqAt.shaped (.list ds) = true) : EX B (tOp (rEqD B.K) ta (tLst tNil)) ε L (.d (.bool ds.isEmpty)) La := fun F σ H r Q q =>
  h F σ H r _ fun v F1 H1 s1 r1 o1 => ⟨Nat.zero_le _, fun p hp => by
    obtain ⟨pl, vs, rfl, g1, g2⟩ := hx.get r1 o1
    have s2 : Sub H1 (upd H1 p (.lst [])) := sub_fresh hp
    refine ⟨.list ds, .list [], .lst (sql_sub s2 g1) (dqa_dpa (nodict_shaped hs) (dpa_sub (r1.sub.tr s2) g2)), dq_dp rfl (.lst upd_same .nil), hs, rfl, ?_⟩
    rw [eqv_nil]
    exact q _ F1 _ s1 (r1.heap s2) (.bl _)⟩
theorem ex_neB {b c : Bool} (ha : EX B ta ε L (.d (.bool b)) La) (hb : EX B tb ε La (.d (.bool c)) Lb) : EX B (tOp rNe ta tb) ε L (.d (.bool (!decide (b = c)))) Lb := ex_op ha hb fun F σ H v w rp hv hw Q q => by
  rw [bool_inv hv, bool_inv hw]
  refine ⟨rfl, ?_⟩
  have e : decide ((V.bl b) = V.bl c) = decide (b = c) := by cases b <;> cases c <;> decide
  rw [e]
  exact q _ F H (Sub.rfl' F) rp (.bl _)
theorem ex_eqB {b c : Bool} (ha : EX B ta ε L (.d (.bool b)) La) (hb : EX B tb ε La (.d (.bool c)) Lb) : EX B (tOp rEq ta tb) ε L (.d (.bool (decide (b = c)))) Lb := ex_op ha hb fun F σ H v w rp hv hw Q q => by
  rw [bool_inv hv, bool_inv hw]
  refine ⟨rfl, ?_⟩
  have e : decide ((V.bl b) = V.bl c) = decide (b = c) := by cases b <;> cases c <;> decide
  rw [e]
  exact q _ F H (Sub.rfl' F) rp (.bl _)
theorem et_noT (h : EX B te ε L (.d (.bool true)) La) : ETt B (tNot (tTest te)) ε L false La := et_not (et_test h)
variable {tu : TT}
theorem et_orF (h1 : ETt B tt ε L false La) (h2 : ETt B tu ε La false Lb) : ETt B (tOr tt tu) ε L false Lb := et_is (et_or h1 (fun _ => h2) (fun h => nomatch h)) rfl
theorem x_skip (h : ETt B tt ε L false La) (k : Ho B D.nx ε La) : Ho B (tIfS tt ts tNext D) ε L := x_if h (fun h => nomatch h) (fun _ => k)
theorem wt_noT {κ : Bool → Own → Prop} (h : WV B PyData.bool te ε L fun b L1 => b = true ∧ κ false L1) : WT B (tNot (tTest te)) ε L κ := wt_not (wt_test (wv_mono h fun b L1 k => by rw [k.1]; exact k.2))
theorem wt_orF {κ : Bool → Own → Prop} (h : WT B tt ε L fun b L1 => b = false ∧ WT B tu ε L1 κ) : WT B (tOr tt tu) ε L κ := wt_or (wt_mono h fun b L1 k => ⟨fun _ => k.2, fun hb => by rw [k.1] at hb; exact nomatch hb⟩)
theorem x_skipW (h : WT B tt ε L fun b L1 => b = false ∧ Ho B D.nx ε L1) : Ho B (tIfS tt ts tNext D) ε L := x_ifW (wt_mono h fun b L1 k => ⟨fun hb => by rw [k.1] at hb; exact (nomatch hb), fun _ => k.2⟩)
/-- [..] * n, frozen -/
theorem w_repF {κ : List α → Own → Prop} (h : WV B (eL e) ta ε L fun xs L1 => WV B PyData.int tb ε L1 fun n L2 => (0 ≤ n ∧ n ≤ 100000 ∧ xs.length * n.toNat ≤ 100000) ∧ κ (List.replicate n.toNat xs).flatten L2) : WV B (eL e) (tOp rRep ta tb) ε L κ :=
  w_frz (fun F σ H r Q q => h F σ H r _ fun xs L1 v F1 H1 k s1 r1 o1 => k F1 σ H1 r1 _ fun n L2 w F2 H2 ⟨hn, k2⟩ s2 r2 o2 => by
    have ev : EN B (tOp rRep (fun σ H Q => Q v H) (fun σ H Q => Q w H)) ε L2 ((List.replicate n.toNat xs).flatten.map e) L2 → True := fun _ => trivial
    have o1' : Dq B.K F2 v (eL e xs) := dp_sub s2 o1
    have ew : w = .int n := int_inv o2
    subst ew
    cases o1' with
    | @lst p vs _ g1 g2 =>
      refine ⟨p, n, vs, rfl, rfl, r2.sub _ _ g1, by omega, by omega, Evl.sz_of (by rw [dpa_len g2, List.length_map]; exact hn.2.2), fun p' hp' => q p' (.lst p' ((List.replicate n.toNat xs).flatten.map e) :: L2) F2 _ ⟨_, _, _, r2.newM hp', rfl, rfl, k2⟩ (s1.tr s2) (r2.alloc hp' rfl ⟨_, upd_same, ?_⟩)⟩
      have : ∀ m : Nat, DqAll B.K F2 (List.replicate m vs).flatten ((List.replicate m xs).flatten.map e) := fun m => by
        induction m with
        | zero => exact .nil
        | succ m ih => rw [List.replicate_succ, List.replicate_succ, List.flatten_cons, List.flatten_cons, List.map_append]; exact dpa_app g2 ih
      exact this n.toNat)
/-- tuple(x) of a list -/
theorem w_tupL {κ : List α → Own → Prop} (h : WV B (eL e) te ε L κ) : WV B (eT e) (tThen te (kTup B.K)) ε L κ := fun F σ H r Q q =>
  h F σ H r _ fun xs L1 v F1 H1 k s1 r1 o1 => by
    have o1' : Dq B.K F1 v (eL e xs) := o1
    cases o1' with
    | @lst p vs _ g1 g2 =>
      refine .inl ⟨p, vs, rfl, .inl (.inl (r1.sub _ _ g1)), fun l hl => ?_⟩
      have hF := sub_none r1.sub hl
      exact q xs L1 _ _ _ k (s1.tr (sub_fresh hF)) (r1.grow hl) (.tup upd_same (dpa_sub (sub_fresh hF) g2))
theorem wr_lcR1W {vs : List Nat} {j : Nat} {κ : Addr → Own → Prop} (h : WA B tas ε L fun as L1 => ∃ n : Int, as = [.d (.int n)] ∧ (-(2 ^ 62) ≤ n ∧ n < 2 ^ 62) ∧ ∃ I : Nat → List PyData → Own → Prop, I 0 [] L1 ∧ j ∈ vs ∧
    (∀ i : Nat, (i : Int) < n → CTurnW B (gName j) tt te ε vs I i (.int (i : Int))) ∧ (∀ p acc L', p ∉ B.M → I n.toNat acc L' → κ p (.lst p acc :: L'))) : WR B (tLc (iRng1 tas) (gName j) tt te vs) ε L κ := fun F σ H r Q q =>
  h F σ H r _ fun as L1 vs' F1 H1 ⟨n, ea, hn, I, h0, hj, hs, hd⟩ s1 r1 o1 => by
    subst ea
    match vs', o1 with
    | [v], o =>
      have ev : v = .int n := int_inv o.1
      subst ev
      exact wr_lcR1 (tas := fun σ H Q => Q [.int n] H) (fun F σ H r Q q => q [.int n] F H (Sub.rfl' F) r ⟨.int n, trivial⟩) hn I h0 hj hs hd F1 σ H1 r1 Q fun p L' F' H' k s r' => q p L' F' H' k (s1.tr s) r'
end
end Fz

/-! ## FzL -/
set_option Elab.async false
set_option linter.all false
set_option maxRecDepth 100000
set_option maxHeartbeats 2000000
set_option autoImplicit false
/-! FzL: the law's own def: the script in, True out. -/
namespace Fz
open PySem L2
def spLaw (K : PySem.W.Frag) : Sp := fun vs H Q _ => ∃ (a : Addr) (ns : List Int), vs = [.ref a] ∧ SqL K H a (ns.map V.int) ∧ ns.length ≤ 63 ∧ ∀ H', Q (.bl true) H'
section
variable {P : Program} {w : World} {K : PySem.W.Frag} {mg : Str → Option Value} {base : Heap} {f : Addr} {fd : FuncData} {k : Nat}
theorem g_S {x qual : Str} {st : Stmt} {N : List Str} {p : Str} (Fn : Fun K x qual st f fd) (S : FnScope N [p] (defScope st)) (hps : 1 ≤ N.length)
    (hbody : ∀ (cdv : Value) (A : Around) (outer : List Env) (s : Shared) (H : Hp), Room k (A.deeper (PyProof.Rows.envOfC qual (defScope st) s.heap.objs.size f cdv)) → (A.deeper (PyProof.Rows.envOfC qual (defScope st) s.heap.objs.size f cdv)).guards = some [] →
      ∃ t, PSs (cxOf CX0 P w K mg base N qual (defScope st) f cdv A outer s H E0).nox (defBody st) t ∧
        ∀ (B : Bg) (Q : VK) a (ns : List Int), B.K = K → ns.length ≤ 63 → (∀ H', Q (.bl true) H') → Ho B (t { nx := fun _ H' => Q .non H', rt := Q }) (some (.v (.ref a)) :: List.replicate (N.length - 1) none) [.seq a (ns.map PyData.int)]) :
    GOk P w K mg base (k + 1) f fd [p] (spLaw K) := by
  refine g_ok Fn S (fun vs H Q E ⟨_, _, h, _⟩ => by rw [h]; rfl) fun cdv A outer s H vs Q hr hG h => ?_
  obtain ⟨a, ns, rfl, hS, hl, q⟩ := h
  obtain ⟨t, ht, hb⟩ := hbody cdv A outer s H hr hG
  exact ⟨t, ht, hb ⟨K, H, H, []⟩ Q a ns rfl hl q H _ H (rep_startS (N := N) hS hps)⟩
end
section
variable {B : Bg} {ε : Eps} {L La : Own} {te : TE} {D : Ends} {tas : TA} {E : XK} {Q : VK}
theorem x_retS (q : ∀ H', Q (.bl true) H') (h : WV B PyData.bool te ε L fun x _ => x = true) (hD : D.rt = Q := by rfl) : Ho B (tRet te D) ε L := fun F σ H r => h F σ H r _ fun x L1 v F1 H1 k _ r1 o1 => by
  have ev : v = .bl x := bool_inv o1
  rw [hD, ev, k]; exact q H1
/-- the law's def hands the script on -/
theorem x_retLaw {i : Nat} {a : Addr} {ns : List Int} (q : ∀ H', Q (.bl true) H') (h : ε[i]? = some (some (.v (.ref a)))) (hk : At L 0 (.seq a (ns.map PyData.int))) (hl : ns.length ≤ 63) (hD : D.rt = Q := by rfl) : Ho B (tRet (tCall (spLaw B.K) [] E (tCons (tVar i) tNil)) D) ε L := fun F σ H r => by
  refine ex_v h F σ H r _ fun v F1 H1 s1 r1 o1 => ?_
  have ev : v = .ref a := o1
  subst ev
  obtain ⟨vs, g1, g2⟩ := r1.own _ (List.mem_of_getElem? hk.get)
  have e2 := dpa_int_inv g2
  subst e2
  exact ⟨a, ns, rfl, sql_sub r1.sub g1, hl, fun H' => by rw [hD]; exact q H'⟩
end
end Fz

/-! ## FzQ -/
set_option Elab.async false
set_option linter.all false
set_option maxRecDepth 100000
set_option maxHeartbeats 4000000
set_option autoImplicit false
/-! FzQ: own exceptions whose __init__ says super().__init__(text) and keeps one field. -/
namespace Fz.Own
open PySem PySem.W PySem.Calls PyProof.Rows PySem.HandSPX
/-! ### the text of such an __init__ -/
def iA (fld : Str) (p1 p2 : Pos) : Arguments := { posonlyargs := [], args := [{ arg := "self", annotation := none, pos := p1 }, { arg := fld, annotation := none, pos := p2 }], vararg := none, kwonlyargs := [], kw_defaults := [], kwarg := none, defaults := [] }
def iB (msg fld : Str) (r1 r2 r3 r4 r5 r6 q1 q2 q3 q4 : Pos) (n : Nat) : List Stmt :=
  [.Expr (.Call (.Attribute (.Call (.Name "super" r1) [] [] r2) "__init__" r3) [.Constant (.str msg) n r4] [] r5) r6, .Assign [.Attribute (.Name "self" q1) fld q2] (.Name fld q3) q4]
def iS (fld : Str) : Scope := { kind := .function, names := [(PySem.Str.ofString "self", .local), (fld, .local), (PySem.Str.ofString "__class__", .free), (PySem.Str.ofString "super", .globalImplicit)], isGenerator := false, isCoroutine := false, more := [] }
/-- a name that may be such a field -/
def fldOk (fld : Str) : Bool := !(fld == PySem.Str.ofString "self") && !(fld == PySem.Str.ofString "__class__") && !(fld == PySem.Str.ofString "super") && !(fld == PySem.Str.ofString "__debug__") && !(fld == PySem.Str.ofString "__classdict__")
/-- the call's arguments come in order -/
def bindOk (fld : Str) : Prop := ∀ (qual : Str) (p1 p2 : Pos) (body : List Stmt) (doc pm ct cda : Value) (an : Option Addr) (cc : Addr) (x v : Value), PySem.bindArgs (fnX "__init__" qual (iA fld p1 p2) body (iS fld) [(("__class__" : Str), cc)] .none .none doc pm an cda ct) ⟨[x, v], []⟩ = pure [(("self" : Str), x), (fld, v)]
theorem bind_limit : bindOk "limit" := fun _ _ _ _ _ _ _ _ _ _ _ _ => by first | rfl | with_unfolding_all rfl
theorem bind_place : bindOk "place" := fun _ _ _ _ _ _ _ _ _ _ _ _ => by first | rfl | with_unfolding_all rfl
theorem bind_error : bindOk "error" := fun _ _ _ _ _ _ _ _ _ _ _ _ => by first | rfl | with_unfolding_all rfl
theorem bind_word : bindOk "word" := fun _ _ _ _ _ _ _ _ _ _ _ _ => by first | rfl | with_unfolding_all rfl
theorem bind_given : bindOk "given" := fun _ _ _ _ _ _ _ _ _ _ _ _ => by first | rfl | with_unfolding_all rfl
/-- what the written part says of the class at C and of its __init__, at fI -/
structure Txt (prog : Program) (K : Frag) (mg : Str → Option Value) (cn msg fld : Str) (C fI : Addr) : Prop where
  gC : mg cn = some (.ref C)
  cls : ∃ nm q N bs bm sn sub ab col dd k0 k1 k2 k3 k5, K.lookup C = some (excClassObj nm q C N bs bm true sn sub ab col dd k0 k1 k2 k3 k5 "ValueError.__new__") ∧ refsVE bm = true
  sa : findIn K (.ref C) "__setattr__" = some (some (.builtin "object.__setattr__"))
  ga : findIn K (.ref C) "__getattribute__" = some (some (.builtin "BaseException.__getattribute__"))
  gg : findIn K (.ref C) "__getattr__" = some none
  noN : findIn K (.ref C) fld = some none
  iC : findIn K (.ref C) "__init__" = some (some (.ref fI))
  tC : typeIn K (.ref fI) = some (.type "function")
  kC : keepIn K (.ref C) = true
  exC : subIn K (.ref C) (.type "BaseException") = some true
  tyC : typeIn K (.ref C) = some (.type "type")
  hdC : hasDictIn K C = true
  te : exmOne K (.ref C) (.ref C) = some true
  sup : ks_superIn K C C "__init__" = some (some (.builtin "ValueError.__init__"))
  opq : nsIn K cStatics "thirdparty.any" = some none
  vE : subIn K (.ref C) (.type "ValueError") = some true
  self : mroIn K C (.ref C) = some true
  gS : mg "super" = none
  top : (prog.main.scope.names.lookup ("super" : Str)).isSome = false
  fok : fldOk fld = true
  fn : ∃ (oc : Value) (od : Option Addr) (qual : Str) (doc pm : Value) (an : Option Addr) (cda cc : Addr) (ct : Value) (osl : Array (Option Value)) (p1 p2 r1 r2 r3 r4 r5 r6 q1 q2 q3 q4 : Pos) (n : Nat) (ccl : Value) (cdd : Option Addr) (vs : Array Value) (ccs : Array (Option Value)) (file : Str) (tf : Tok) (cl : Value) (cld : Option Addr) (csl : Array (Option Value)),
    K.lookup fI = some ⟨oc, od, .func (fnX "__init__" qual (iA fld p1 p2) (iB msg fld r1 r2 r3 r4 r5 r6 q1 q2 q3 q4 n) (iS fld) [("__class__", cc)] .none .none doc pm an (.ref cda) ct), osl⟩ ∧ codeIn K (.ref cda) qual = true ∧
    K.lookup cda = some ⟨ccl, cdd, .fields vs, ccs⟩ ∧ vs[2]? = some (.str file tf) ∧ ((prog.main.file : Str) == file) = true ∧ K.lookup cc = some ⟨cl, cld, .cell (some (.ref C)), csl⟩ ∧ (r3.endLine == r5.line) = true
structure InitEnd (fld : Str) (h h' : Heap) (x C dx t1 : Addr) (v : Value) : Prop where
  keep : ∀ b o, b ≠ x → h.get? b = some o → h'.get? b = some o
  obj : h'.get? x = some { cls := .ref C, dict := some dx, data := .fields #[.ref t1, .none, .none, .none, .bool false, .none] }
  dbig : h.objs.size ≤ dx
  dne : dx ≠ x
  ns : h'.Ns1 dx (fun y => if y = fld then some v else none)
structure Made (fld : Str) (h h' : Heap) (e C d : Addr) (v : Value) : Prop where
  keep : ∀ b o, h.get? b = some o → h'.get? b = some o
  new : h.objs.size ≤ e
  obj : ∃ oe vs, h'.get? e = some oe ∧ oe.cls = .ref C ∧ oe.dict = some d ∧ oe.data = .fields vs ∧ vs[1]? = some .none
  dbig : h.objs.size ≤ d
  dne : d ≠ e
  ns : h'.Ns1 d (fun y => if y = fld then some v else none)
theorem one_size (v : Value) : [v].length ≤ sizeLine := by
  rw [sizeLine_eq]
  exact (by decide : 1 ≤ 16777216)
theorem meth_line {o : Expr} {apos pos r4 : Pos} {msg nm : Str} {n : Nat} {env : Env} (hl : (apos.endLine == pos.line) = true) : eval (.Call (.Attribute o nm apos) [.Constant (.str msg) n r4] [] pos) env = (do
      let ov ← attributeBase o nm env (eval o env)
      standAt apos.atName
      let (f, first) ← holding [ov] (getMethod ov nm (do return (← importBound o env).getD true))
      callWith pos f first (backTo pos (starEach [.Constant (.str msg) n r4] env)) []) := by
  have hpos : methodCallPos true o env apos pos = pure pos := by unfold methodCallPos; simp [hl]
  have e : ∀ ov, methodCall o nm apos pos env ov 1 (backTo pos (starEach [.Constant (.str msg) n r4] env)) [] = (do
      let (f, first) ← holding [ov] (getMethod ov nm (do return (← importBound o env).getD true))
      callWith pos f first (backTo pos (starEach [.Constant (.str msg) n r4] env)) []) := fun ov => by
    show (do
      let (f, first) ← holding [ov] (getMethod ov nm (do return (← importBound o env).getD true))
      let callPos ← methodCallPos true o env apos pos
      callWith callPos f first (backTo pos (starEach [.Constant (.str msg) n r4] env)) []) = _
    rw [hpos]; rfl
  show (do
    let ov ← attributeBase o nm env (eval o env)
    standAt apos.atName
    methodCall o nm apos pos env ov 1 (backTo pos (starEach [.Constant (.str msg) n r4] env)) []) = _
  simp only [e]
section
variable {prog : Program} {w : World} {A : Around} {E : Value → Shared → Prop} {R : Result → Shared → Prop} {s : Shared} {K : Frag} {mg mb : Str → Option Value} {cn msg fld : Str} {C fI : Addr}
theorem fld_ne (h : fldOk fld = true) : fld ≠ PySem.Str.ofString "self" ∧ fld ≠ PySem.Str.ofString "__class__" ∧ fld ≠ PySem.Str.ofString "super" ∧ (fld == PySem.Str.ofString "__debug__") = false := by
  unfold fldOk at h
  simp only [Bool.and_eq_true, Bool.not_eq_true', beq_eq_false_iff_ne] at h
  exact ⟨h.1.1.1.1, h.1.1.1.2, h.1.1.2, beq_eq_false_iff_ne.mpr h.1.2⟩
theorem own_init (hB : bindOk fld) (T : Txt prog K mg cn msg fld C fI) {x t0 : Addr} {v : Value} (X : K.In s.heap) (G : s.heap.Ns mainGlobals mg) (Bt : s.heap.Ns builtinsNs mb) (hb : ∀ y : Str, y ≠ "__name__" → mb y = bootBuiltins y) (hlim : s.heap.NoLimit)
    (hx : s.heap.get? x = some (excO C t0)) (hnx : K.lookup x = none) (hroom : A.depth < recursionLimit)
    (hq : ∀ h' tk dx t1, InitEnd fld s.heap h' x C dx t1 v → R (.ok (.ret .none)) { s with heap := h', toks := tk }) :
    codeAny (model prog w) A (.call (.ref fI) ⟨[.ref x, v], []⟩) R s := by
  obtain ⟨oc, od, qual, doc, pm, an, cda, cc, ct, osl, p1, p2, r1, r2, r3, r4, r5, r6, q1, q2, q3, q4, n, ccl, cdd, vs, ccs, file, tf, cl, cld, csl, ho, hcd, hco, hvs, hfile, hcell, hline⟩ := T.fn
  obtain ⟨nm, q, N, bs, bm, sn, sub, ab, col, dd, k0, k1, k2, k3, k5, hC, hbm⟩ := T.cls
  obtain ⟨n1, n2, n3, n4⟩ := fld_ne T.fok
  have hcl : clsIn K C = some { name := nm, bases := bs, mro := .ref C :: bm, ns := N, qualname := q, hasDict := true, slotNames := sn, subclasses := sub, abstract := ab, collection := col, hasDel := false } := by unfold clsIn; rw [hC] <;> rfl
  refine ks_codeAny_call_defAt (binds := [(("self" : Str), Value.ref x), (fld, v)]) hroom (X _ _ ho) rfl hlim (codeRec_of X hcd) rfl (BindsTo.of_eq (hB _ _ _ _ _ _ _ _ _ _ _ _)) ?_ ?_ (fun h₁ hn k => ?_)
  · intro y hy
    have hy : y ∈ (iS fld).names := hy
    simp only [iS, List.mem_cons, List.not_mem_nil, or_false] at hy
    rcases hy with e | e | e | e <;> rw [e] <;> exact fun z => nomatch z
  · intro y hy
    simp only [List.mem_cons, List.not_mem_nil, or_false] at hy
    show (iS fld).names.lookup y.1 = some .local
    rcases hy with e | e
    · rw [e]; rfl
    · rw [e]
      show List.lookup fld ((PySem.Str.ofString "self", NameKind.local) :: (fld, NameKind.local) :: _) = _
      rw [List.lookup_cons, beq_eq_false_iff_ne.mpr n1, List.lookup_cons, beq_self_eq_true]
  · have X₁ : K.In h₁ := X.keeps k
    have hx₁ := k _ _ hx
    have kS : ∀ L a cd, (envX qual (iS fld) L a cd [("__class__", cc)]).kindOf "super" = some .globalImplicit := fun L a cd => by
      show List.lookup (PySem.Str.ofString "super") ((PySem.Str.ofString "self", NameKind.local) :: (fld, NameKind.local) :: (PySem.Str.ofString "__class__", NameKind.free) :: (PySem.Str.ofString "super", NameKind.globalImplicit) :: []) = _
      rw [List.lookup_cons, show (PySem.Str.ofString "super" == PySem.Str.ofString "self") = false from by decide, List.lookup_cons, beq_eq_false_iff_ne.mpr n3.symm]
      rfl
    have kC : ∀ L a cd, (envX qual (iS fld) L a cd [("__class__", cc)]).kindOf "__class__" = some .free := fun L a cd => by
      show List.lookup (PySem.Str.ofString "__class__") ((PySem.Str.ofString "self", NameKind.local) :: (fld, NameKind.local) :: (PySem.Str.ofString "__class__", NameKind.free) :: (PySem.Str.ofString "super", NameKind.globalImplicit) :: []) = _
      rw [List.lookup_cons, show (PySem.Str.ofString "__class__" == PySem.Str.ofString "self") = false from by decide, List.lookup_cons, beq_eq_false_iff_ne.mpr n2.symm]
      rfl
    have kF : ∀ L a cd, (envX qual (iS fld) L a cd [("__class__", cc)]).kindOf fld = some .local := fun L a cd => by
      show List.lookup fld ((PySem.Str.ofString "self", NameKind.local) :: (fld, NameKind.local) :: _) = _
      rw [List.lookup_cons, beq_eq_false_iff_ne.mpr n1, List.lookup_cons, beq_self_eq_true]
    have sSelf : (fun y : Str => ([("self", Value.ref x), (fld, v)] : List (Str × Value)).reverse.lookup y) "self" = some (.ref x) := by
      show List.lookup (PySem.Str.ofString "self") [(fld, v), (PySem.Str.ofString "self", Value.ref x)] = _
      rw [List.lookup_cons, beq_eq_false_iff_ne.mpr n1.symm]; rfl
    have sF : (fun y : Str => ([("self", Value.ref x), (fld, v)] : List (Str × Value)).reverse.lookup y) fld = some v := by
      show List.lookup fld [(fld, v), (PySem.Str.ofString "self", Value.ref x)] = _
      rw [List.lookup_cons, beq_self_eq_true]
    have hCo : h₁.get? C = some (excClassObj nm q C N bs bm true sn sub ab col dd k0 k1 k2 k3 k5 "ValueError.__new__") := X₁ _ _ hC
    have gb : mb "super" = some (.type "super") := (hb _ (by decide)).trans (by decide +kernel)
    obtain ⟨g₀, d₀, os₀, tk₀, hs₁⟩ : ∃ g d os tk, ({ s with heap := h₁, toks := s.toks + 2 } : Shared) = ⟨h₁, g, d, tk, os⟩ := ⟨_, _, _, _, rfl⟩
    refine ks_wpAt_execs_cons (ks_wpAt_Expr_any ?_)
    refine ks_wpAt_MethodCall (pl := _) ?_ (meth_line hline)
    refine ks_wpAt_super_base (env := envX qual (iS fld) s.heap.objs.size fI (.ref cda) [("__class__", cc)]) (kS _ _ _) (kC _ _ _) (by decide) rfl (X₁ _ _ ho) rfl rfl rfl (X₁ _ _ hco) rfl hvs hfile T.top ?_
    refine ks_loadName_global rfl (kS _ _ _) (loadGlobal_builtin (env := envX qual (iS fld) s.heap.objs.size fI (.ref cda) [("__class__", cc)]) (G.keeps k) T.gS (Bt.keeps k) gb ⟨rfl, ?_⟩)
    refine wpAny_loadName_free rfl (kC _ _ _) rfl ⟨_, X₁ _ _ hcell, rfl⟩ ?_
    refine wpAny_loadName_local rfl (by first | rfl | exact List.lookup_cons_self) hn sSelf ?_
    refine ks_wpAny_isType_cls hCo rfl ⟨rfl, ?_⟩
    have I₁ : InstAt h₁ x (excO C t0) C none := ⟨hx₁, rfl, rfl, trivial⟩
    refine ks_wpAny_call_super hCo rfl hx₁ rfl (fun c e => nomatch e) (looks_mroIn X₁ T.self) (fun h₂ hso k₂ => ?_)
    have X₂ : K.In h₂ := X₁.keeps k₂
    have hx₂ := k₂ _ _ hx₁
    have I₂ : InstAt h₂ x (excO C t0) C none := ⟨hx₂, rfl, rfl, trivial⟩
    refine kxs_getMethod kxs_ValueError hso (looks_opaque X₂ T.opq) (l₀ := .ref C :: bm) ?_ rfl X₂ ?_ (I₂.type.andThen (looks_subIn X₂ T.vE)) (ks_ne X₂ I₂ hcl) rfl ?_
    · exact fun A Q E s k q => wpAny_bind ((looks_clsIn X₂ hcl) A _ E s k (wpAny_pure q))
    · have q := T.sup
      unfold ks_superIn at q
      rw [hcl] at q
      exact q
    have hmw : (h₂.push (kxs_mw "ValueError.__init__" x)).get? h₂.objs.size = some (kxs_mw "ValueError.__init__" x) := Heap.get?_push_at rfl rfl
    refine kxs_callWith (i := "ValueError.__init__") (x := x) rfl ?_
    refine evalArgs_plain (x := eval (.Constant (.str msg) n r4) _) (rest := []) (Calls.spliced_cons ?_)
    refine lit_str _ (fun v₃ tk₃ _ => Calls.spliced_nil ⟨hmw, ?_⟩)
    -- the built-in __init__
    refine wpAny_call (codeAny_of_tree ?_)
    show wpAny _ _ (callAny (.ref _) ⟨[v₃], []⟩) _ _ _
    simp only [callAny]
    refine wpAny_bind (wpAny_load hmw ?_)
    simp only [kxs_mw, show (Value.type "method-wrapper" == Value.type "method" || Value.type "method-wrapper" == Value.type "builtin_function_or_method" || Value.type "method-wrapper" == Value.type "method-wrapper") = true by decide, if_true]
    refine KFB.if_so (by decide) ?_
    have hC₃ : (h₂.push (kxs_mw "ValueError.__init__" x)).get? C = some (excClassObj nm q C N bs bm true sn sub ab col dd k0 k1 k2 k3 k5 "ValueError.__new__") := Heap.get?_push_of_some _ (X₂ _ _ hC)
    have hx₃ : (h₂.push (kxs_mw "ValueError.__init__" x)).get? x = some (excO C t0) := Heap.get?_push_of_some _ hx₂
    refine wpAny_bind (check_bound_init F.excBase_ValueError.toExcCallFacts hC₃ hx₃ rfl ?_)
    refine wpAny_bind (wpAny_pure (wpAny_pure ?_))
    refine ⟨plainId_quiet F.excBase_ValueError.init.plain _, codeAny_builtin F.excBase_ValueError.initEntry ?_⟩
    refine exc_init_tree (cls := .ref C) (t0 := t0) (dv := none) (c2 := .none) (c3 := .none) (b4 := .bool false) hx₃ (one_size v₃) (fun h₄ k₄ hx₄ _ => ?_)
    -- self.fld = fld
    have X₃ : K.In (h₂.push (kxs_mw "ValueError.__init__" x)) := X₂.keeps fun b o e => Heap.get?_push_of_some _ e
    have k₁₃ : ∀ b o, h₁.get? b = some o → (h₂.push (kxs_mw "ValueError.__init__" x)).get? b = some o := fun b o e => Heap.get?_push_of_some _ (k₂ b o e)
    have hxL : s.heap.objs.size ≠ x := Nat.ne_of_gt (Heap.lt_size hx)
    have X₄ : K.In h₄ := fun a o e => k₄ a o (fun z => by rw [z, hnx] at e; cases e) (X₃ a o e)
    have hn₄ : h₄.Ns s.heap.objs.size (fun y => [(("self" : Str), Value.ref x), (fld, v)].reverse.lookup y) := hn.at (fun o q => k₄ _ _ hxL (k₁₃ _ _ q))
    show PySem.wpAt _ _ _ (execs [.Assign [.Attribute (.Name "self" q1) fld q2] (.Name fld q3) q4] (envX qual (iS fld) s.heap.objs.size fI (.ref cda) [("__class__", cc)])) _ _ _
    refine ks_wpAt_execs_cons (ks_wpAt_Assign_Attr ?_)
    refine wpAt_of_wpAny (wpAny_Name (wpAny_loadName_local (m := fun y : Str => List.lookup y [(("self" : Str), Value.ref x), (fld, v)].reverse) rfl (kF s.heap.objs.size fI (.ref cda)) ?_ sF ?_) n4)
    · exact hn₄
    refine wpAny_Name (wpAny_loadName_local (m := fun y : Str => List.lookup y [(("self" : Str), Value.ref x), (fld, v)].reverse) rfl (by first | rfl | exact List.lookup_cons_self) ?_ sSelf ?_) (by decide)
    · exact hn₄
    refine set_plain X₄ (ox := { cls := .ref C, data := .fields #[.ref (h₂.push (kxs_mw "ValueError.__init__" x)).objs.size, .none, .none, .none, .bool false, .none] }) (od := none) ⟨hx₄, rfl, rfl, trivial⟩ T.sa ?_
    refine exc_osa X₄ hx₄ hcl (show refsVE (.ref C :: bm) = true from hbm) rfl T.noN (fun h₅ tk₅ dx k₅ dn dne hx₅ hn₅ => ?_)
    show PySem.wpAt _ _ _ (execs [] _) _ _ _
    refine wpAt_of_wpAny (wpAny_execs_nil ?_)
    have z : s.heap.objs.size < h₁.objs.size := hn.lt
    have k₁₄ : ∀ b o, b ≠ x → h₁.get? b = some o → h₄.get? b = some o := fun b o hb e => k₄ b o hb (k₁₃ b o e)
    refine hq h₅ tk₅ dx _ ⟨fun b o hb e => k₅ b o hb (k₁₄ b o hb (k b o e)), hx₅, ?_, dne, hn₅⟩
    obtain ⟨oL, _, _, hL, _⟩ := hn₄
    exact Nat.le_of_lt (Nat.lt_of_lt_of_le (Heap.lt_size hL) dn)

theorem own_made (hB : bindOk fld) (T : Txt prog K mg cn msg fld C fI) {v : Value} (X : K.In s.heap) (G : s.heap.Ns mainGlobals mg) (Bt : s.heap.Ns builtinsNs mb) (hb : ∀ y : Str, y ≠ "__name__" → mb y = bootBuiltins y) (hlim : s.heap.NoLimit) (hroom : A.depth + 1 < recursionLimit)
    (hq : ∀ h' tk e d, Made fld s.heap h' e C d v → R (.ok (.ret (.ref e))) { s with heap := h', toks := tk }) :
    codeAny (model prog w) A (.call (.ref C) ⟨[v], []⟩) R s := by
  obtain ⟨nm, q, N, bs, bm, sn, sub, ab, col, dd, k0, k1, k2, k3, k5, hC, hbm⟩ := T.cls
  obtain ⟨hp, g, dr, tk, os⟩ := s
  have k : ∀ b o, hp.get? b = some o → ((hp.push (kdv_tup [v])).push (excO C hp.objs.size)).get? b = some o := fun b o e => Heap.get?_push_of_some _ (Heap.get?_push_of_some _ e)
  have hget : ((hp.push (kdv_tup [v])).push (excO C hp.objs.size)).get? (hp.objs.size + 1) = some (excO C hp.objs.size) := by heap_get
  have hnx : K.lookup (hp.objs.size + 1) = none := by
    cases e : K.lookup (hp.objs.size + 1) with
    | none => rfl
    | some o =>
      have z : hp.get? (hp.objs.size + 1) = some o := X _ _ e
      exact absurd (Nat.lt_of_succ_lt (Heap.lt_size z)) (Nat.lt_irrefl _)
  refine call_own F.excBase_ValueError (fun X => refsVE_contains X bm hbm) (X _ _ hC) (looks_findIn X T.iC) (fun self => bind_fn X self T.tC) (one_size v) ?_
  refine own_init (s := ⟨(hp.push (kdv_tup [v])).push (excO C hp.objs.size), g, dr, tk, os⟩) hB T (X.keeps k) (G.keeps k) (Bt.keeps k) hb (hlim.keeps k) hget hnx ?_ fun h' tk' dx t1 ⟨k', hx, dn, dne, hns⟩ => ?_
  · show A.depth + 1 < recursionLimit
    exact hroom
  · have old : ∀ b o, hp.get? b = some o → h'.get? b = some o := fun b o e => k' b o (Nat.ne_of_lt (Nat.lt_succ_of_lt (Heap.lt_size e))) (k b o e)
    have z : hp.objs.size + 1 + 1 ≤ dx := by
      first
        | (simpa only [Heap.size_push] using dn)
        | exact dn
        | (have q := dn; rw [Heap.size_push, Heap.size_push] at q; exact q)
    exact ⟨rfl, hq h' tk' (hp.objs.size + 1) dx ⟨old, Nat.le_succ _, ⟨_, _, hx, rfl, rfl, rfl, rfl⟩, Nat.le_trans (Nat.le_trans (Nat.le_succ _) (Nat.le_succ _)) z, dne, hns⟩⟩
end
end Fz.Own

/-! ## FzN -/
set_option Elab.async false
set_option linter.all false
set_option maxRecDepth 100000
set_option maxHeartbeats 4000000
set_option autoImplicit false
/-! FzN: own exceptions in the hand layer: raise C(e), e.f, isinstance of a caught one; defs that may raise. -/
namespace Fz
open PySem L2
open PySem.W (InstAt KitX Looks Frag findIn specialIn takesIn hasDictIn subIn mroIn clsIn)
theorem relO_own {v : V} {v' : Value} {fld : Str} (r : RelV v v') (f : Str) : RelO (List.lookup f [(fld, v)]) (if f = fld then some v' else none) := by
  by_cases hw : f = fld
  · subst hw
    rw [if_pos rfl]
    have q : List.lookup f [(f, v)] = some v := by simp [List.lookup]
    rw [q]
    exact r
  · rw [if_neg hw]
    have qw : (f == fld) = false := by simpa using hw
    have q2 : List.lookup f [(fld, v)] = none := by simp [List.lookup, qw]
    rw [q2]
    trivial
section
variable {X : Cx} {cn msg fld : Str} {C fI : Addr}
/-- C(e) -/
def tMkOwn (C : Addr) (fld : Str) (ta : TA) : St → Hp → XK → Prop := fun σ H Q => ta σ H fun vs H1 => ∃ v, vs = [v] ∧ ∀ d, H1 d = none → Q (.ref C) (some d) (upd H1 d (.xd [(fld, v)]))
theorem pmk_own1 {a : Expr} {ta : TA} {p pos : Pos} {k : Nat} (hB : Own.bindOk fld) (T : Own.Txt X.prog X.K X.mg cn msg fld C fI) (hr : Room k X.A) (ha : PA X [a] ta) (hg : Gl X cn) (hdb : (cn == ("__debug__" : Str)) = false)
    (he : starEach (a :: []) X.env = (false, eval a X.env) :: starEach [] X.env := by rfl) (hpl : (backTo pos (starEach [] X.env)).any (·.1) = false := by rfl) :
    PMk X (.Call (.Name cn p) [a] [] pos) (tMkOwn C fld ta) := by
  intro pins s σ H Q I h
  refine wpAny_Call_Name_kw (ld_glob I hg T.gC ?_ hdb)
  refine PySem.W.callWith_K (h₀ := X.base) I.ok.mod.kin T.kC (thn (ha.run pos pins s σ H _ I h) fun us s1 hh => ?_) he hpl
  obtain ⟨vs, H1, I1, r1, v, ev, q1⟩ := hh
  subst ev
  refine ⟨I1.kIn, ?_⟩
  cases r1 with
  | cons rv rn =>
    rename_i v' us'
    cases rn
    show wpAny _ _ (call (.ref C) [v']) _ _ _
    have hlim := I1.nolimit
    obtain ⟨mb, hb1, hb2⟩ := I1.mod.blt
    have hG := I1.mod.glob.keeps I1.bk
    have hB1 := hb1.keeps I1.bk
    obtain ⟨hp, g, dr, tk, os⟩ := s1
    refine wpAny_call (Own.own_made hB T I1.kIn hG hB1 hb2 hlim (by have := hr.dp; omega) fun h' tk' e d M => ?_)
    show MkP X pins σ Q (.ref e) ⟨h', g, dr, tk', os⟩
    obtain ⟨oe, fv, hoe, hc, hd, hdat, h1⟩ := M.obj
    have hns := M.ns
    obtain ⟨G', g1, g2⟩ := restrict h' fun b => decide (b ≠ e)
    have gk : ∀ b, b ≠ e → G'.get? b = h'.get? b := fun b hb => g1 b (decide_eq_true hb)
    have ge : G'.get? e = none := g2 e (by simp)
    have old : ∀ b o, hp.get? b = some o → G'.get? b = some o := fun b o q => (gk b (Nat.ne_of_lt (Nat.lt_of_lt_of_le (Heap.lt_size q) M.new))).trans (M.keep b o q)
    have ob : ObjOk X.prog X.w (upd H1 d (.xd [(fld, v)])) G' d (.xd [(fld, v)]) :=
      ⟨_, hns.at (fun o q => (gk d M.dne).trans q), fun f => relO_own rv f⟩
    have J : Inv X pins σ (upd H1 d (.xd [(fld, v)])) ⟨G', g, dr, tk', os⟩ := I1.laid (t' := tk') old M.dbig ob
    refine ⟨e, oe, fv, ⟨G', g, dr, tk', os⟩, _, .ref C, some d, rfl, J, fun b o q => ?_, ge, hoe, ⟨hc, hd⟩, hdat, h1, ?_, rfl, I1.bare, raises_own T.exC T.tyC, q1 d (I1.hok.fresh M.dbig)⟩
    · by_cases hb : b = e
      · have q' : G'.get? b = some o := q
        rw [hb, ge] at q'; cases q'
      · exact (gk b hb).symm.trans q
    · rw [upd_ne (Ne.symm M.dne)]
      exact I1.hok.fresh M.new
/-- raise C(e) -/
def tRaiseOwn (C : Addr) (fld : Str) (W : L2.WX) (ta : TA) : TS := fun _ σ H => tMkOwn C fld ta σ H fun cls d H' => W cls d σ H'
theorem ps_raiseOwn {a : Expr} {ta : TA} {W : L2.WX} {p pos pos2 : Pos} {k : Nat} (hB : Own.bindOk fld) (hc : X.calm = true) (T : Own.Txt X.prog X.K X.mg cn msg fld C fI) (hr : Room k X.A) (tk : Takes X W) (ha : PA X [a] ta) (hg : Gl X cn) (hdb : (cn == ("__debug__" : Str)) = false)
    (he : starEach (a :: []) X.env = (false, eval a X.env) :: starEach [] X.env := by rfl) (hpl : (backTo pos (starEach [] X.env)).any (·.1) = false := by rfl) :
    PS X (.Raise (some (.Call (.Name cn p) [a] [] pos)) none pos2) (tRaiseOwn C fld W ta) := ps_raise hc tk (pmk_own1 hB T hr ha hg hdb he hpl)
theorem own_xf (T : Own.Txt X.prog X.K X.mg cn msg fld C fI) : XfC X.K C := ⟨T.ga, T.gg, T.exC, T.hdC⟩
end
end Fz
namespace PySem.W
open PySem PySem.Spec PySem.Calls PyProof.Rows
section
variable {prog : Program} {w : World} {A : Around} {E : Value → Shared → Prop} {s : Shared} {K : Frag} {x D : Addr} {ox : Obj} {od : Option Obj}
theorem findObj_dataO {C : Addr} {name : Str} {a g : Value} (hc : (clsIn K C).isSome = true) (ha : findIn K (.ref C) name = some (some a)) (hg : specialIn K a "__get__" = some (some g)) (ht : takesIn K a = some true) : findObj K C od name = some (.bind g a) := by
  obtain ⟨cd, hc⟩ := Option.isSome_iff_exists.mp hc
  unfold findObj
  rw [hc, Option.bind_some, ha, Option.bind_some]
  simp [hg, ht]
theorem kin_classED {Q : Option Value → Shared → Prop} (hga : findIn K (.ref D) "__getattribute__" = some (some (.builtin "BaseException.__getattribute__"))) (hgt : findIn K (.ref D) "__getattr__" = some none) (hsub : subIn K (.ref D) (.type "BaseException") = some true)
    (hdct : hasDictIn K D = true) (ha : findIn K (.ref D) "__class__" = some (some (.builtin "object.__class__")))
    (hn : specialIn K (.builtin "object.__class__") "__get__" = some (some (.builtin "getset_descriptor.__get__"))) (htk : takesIn K (.builtin "object.__class__") = some true) (hm : mroIn K D (.type "object") = some true)
    (X : K.In s.heap) (I : InstAt s.heap x ox D od) (h : Q (some (.ref D)) { s with toks := s.toks + 1 }) : wpAny (model prog w) A (getAttr? (.ref x) "__class__") Q E s := by
  have hf : findObj K D od "__class__" = some (.bind (.builtin "getset_descriptor.__get__") (.builtin "object.__class__")) := findObj_dataO (by obtain ⟨cd, hc, _⟩ := any_some hdct; rw [hc]; rfl) ha hn htk
  obtain ⟨hp, g, d, t, os⟩ := s
  have L0 := I.type (M := model prog w)
  have L1 := looks_findIn (M := model prog w) X hga
  have L2 := looks_findIn (M := model prog w) X hgt
  have L3 := looks_find (M := model prog w) X I hf
  have sub : Looks (model prog w) hp (isInstance (.ref x) (.type "BaseException")) true := L0.andThen (looks_subIn X hsub)
  have hx0 : (false && onTheHeap (Value.builtin "BaseException.__getattribute__")) = false := rfl
  have hx2 : (Value.builtin "BaseException.__getattribute__" == Value.builtin "object.__getattribute__") = false := by decide +kernel
  have hx1 : (onTheHeap (Value.ref D) && Value.builtin "BaseException.__getattribute__" == Value.builtin "object.__getattribute__") = false := by rw [hx2]; rfl
  unfold getAttr? getAttrBy? getAttrBy
  refine wpAny_bind (wpAny_mkText (wpAny_bind (wpAny_attempt (wpAny_holding (wpAny_bind (L0.at (wpAny_bind (L1.at ?_))))))))
  show wpAny _ _ (if (onTheHeap (Value.ref D) && Value.builtin "BaseException.__getattribute__" == Value.builtin "object.__getattribute__") = true then _ else _) _ _ _
  rw [hx1, if_neg Bool.false_ne_true]
  unfold getAttrByItsOwn hookBefore
  refine wpAny_bind ?_
  rw [if_pos (show onTheHeap (Value.ref D) = true from rfl)]
  refine L2.at ?_
  refine wpAny_bind (wpAny_attempt (wpAny_holding ?_))
  unfold callGetattribute
  rw [hx0, if_neg Bool.false_ne_true]
  unfold boundAndCalled
  rw [PySem.F.excAttr_ValueError.ga.bind (.ref x)]
  refine wpAny_bind (wpAny_pure ?_)
  show wpAny _ _ (call (.builtin "BaseException.__getattribute__") [.ref x, .str "__class__" t]) _ _ _
  refine wpAny_call (codeAny_call_builtin PySem.F.excAttr_ValueError.ga.plain PySem.F.entry_bexc_ga ?_)
  refine @check_slot (model prog w) _ _ ⟨hp, g, d, t + 1, os⟩ "BaseException.__getattribute__" "BaseException" "__getattribute__" (.ref x) [.str "__class__" t] [] _ (by decide +kernel) (by decide +kernel) sub (PySem.F.args_bexc_ga (.ref x) (.str "__class__" t)) ?_
  unfold Builtin.«object.__getattribute__»
  refine wpAny_bind (wpAny_of_eq (a := ((Value.ref x : Value), [Value.str "__class__" t])) (by first | rfl | (simp only [slotArgs]; rfl)) ?_)
  refine wpAny_bind (wpAny_pure (wpAny_bind (L0.at (wpAny_bind (L3.at ?_)))))
  show wpAny _ _ (holding [Value.builtin "object.__class__"] (call (.builtin "getset_descriptor.__get__") [.builtin "object.__class__", .ref x, .ref D]) >>= ret) _ _ _
  refine wpAny_bind (wpAny_holding (wpAny_call (class_get (s := ⟨hp, g, d, t + 1, os⟩) (ox := ox) (od := od) X I hm ?_)))
  refine wpAny_pure ?_
  show wpAny _ _ (handedOut (.ref D)) _ _ _
  rw [handedOut_of (v := .ref D) rfl]
  first
    | exact wpAny_pure (wpAny_pure h)
    | exact wpAny_pure h
    | exact wpAny_pure (wpAny_bind (wpAny_pure (wpAny_pure h)))
theorem fz_kitx_excD (hga : findIn K (.ref D) "__getattribute__" = some (some (.builtin "BaseException.__getattribute__"))) (hgt : findIn K (.ref D) "__getattr__" = some none) (hsub : subIn K (.ref D) (.type "BaseException") = some true) (hdct : hasDictIn K D = true) (ha : findIn K (.ref D) "__class__" = some (some (.builtin "object.__class__")))
    (hn : specialIn K (.builtin "object.__class__") "__get__" = some (some (.builtin "getset_descriptor.__get__"))) (htk : takesIn K (.builtin "object.__class__") = some true) (hm : mroIn K D (.type "object") = some true) :
    KitX K (.ref x) (.ref D) (fun h => InstAt h x ox D od) where
  ty := fun _ _ _ I => I.type
  it := fun _ _ X _ => by
    obtain ⟨cdD, hcD, _⟩ := any_some hdct
    unfold clsIn at hcD
    split at hcD
    · rename_i c' d' cd' sl' ho
      intro A' Q' E' s' k q
      unfold isType loadHead
      exact wpAny_bind (wpAny_loadPart (k _ _ (X _ _ ho)) (wpAny_pure q))
    · cases hcD
  ne := fun h tp dd its n sl X htp => by
    obtain ⟨cdD, hcD, _⟩ := any_some hdct
    refine Bool.eq_false_iff.mpr fun q => ?_
    have e : D = tp := Value.ref.inj (beq_iff_eq.mp q)
    subst e
    unfold clsIn at hcD
    split at hcD
    · rename_i c' d' cd' sl' ho
      have z := (X _ _ ho).symm.trans htp
      cases z
    · cases hcD
  ca := fun X I k => kin_classED hga hgt hsub hdct ha hn htk hm X I k
end
end PySem.W
namespace Fz
open PySem L2
/-- isinstance(e, c), e the exception that the suite holds, d its dict -/
def rIsED (K : PySem.W.Frag) (D a : Addr) (cls : Value) (dv : Option Addr) : List V → Hp → VK → Prop := fun xs H Q => ∃ (d : Addr) (c : V) (cv : Value) (b : Bool) (fs : List (Str × V)), xs = [.ref a, c] ∧ cls = .ref D ∧ dv = some d ∧ ClsV c cv ∧ H d = some (.xd fs) ∧ PySem.W.kitOne K (.ref D) cv = some b ∧ Q (.bl b) H
/-- isinstance(e, (c, ..)) -/
def rIsEDT (K : PySem.W.Frag) (D a : Addr) (cls : Value) (dv : Option Addr) : List V → Hp → VK → Prop := fun xs H Q => ∃ (d tp : Addr) (cs : List V) (us : List Value) (b : Bool) (fs : List (Str × V)), xs = [.ref a, .ref tp] ∧ cls = .ref D ∧ dv = some d ∧ H tp = some (.tup cs) ∧ PySem.Paired ClsV cs us ∧ H d = some (.xd fs) ∧ PySem.W.kitAny K (.ref D) us = some b ∧ Q (.bl b) H
section
variable {X : Cx} {a D d : Addr} {oe : Obj} {cls : Value} {dv : Option Addr} {pn : List (Addr × Obj)}
theorem inst_ED {H : Hp} {pins : List (Addr × Obj)} {σ : St} {s : Shared} {fs : List (Str × V)} (hz : Zc (.ref D) (some d) oe) (hf : ∃ vs, oe.data = .fields vs) (I : Inv (X.suite a ((a, oe) :: pn)) pins σ H s) (hx : H d = some (.xd fs)) : ∃ od, PySem.W.InstAt s.heap a oe D (some od) := by
  obtain ⟨hget, _⟩ := I.pin (a, oe) (List.mem_append.mpr (.inl List.mem_cons_self))
  obtain ⟨vs, hv⟩ := hf
  have ho : ObjOk X.prog X.w H s.heap d (.xd fs) := I.hok d _ hx
  obtain ⟨mA, hns, hr⟩ := ho
  obtain ⟨od, ho, _⟩ := lookIn_ns hns
  exact ⟨od, hget, hz.1, by unfold PySem.W.notCls; rw [hv] <;> rfl, by rw [hz.2]; exact ho⟩
theorem call_isED (C : ExcC X.K D) (hz : Zc cls dv oe) (hf : ∃ vs, oe.data = .fields vs) : CallR (X.suite a ((a, oe) :: pn)) (.builtin "isinstance") (rIsED X.K D a cls dv) := by
  intro pins s σ H xs us Q I r h
  obtain ⟨d, c, cv, b, fs, rfl, rfl, rfl, hcv, hx, e, q⟩ := h
  cases r with
  | cons rx rr =>
    cases rr with
    | cons rt rr =>
      cases rr
      cases rx
      have ec := hcv.eq rt
      subst ec
      obtain ⟨od, J⟩ := inst_ED hz hf I hx
      exact PySem.W.kia_one (PySem.W.fz_kitx_excD C.hg C.hk C.hs C.hd C.ha C.hn C.ht C.hm) I.kIn J e (fun z => nomatch z) fun tk => ⟨.bl b, H, I.kept (t' := tk) fun _ _ z => z, rfl, q⟩
theorem call_isEDT (C : ExcC X.K D) (hz : Zc cls dv oe) (hf : ∃ vs, oe.data = .fields vs) : CallR (X.suite a ((a, oe) :: pn)) (.builtin "isinstance") (rIsEDT X.K D a cls dv) := by
  intro pins s σ H xs us Q I r h
  obtain ⟨d, tp, cs, ws, b, fs, rfl, rfl, rfl, hT, k, hx, e, q⟩ := h
  cases r with
  | cons rx rr =>
    cases rr with
    | cons rt rr =>
      cases rr
      cases rx
      cases (show _ = Value.ref tp from rt)
      obtain ⟨od, J⟩ := inst_ED hz hf I hx
      obtain ⟨_, its, rv, o, h1, h2, n, h3⟩ := (show ObjOk X.prog X.w H s.heap tp (.tup cs) from I.hok tp _ hT)
      have e3 := ClsV.all k rv
      subst e3
      obtain ⟨oc, od', dt, sl⟩ := o
      simp only at h2 h3
      subst h2 h3
      exact PySem.W.kia_tup (PySem.W.fz_kitx_excD C.hg C.hk C.hs C.hd C.ha C.hn C.ht C.hm) I.kIn J h1 e (fun z => nomatch z) fun tk => ⟨.bl b, H, I.tok tk, rfl, q⟩
end
end Fz

/-! ## FzO -/
set_option Elab.async false
set_option linter.all false
set_option maxRecDepth 100000
set_option maxHeartbeats 4000000
set_option autoImplicit false
/-! FzO: defs that may raise, what they promise; try .. except C as e. -/
namespace Fz
open PySem L2
/-- what may be raised: an own error with one field of data, or one without -/
inductive XV where
  | own (C : Addr) (fld : Str) (x : PyData)
  | bare (C : Addr)
def XV.out (K : PySem.W.Frag) (F H : Hp) (E : XK) : XV → Prop
  | .own C fld x => ∀ v d, Dq K F v x → H d = none → E (.ref C) (some d) (upd H d (.xd [(fld, v)]))
  | .bare C => E (.ref C) none H
section
variable {α β : Type}
/-- a def of data that may raise -/
def spDX (K : PySem.W.Frag) (a : β → List PyData) (Pre : β → Prop) (e : α → PyData) (Post : β → α → Prop) (PX : β → XV → Prop) : Sp := fun vs H Q E => ∃ F y, Sub F H ∧ DqAll K F vs (a y) ∧ Pre y ∧ (∀ x v F' H', Post y x → NxM [] F H F' H' → Dq K F' v (e x) → Q v H') ∧
  ∀ x F' H', PX y x → NxM [] F H F' H' → XV.out K F' H' E x
def XtD (B : Bg) (E : XK) (PX : XV → Prop) : Prop := ∀ x F σ H ε L, PX x → Rep B ε L F σ H → XV.out B.K F H E x
variable {P : Program} {w : World} {K : PySem.W.Frag} {mg : Str → Option Value} {base : Heap} {f : Addr} {fd : FuncData} {ps : List Str} {k : Nat}
theorem fn_DX {x qual : Str} {st : Stmt} {N : List Str} {a : β → List PyData} {Pre : β → Prop} {e : α → PyData} {Post : β → α → Prop} {PX : β → XV → Prop} (Fn : Fun K x qual st f fd) (S : FnScope N ps (defScope st)) (hps : ps.length ≤ N.length) (len : ∀ y, (a y).length = ps.length)
    (hbody : ∀ (cdv : Value) (A : Around) (outer : List Env) (s : Shared) (H : Hp) (E : XK), Room k (A.deeper (PyProof.Rows.envOfC qual (defScope st) s.heap.objs.size f cdv)) →
      ∃ t, PSs (cxOf (L2.CX P w) P w K mg base N qual (defScope st) f cdv A outer s H E) (defBody st) t ∧
        ∀ (B : Bg) (Q : VK) y, B.K = K → Pre y → RetD B Q e (Post y) → XtD B E (PX y) → Ho B (t { nx := fun _ H' => Q .non H', rt := Q }) (argE (a y) N.length) []) :
    FnOk P w K mg base (L2.CX P w) (k + 1) f fd ps (spDX K a Pre e Post PX) := by
  refine Fn.okX S (fun vs H Q E h => ?_) fun cdv A outer s H vs Q E hr h => ?_
  · obtain ⟨F, y, _, hd, _⟩ := h
    rw [dpa_len hd]; exact len y
  · obtain ⟨t, ht, hb⟩ := hbody cdv A outer s H E hr
    obtain ⟨F, y, hs, hd, hy, q, qx⟩ := h
    refine ⟨t, ht, hb ⟨K, F, H, []⟩ Q y rfl hy (fun x v F' σ' H' ε L hx r o => q x v F' H' hx r.nx o) (fun x F' σ' H' ε L hx r => qx x F' H' hx r.nx) F _ H (rep_start hs hd ?_)⟩
    rw [len y]; exact hps
section
variable {B : Bg} {ε ε' : Eps} {L La L' : Own} {te : TE} {tas tk : TA} {D : Ends} {e : α → PyData} {PX : XV → Prop} {E : XK} {W : L2.WX}
/-- raise C(e), out of the def -/
theorem x_raiseOwn {C : Addr} {fld : Str} (q : XtD B E PX) {x : PyData} (h : EX B te ε L (.d x) La) (hx : PX (.own C fld x)) : Ho B (tRaiseOwn C fld (fun cls d _ H => E cls d H) (tCons te tNil) D) ε L := fun F σ H r =>
  h F σ H r _ fun v F1 H1 s1 r1 o1 => ⟨v, rfl, fun d hd => q _ F1 σ H1 ε La hx r1 v d o1 hd⟩
/-- what is raised is taken -/
def HX (B : Bg) (W : L2.WX) (x : XV) (ε : Eps) (L : Own) : Prop := ∀ F σ H, Rep B ε L F σ H → XV.out B.K F H (fun cls d H' => W cls d σ H') x
variable {a : β → List PyData} {Pre : β → Prop} {P2 : β → α → Prop} {PX2 : β → XV → Prop} {κ : α → Own → Prop} {gV : List V → List V → List V}
theorem w_callDX (h : WA B tas ε L fun as L1 => ∃ y, as = (a y).map AD.d ∧ Pre y ∧ (∀ x, P2 y x → κ x L1) ∧ ∀ x, PX2 y x → HX B W x ε L1) : WV B e (tCallS (spDX B.K a Pre e P2 PX2) (WE W) tas) ε L κ := fun F σ H r Q q =>
  h F σ H r _ fun as L1 vs F1 H1 ⟨y, ea, hy, k, kx⟩ s1 r1 o1 => by
    subst ea
    exact ⟨F1, y, r1.sub, ad_data o1, hy, fun x v F' H' hx n o => q x L1 v F' H' (k x hx) (s1.tr n.1) (r1.call n) o, fun x F' H' hx n => kx x hx F' σ H' (r1.call n)⟩
/-- the same with keywords -/
def tCallKS (sp : Sp) (gV : List V → List V → List V) (E : St → XK) (t tk : TA) : TE := fun σ H Q => t σ H fun vs H1 => tk σ H1 fun zs H2 => sp (gV vs zs) H2 Q (E σ)
theorem w_callKDX (h : WA B tk ε L fun as L1 => ∃ y, (∀ K F zs, AdAll K F as zs → DqAll K F (gV [] zs) (a y)) ∧ Pre y ∧ (∀ x, P2 y x → κ x L1) ∧ ∀ x, PX2 y x → HX B W x ε L1) : WV B e (tCallKS (spDX B.K a Pre e P2 PX2) gV (WE W) tNil tk) ε L κ := fun F σ H r Q q =>
  h F σ H r _ fun as L1 vs F1 H1 ⟨y, ea, hy, k, kx⟩ s1 r1 o1 => ⟨F1, y, r1.sub, ea _ _ _ o1, hy, fun x v F' H' hx n o => q x L1 v F' H' (k x hx) (s1.tr n.1) (r1.call n) o, fun x F' H' hx n => kx x hx F' σ H' (r1.call n)⟩
/-! ### try .. except C as e -/
def cutE (D : Ends) (i : Nat) : Ends := { nx := fun σ' H' => D.nx (σ'.set i none) H', rt := D.rt, bk := fun σ' H' => D.bk (σ'.set i none) H', ct := fun σ' H' => D.ct (σ'.set i none) H' }
theorem Rep.gone {F : Hp} {σ : St} {H : Hp} (r : Rep B ε L F σ H) (i : Nat) : Rep B (ε.set i none) L F (σ.set i none) H := by
  refine ⟨r.sub, r.own, r.off, r.nd, fun j x e => ?_, by rw [List.length_set, List.length_set]; exact r.len, r.f0, r.h0, r.nc, r.mm⟩
  rw [List.getElem?_set] at e
  rw [List.getElem?_set, r.len]
  split at e
  · rename_i ij
    subst ij
    split at e
    · rename_i hl
      rw [if_pos rfl, if_pos hl]
      cases e
      exact ⟨_, rfl, trivial⟩
    · cases e
  · rename_i ij
    rw [if_neg ij]
    exact r.sl j x e
theorem ho_cut {Pn : St → Hp → Prop} {i : Nat} (h : Ho B Pn (ε.set i none) L) : Ho B (fun σ' H' => Pn (σ'.set i none) H') ε L := fun F σ H r => h F _ H (r.gone i)
theorem Rep.know {F : Hp} {σ : St} {H : Hp} (r : Rep B ε L F σ H) {v : V} {d : PyData} (h : Dq B.K F v d) : Rep B ε (.know v d :: L) F σ H :=
  ⟨r.sub, fun m hm => by
    rcases List.mem_cons.mp hm with e | e
    · rw [e]; exact h
    · exact r.own m e, r.off, r.nd, r.sl, r.len, r.f0, r.h0, r.nc, r.mm⟩
theorem hx_as {C : Addr} {fld : Str} {x : PyData} {i : Nat} {ts : Addr → Value → Option Addr → TS} {Wout : L2.WX} (te : PySem.W.exmOne B.K (.ref C) (.ref C) = some true)
    (h : ∀ (ad d : Addr) (v : V), d ∉ B.M → Ho B (ts ad (.ref C) (some d) (cutE D i)) (ε.set i (some (.v (.ref ad)))) (.raw d (.xd [(fld, v)]) :: .know v x :: L)) : HX B (wAs B.K (.ref C) i ts Wout D) (.own C fld x) ε L := fun F σ H r v d o hd =>
  ⟨true, te, fun _ ad _ => h ad d v (r.newM hd) F _ _ (((r.know o).alloc hd (m := .raw d (.xd [(fld, v)])) rfl ⟨upd_same, fun _ z => nomatch z⟩).slot (a := .v (.ref ad)) rfl), fun z => nomatch z⟩
/-- e.f -/
theorem ex_xf {ad d C : Addr} {fld : Str} {v : V} {x : PyData} {j i : Nat} (hs : ε[i]? = some (some (.v (.ref ad)))) (h1 : At L j (.raw d (.xd [(fld, v)]))) (h2 : MO.know v x ∈ L) : EX B (tXf ad (.ref C) (some d) C fld (tVar i)) ε L (.d x) L := fun F σ H r Q q => by
  obtain ⟨s, g1, y, rfl, g2⟩ := r.sl i _ hs
  have e : y = .ref ad := g2
  subst e
  have k := r.own _ (List.mem_of_getElem? h1.get)
  have o := r.own _ h2
  exact ⟨.ref ad, g1, rfl, rfl, d, _, v, rfl, k.1, by simp [List.lookup], q v F H (Sub.rfl' F) r o⟩
/-- isinstance(e, c) -/
theorem ex_isED {ad d C : Addr} {fs : List (Str × V)} {i j : Nat} {c : V} {cv : Value} {b : Bool} (hs : ε[i]? = some (some (.v (.ref ad)))) (h1 : At L j (.raw d (.xd fs))) (hc : ClsV c cv) (hk : PySem.W.kitOne B.K (.ref C) cv = some b) : EX B (tCB (rIsED B.K C ad (.ref C) (some d)) (tCons (tVar i) (tCons (tC c) tNil))) ε L (.d (.bool b)) L := fun F σ H r Q q => by
  obtain ⟨s, g1, y, rfl, g2⟩ := r.sl i _ hs
  have e : y = .ref ad := g2
  subst e
  exact ⟨.ref ad, g1, d, c, cv, b, fs, rfl, rfl, rfl, hc, (r.own _ (List.mem_of_getElem? h1.get)).1, hk, q _ F H (Sub.rfl' F) r (.bl b)⟩
/-- a row of classes -/
def tRefs : List Addr → TA
  | [] => tNil
  | c :: cs => tCons (tC (.ref c)) (tRefs cs)
theorem refs_run : ∀ (cs : List Addr) (σ : St) (H : Hp) (Q : List V → Hp → Prop), Q (cs.map V.ref) H → tRefs cs σ H Q
  | [], _, _, _, h => h
  | c :: cs, σ, H, Q, h => refs_run cs σ H (fun vs H1 => Q (.ref c :: vs) H1) h
theorem clsV_refs : ∀ cs : List Addr, PySem.Paired ClsV (cs.map V.ref) (cs.map Value.ref)
  | [] => .nil
  | c :: cs => .cons (.own c) (clsV_refs cs)
theorem ex_isEDT {ad d C : Addr} {fs : List (Str × V)} {i j : Nat} {b : Bool} (cs : List Addr) (hs : ε[i]? = some (some (.v (.ref ad)))) (h1 : At L j (.raw d (.xd fs))) (hl : cs.length ≤ 100000) (hk : PySem.W.kitAny B.K (.ref C) (cs.map Value.ref) = some b) :
    EX B (tCB (rIsEDT B.K C ad (.ref C) (some d)) (tCons (tVar i) (tCons (tTup (tRefs cs)) tNil))) ε L (.d (.bool b)) L := fun F σ H r Q q => by
  obtain ⟨s, g1, y, rfl, g2⟩ := r.sl i _ hs
  have e : y = .ref ad := g2
  subst e
  refine ⟨.ref ad, g1, refs_run cs σ H _ ⟨?_, fun p hp => ?_⟩⟩
  · have : cs.length ≤ sizeLine := by rw [sizeLine_eq]; omega
    rw [List.length_map]; exact this
  · have r1 := r.heap (sub_fresh (o := .tup (cs.map V.ref)) hp)
    exact ⟨d, p, cs.map V.ref, cs.map Value.ref, b, fs, rfl, rfl, rfl, upd_same, clsV_refs cs, (r1.own _ (List.mem_of_getElem? h1.get)).1, hk, q _ F _ (Sub.rfl' F) r1 (.bl b)⟩
end
end
/-! ### defs that may raise, called -/
structure DfX (P : Program) (w : World) (K : PySem.W.Frag) (mg : Str → Option Value) (base : Heap) (k : Nat) (x : Str) (ps : List Str) (sp : Sp) : Prop where
  ex : ∃ f fd, FnOk P w K mg base (L2.CX P w) k f fd ps sp ∧ mg x = some (.ref f) ∧ PySem.W.keepIn K (.ref f) = true ∧ Binds K fd ps []
structure DfXK (P : Program) (w : World) (K : PySem.W.Frag) (mg : Str → Option Value) (base : Heap) (k : Nat) (x : Str) (ps ks : List Str) (g : List Value → List Value → List Value) (gV : List V → List V → List V) (sp : Sp) : Prop where
  ex : ∃ f fd, FnOk P w K mg base (L2.CX P w) k f fd ps sp ∧ mg x = some (.ref f) ∧ PySem.W.keepIn K (.ref f) = true ∧ KBinds K fd ps ks g gV
theorem DfX.mk' {P : Program} {w : World} {K : PySem.W.Frag} {mg : Str → Option Value} {base : Heap} {k : Nat} {x : Str} {ps : List Str} {sp : Sp} {f : Addr} {fd : FuncData} (F : FnOk P w K mg base (L2.CX P w) k f fd ps sp) (m : mg x = some (.ref f)) (kp : PySem.W.keepIn K (.ref f) = true) (b : Binds K fd ps []) : DfX P w K mg base k x ps sp := ⟨f, fd, F, m, kp, b⟩
section
variable {X : Cx} {k : Nat} {x : Str} {ps ks : List Str} {sp : Sp} {p pos : Pos} {e : Expr} {es : List Expr} {kws : List Keyword} {t tk : TA} {g : List Value → List Value → List Value} {gV : List V → List V → List V} {W : L2.WX}
theorem pe_callX (C : DfX X.prog X.w X.K X.mg X.base k x ps sp) (hr : Room k X.A) (tw : Takes X W) (hg : Gl X x) (ha : PA X (e :: es) t) (hdb : (x == ("__debug__" : Str)) = false := by decide)
    (he : starEach (e :: es) X.env = (false, eval e X.env) :: starEach es X.env := by rfl) (hpl : (backTo pos (starEach es X.env)).any (·.1) = false := by rfl) : PE X (.Call (.Name x p) (e :: es) [] pos) (tCallS sp (WE W) t) := by
  obtain ⟨f, fd, F, m, kp, b⟩ := C.ex
  exact pe_callS F hr hg m kp b (fun σ => passAt tw σ) ha hdb he hpl
theorem run_fnkS {pins : List (Addr × Obj)} {σ : St} {H : Hp} {s : Shared} {Q : VK} {us ws : List Value} {vs zs : List V} {CX : CXT} {f : Addr} {fd : FuncData} {E : XK} (F : FnOk X.prog X.w X.K X.mg X.base CX k f fd ps sp) (hr : Room k X.A) (hb : KBinds X.K fd ps ks g gV) (hx : PassesAt CX X σ E)
    (I : Inv X pins σ H s) (r : Vals vs us) (rz : Vals zs ws) (h : sp (gV vs zs) H Q E) : wpAny (model X.prog X.w) X.A (call (.ref f) us (ks.zip ws)) (EP X pins σ Q) X.xe s := by
  have r2 := hb.rel r rz
  have hl : (g us ws).length = ps.length := by rw [← r2.length]; exact F.len _ _ _ _ h
  refine wpAny_call (codeAny_mono (F.run X.A X.stack s H ⟨us, ks.zip ws⟩ (g us ws) (gV vs zs) Q E hr I.env0 (hb.to s us ws I.kIn hl) r2 h) fun r s' hq => ?_)
  cases r with
  | error e => exact hx pins H s e s' I hq
  | ok fl =>
    cases fl with
    | ret u => exact I.after hq
    | next => exact False.elim hq
    | brk => exact False.elim hq
    | cont => exact False.elim hq
theorem pe_callKX (C : DfXK X.prog X.w X.K X.mg X.base k x ps ks g gV sp) (hr : Room k X.A) (tw : Takes X W) (hg : Gl X x) (hkw : PK X kws tk) (hall : (backToKw pos (keywordEach kws X.env)).all (·.1.isSome) = true := by rfl)
    (hks : (backToKw pos (keywordEach kws X.env)).filterMap (·.1) = ks := by rfl) (hdb : (x == ("__debug__" : Str)) = false := by decide)
    (hpl : ((backTo pos (starEach [] X.env)).any (·.1) || (backToKw pos (keywordEach kws X.env)).any (·.1.isNone)) = false := by rfl) : PE X (.Call (.Name x p) [] kws pos) (tCallKS sp gV (WE W) tNil tk) := by
  obtain ⟨f, fd, F, m, kp, b⟩ := C.ex
  refine ⟨fun pins s σ H Q I h => ?_⟩
  refine wpAny_Call_Name_kw (ld_glob I hg m ?_ hdb)
  refine PySem.W.callWith_KW0 (h₀ := X.base) I.ok.mod.kin kp hall (thn (hkw.run pos pins s σ H _ I h) fun ws s2 ⟨zs, H2, I2, rz, q2⟩ => ⟨I2.kIn, ?_⟩) hpl
  rw [hks]
  exact run_fnkS F hr b (passAt tw σ) I2 .nil rz q2
variable {n : Str} {c : Value} {i : Nat} {body suite : List Stmt} {b₀ : Stmt} {np pos' : Pos} {Wout : L2.WX}
/-- try: body / except x as n: suite; the wishes of both carried along -/
theorem ps_try_asT (hs : X.stack = X.env :: X.outer) (hf : X.env.frame = some X.env.locals) (hN : X.N.Nodup) (hi : X.N[i]? = some n) (hln : X.env.kindOf n = some .local) (hc : Names X x c) (tk : Takes X Wout)
    (hb : (W : L2.WX) → {t : TS // ∀ (pn : List (Addr × Obj)) (xe : Value → Shared → Prop), Takes (X.tr pn xe) W → PassesOwn (model X.prog X.w) X.A X.env xe → PSs (X.tr pn xe) body t})
    (hsu : (a : Addr) → (cls : Value) → (d : Option Addr) → {t : TS // ∀ (oe : Obj) (pn : List (Addr × Obj)), Zc cls d oe → (∃ vs, oe.data = .fields vs) → PSs (X.suite a ((a, oe) :: pn)) (b₀ :: suite) t}) :
    PS X (.Try body [.ExceptHandler (some (.Name x np)) (some n) (b₀ :: suite) pos'] [] [] pos) (fun D σ H => (hb (wAs X.K c i (fun a cls d => (hsu a cls d).1) Wout D)).1 D σ H) :=
  ps_try_as (tb := fun W => (hb W).1) (ts := fun a cls d => (hsu a cls d).1) hs hf hN hi hln hc tk (fun W pn xe t p => (hb W).2 pn xe t p) (fun a oe cls d pn z f => (hsu a cls d).2 oe pn z f)
end
section
variable {X : Cx} {K : PySem.W.Frag} {T id : String} {name : Str} {r : V → List V → Hp → VK → Prop} {o e : Expr} {es : List Expr} {to : TE} {t : TA} {apos cpos : Pos}
/-- a method's call, the written part named -/
theorem pe_bmK (hK : X.K = K) (pa : PlainAttrs T) (slot : Slot T name id) (hty : typeOf (.builtin id) = pure (.type "method_descriptor")) (hm : MtR X id r) (ho : PE X o to) (ha : PA X (e :: es) t)
    (hbase : attributeBase o name X.env (eval o X.env) = eval o X.env := by rfl)
    (hfew : ((backTo cpos (starEach (e :: es) X.env)).all (fun x => !x.1) && (backToKw cpos (keywordEach [] X.env)).all (fun x => x.1.isSome)
      && decide ((e :: es).length + ([] : List Keyword).length + (if ([] : List Keyword).isEmpty then 0 else 1) < 30)) = true := by rfl)
    (hline : (apos.endLine == cpos.line) = true := by rfl) (hs : starEach (e :: es) X.env = (false, eval e X.env) :: starEach es X.env := by rfl) (hplain : (backTo cpos (starEach es X.env)).any (·.1) = false := by rfl) :
    PE X (.Call (.Attribute o name apos) (e :: es) [] cpos) (tBM K T r to t) := by
  subst hK
  exact pe_bm pa slot hty hm ho ha hbase hfew hline hs hplain
end
end Fz

/-! ## FzI -/
set_option Elab.async false
set_option linter.all false
set_option maxRecDepth 100000
set_option maxHeartbeats 4000000
set_option autoImplicit false
/-! FzI: isinstance of data; enumerate over a tuple. -/
namespace Fz
open PySem L2
/-! ### isinstance -/
def tyN : PyData → String
  | .none => "NoneType"
  | .bool _ => "bool"
  | .int _ => "int"
  | .str _ => "str"
  | .list _ => "list"
  | .tuple _ => "tuple"
  | .dict _ => "dict"
def isTup : PyData → Bool
  | .tuple _ => true
  | _ => false
def isLst : PyData → Bool
  | .list _ => true
  | _ => false
def isStr : PyData → Bool
  | .str _ => true
  | _ => false
def isBl : PyData → Bool
  | .bool _ => true
  | _ => false
/-- a bool is an int -/
def isInt : PyData → Bool
  | .int _ => true
  | .bool _ => true
  | _ => false
theorem dq_ty {K : PySem.W.Frag} {F H : Hp} {v : V} {d : PyData} (h : Dq K F v d) (s : Sub F H) : TyX K H v (.type (tyN d)) := by
  cases h with
  | non => exact .base .non
  | bl b => exact .base (.bl b)
  | int i => exact .base (.int i)
  | str x => exact .base (.str x)
  | lst a _ => exact .base (.lst (s _ _ a))
  | tup a _ => exact .base (.tup (s _ _ a))
  | dic a _ => exact .base (.dK (s _ _ a))
theorem kit_tup (K : PySem.W.Frag) : ∀ d : PyData, PySem.W.kitOne K (.type (tyN d)) (.type "tuple") = some (isTup d)
  | .none => kit_ty (a := "NoneType") (b := "tuple") (r := false) (by decide +kernel)
  | .bool _ => kit_ty (a := "bool") (b := "tuple") (r := false) (by decide +kernel)
  | .int _ => kit_ty (a := "int") (b := "tuple") (r := false) (by decide +kernel)
  | .str _ => kit_ty (a := "str") (b := "tuple") (r := false) (by decide +kernel)
  | .list _ => kit_ty (a := "list") (b := "tuple") (r := false) (by decide +kernel)
  | .tuple _ => kit_ty (a := "tuple") (b := "tuple") (r := true) (by decide +kernel)
  | .dict _ => kit_ty (a := "dict") (b := "tuple") (r := false) (by decide +kernel)
theorem kit_lst (K : PySem.W.Frag) : ∀ d : PyData, PySem.W.kitOne K (.type (tyN d)) (.type "list") = some (isLst d)
  | .none => kit_ty (a := "NoneType") (b := "list") (r := false) (by decide +kernel)
  | .bool _ => kit_ty (a := "bool") (b := "list") (r := false) (by decide +kernel)
  | .int _ => kit_ty (a := "int") (b := "list") (r := false) (by decide +kernel)
  | .str _ => kit_ty (a := "str") (b := "list") (r := false) (by decide +kernel)
  | .list _ => kit_ty (a := "list") (b := "list") (r := true) (by decide +kernel)
  | .tuple _ => kit_ty (a := "tuple") (b := "list") (r := false) (by decide +kernel)
  | .dict _ => kit_ty (a := "dict") (b := "list") (r := false) (by decide +kernel)
theorem kit_str (K : PySem.W.Frag) : ∀ d : PyData, PySem.W.kitOne K (.type (tyN d)) (.type "str") = some (isStr d)
  | .none => kit_ty (a := "NoneType") (b := "str") (r := false) (by decide +kernel)
  | .bool _ => kit_ty (a := "bool") (b := "str") (r := false) (by decide +kernel)
  | .int _ => kit_ty (a := "int") (b := "str") (r := false) (by decide +kernel)
  | .str _ => kit_ty (a := "str") (b := "str") (r := true) (by decide +kernel)
  | .list _ => kit_ty (a := "list") (b := "str") (r := false) (by decide +kernel)
  | .tuple _ => kit_ty (a := "tuple") (b := "str") (r := false) (by decide +kernel)
  | .dict _ => kit_ty (a := "dict") (b := "str") (r := false) (by decide +kernel)
theorem kit_bool (K : PySem.W.Frag) : ∀ d : PyData, PySem.W.kitOne K (.type (tyN d)) (.type "bool") = some (isBl d)
  | .none => kit_ty (a := "NoneType") (b := "bool") (r := false) (by decide +kernel)
  | .bool _ => kit_ty (a := "bool") (b := "bool") (r := true) (by decide +kernel)
  | .int _ => kit_ty (a := "int") (b := "bool") (r := false) (by decide +kernel)
  | .str _ => kit_ty (a := "str") (b := "bool") (r := false) (by decide +kernel)
  | .list _ => kit_ty (a := "list") (b := "bool") (r := false) (by decide +kernel)
  | .tuple _ => kit_ty (a := "tuple") (b := "bool") (r := false) (by decide +kernel)
  | .dict _ => kit_ty (a := "dict") (b := "bool") (r := false) (by decide +kernel)
theorem kit_int (K : PySem.W.Frag) : ∀ d : PyData, PySem.W.kitOne K (.type (tyN d)) (.type "int") = some (isInt d)
  | .none => kit_ty (a := "NoneType") (b := "int") (r := false) (by decide +kernel)
  | .bool _ => kit_ty (a := "bool") (b := "int") (r := true) (by decide +kernel)
  | .int _ => kit_ty (a := "int") (b := "int") (r := true) (by decide +kernel)
  | .str _ => kit_ty (a := "str") (b := "int") (r := false) (by decide +kernel)
  | .list _ => kit_ty (a := "list") (b := "int") (r := false) (by decide +kernel)
  | .tuple _ => kit_ty (a := "tuple") (b := "int") (r := false) (by decide +kernel)
  | .dict _ => kit_ty (a := "dict") (b := "int") (r := false) (by decide +kernel)
section
variable {B : Bg} {ε : Eps} {L La : Own} {te : TE} {d : PyData}
theorem ex_isi {n : String} {b : Bool} (h : EX B te ε L (.d d) La) (k : PySem.W.kitOne B.K (.type (tyN d)) (.type n) = some b) : EX B (tCB (rIsi B.K) (tCons te (tCons (tC (.ty n)) tNil))) ε L (.d (.bool b)) La := fun F σ H r Q q =>
  h F σ H r _ fun v F1 H1 s1 r1 o1 => ⟨v, .ty n, _, _, b, rfl, .ty n, dq_ty o1 r1.sub, k, q _ F1 H1 s1 r1 (.bl b)⟩
theorem ex_isTup (h : EX B te ε L (.d d) La) : EX B (tCB (rIsi B.K) (tCons te (tCons (tC (.ty "tuple")) tNil))) ε L (.d (.bool (isTup d))) La := ex_isi h (kit_tup _ d)
theorem ex_isLst (h : EX B te ε L (.d d) La) : EX B (tCB (rIsi B.K) (tCons te (tCons (tC (.ty "list")) tNil))) ε L (.d (.bool (isLst d))) La := ex_isi h (kit_lst _ d)
theorem ex_isStr (h : EX B te ε L (.d d) La) : EX B (tCB (rIsi B.K) (tCons te (tCons (tC (.ty "str")) tNil))) ε L (.d (.bool (isStr d))) La := ex_isi h (kit_str _ d)
theorem ex_isBl (h : EX B te ε L (.d d) La) : EX B (tCB (rIsi B.K) (tCons te (tCons (tC (.ty "bool")) tNil))) ε L (.d (.bool (isBl d))) La := ex_isi h (kit_bool _ d)
theorem ex_isInt (h : EX B te ε L (.d d) La) : EX B (tCB (rIsi B.K) (tCons te (tCons (tC (.ty "int")) tNil))) ε L (.d (.bool (isInt d))) La := ex_isi h (kit_int _ d)
end
end Fz
/-! ### enumerate over a tuple -/
namespace PySem
set_option maxHeartbeats 1000000 in
theorem fz_meets_enumT (l : Addr) (items : Array Value) (n : Nat) (dct : Option Addr) (sl : Array (Option Value)) :
    Meets (Builtin.«enumerate.__new__» ⟨[.type "enumerate", .ref l], []⟩) (fun _ R s => s.heap.get? l = some { cls := .type "tuple", dict := dct, data := .seq items n, slots := sl } ∧
      R (.ok (.ret (.ref (s.heap.push { cls := .type "tuple_iterator", data := .fields #[.ref l, .int 0 0] }).objs.size)))
        { s with heap := (s.heap.push { cls := .type "tuple_iterator", data := .fields #[.ref l, .int 0 0] }).push { cls := .type "enumerate", data := .fields #[.none, .bool false, .ref s.heap.objs.size, rawInt 0, .none, .none] } }) :=
  .of_wp fun prog w A R s h => by
    obtain ⟨hp, g, d, tk, os⟩ := s; obtain ⟨hl, h⟩ := h
    have hsub := sub_enumerate
    have hL : Heap.IsTuple (Shared.heap ⟨hp, g, d, tk, os⟩) l items := ⟨_, hl, rfl, n, rfl⟩
    wp_walk using AutoSeq1.wpAny_loadPart' hl
    refine wpAny_stack_any fun st => wpAny_pure ?_
    split
    · rename_i c _ _ _ _ _
      cases (c == Value.type "enumerate")
      · wp_walk using AutoSeq1.wpAny_loadPart' hl, wpAny_pyIter_tuple hL
        exact ⟨_, rfl, h⟩
      · wp_walk using AutoSeq1.wpAny_loadPart' hl, wpAny_pyIter_tuple hL
        exact ⟨_, rfl, h⟩
    · wp_walk using AutoSeq1.wpAny_loadPart' hl, wpAny_pyIter_tuple hL
      exact ⟨_, rfl, h⟩
section
variable {prog : Program} {w : World} {A : Around} {E : Value → Shared → Prop} {s : Shared}
theorem fz_call_enumT {l : Addr} {items : Array Value} {Q : Value → Shared → Prop} (hL : s.heap.IsTuple l items)
    (h : ∀ h', IsEnum h' (s.heap.objs.size + 1) s.heap.objs.size 0 .none → h'.IsTupleIter s.heap.objs.size l 0 → h'.objs.size = s.heap.objs.size + 2 →
      (∀ b o, s.heap.get? b = some o → h'.get? b = some o) → Q (.ref (s.heap.objs.size + 1)) { s with heap := h' }) :
    wpAny (model prog w) A (call (.type "enumerate") [.ref l]) Q E s := by
  obtain ⟨⟨c, dct, dt, sl⟩, hl, hc, n, hd⟩ := hL
  replace hc : c = .type "tuple" := hc
  replace hd : dt = .seq items n := hd
  subst hc hd
  refine callType_new F.called_enumerate (by decide) (F.typeCall_enumerate_1 _) (F.newCall_enumerate_1 _) (fun obj => F.args_object_init_2 obj _) F.entry_enumerate_new
    (fz_meets_enumT l items n dct sl) ⟨hl, ?_⟩
  have hz : (s.heap.push { cls := .type "tuple_iterator", data := .fields #[.ref l, .int 0 0] }).objs.size = s.heap.objs.size + 1 := Heap.size_push ..
  show _ ∧ _
  rw [hz]
  have he : IsEnum ((s.heap.push { cls := .type "tuple_iterator", data := .fields #[.ref l, .int 0 0] }).push
      { cls := .type "enumerate", data := .fields #[.none, .bool false, .ref s.heap.objs.size, rawInt 0, .none, .none] }) (s.heap.objs.size + 1) s.heap.objs.size 0 .none := by
    have := Heap.get?_push_size (s.heap.push { cls := .type "tuple_iterator", data := .fields #[.ref l, .int 0 0] })
      (o := { cls := .type "enumerate", data := .fields #[.none, .bool false, .ref s.heap.objs.size, rawInt 0, .none, .none] }) rfl
    rw [hz] at this; exact this
  refine ⟨⟨_, he, rfl⟩, h _ he ⟨_, Heap.get?_push_of_some _ (Heap.get?_push_size _ rfl), rfl, rfl⟩ (by rw [Heap.size_push, hz]) fun b o x => Heap.get?_push_of_some _ (Heap.get?_push_of_some _ x)⟩
end
end PySem

/-! ## FzJ -/
set_option Elab.async false
set_option linter.all false
set_option maxRecDepth 100000
set_option maxHeartbeats 4000000
set_option autoImplicit false
/-! FzJ: for .. in enumerate(a tuple). -/
namespace L2
open PySem PySem.Spec PyProof.Rows
/-- the tuple at a as it stands, the items in new pairs -/
def Itet (K : PySem.W.Frag) (a : Addr) : It :=
  ⟨fun i H => ∃ (xs : List V) (x : V), SqT K H a xs ∧ xs[i]? = some x, fun i H v H' => ∃ T x, v = .ref T ∧ H T = none ∧ H' = upd H T (.tup [.int (i : Nat), x]) ∧ ∀ xs, SqT K H a xs → xs[i]? = some x, fun i H => ∃ xs : List V, SqT K H a xs ∧ xs.length ≤ i⟩
theorem turn_enumT {P : Program} {w : World} {K : PySem.W.Frag} {elts : List Expr} {kk : Nat} {tpos : Pos} (a e it : Addr) :
    Turn P w K (.Tuple elts kk tpos) (Itet K a) [e, it] e (fun i h => (∃ old, IsEnum h e it ((i : Nat) : Int) old) ∧ h.IsTupleIter it a i ∧ e ≠ it) where
  mem := by simp
  obj := fun i h st b hb => by
    obtain ⟨⟨old, he⟩, ⟨o, ho, hc, hd⟩, _⟩ := st
    have e' : b = e ∨ b = it := by simpa using hb
    rcases e' with z | z
    · rw [z]; exact ⟨_, he, fun v q => nomatch q⟩
    · rw [z]; exact ⟨o, ho, fun v q => by rw [hd] at q; cases q⟩
  keep := fun i h h' st k => let ⟨⟨old, he⟩, hi, hne⟩ := st; ⟨⟨old, k e (by simp) _ he⟩, hi.at fun o q => k it (by simp) o q, hne⟩
  item := by
    intro X hP hw hK hc i pins s σ H E I hf st hg
    subst hP hw hK
    obtain ⟨⟨old, he⟩, hit, hne⟩ := st
    obtain ⟨xs, x, hq, hx⟩ := hg
    obtain ⟨its, rv, p, hz⟩ := I.tuple hq
    have p : s.heap.IsTuple a its.toArray := p
    obtain ⟨u, hu, ru⟩ := rv.get hx
    have hel : e < s.heap.objs.size := Heap.lt_size he
    have hil : it < s.heap.objs.size := by obtain ⟨_, q, _⟩ := hit; exact Heap.lt_size q
    have hai : a ≠ it := fun z => by
      obtain ⟨oi, q1, q2, q3⟩ := hit
      obtain ⟨ot, q4, q5, n, q6⟩ := p
      rw [z, q1] at q4
      cases q4
      rw [q3] at q6; cases q6
    have hae : a ≠ e := fun z => by
      obtain ⟨ot, q4, q5, n, q6⟩ := p
      rw [z, he] at q4
      cases q4
      cases q6
    have D := Draws.tuple (prog := X.prog) (w := X.w) (A := X.A.in1) (show X.A.in1.handled = none from I.ok.hd hc) it a hai its.toArray
    have hlt : i < its.toArray.size := by
      have := (List.getElem?_eq_some_iff.mp hu).1
      simpa using this
    refine wpAny_pyNext_enum_itemD D he ⟨hit, p⟩ hlt hne (by simp; exact ⟨hne, fun z => hae z.symm⟩) fun y h' tk hP ho hs' hT hsz hk => ?_
    have ey : y = u := by
      have e1 : its.toArray[i]? = some u := by simpa using hu
      rw [e1] at hP
      exact (Option.some.inj hP).symm
    subst ey
    have hit' := hs'.1
    refine ⟨_, rfl, wpAny_letOwnedTupleGo_enum (s := { s with heap := h', toks := tk + 1 }) ho fun h'' he' sb => ?_⟩
    have hT2 : h''.get? s.heap.objs.size = some { cls := .type "tuple", data := .seq #[.int i tk, y] } := (sb.2 _ (Nat.ne_of_gt hel)).trans hT
    have new : ObjOk X.prog X.w (upd H s.heap.objs.size (.tup [.int (i : Nat), x])) h'' s.heap.objs.size (.tup [.int (i : Nat), x]) :=
      ⟨by show 2 ≤ sizeLine; decide, [.int i tk, y], .cons ⟨_, rfl⟩ (.cons ru .nil), ⟨_, hT2, rfl, _, rfl⟩⟩
    have I1 : Inv X pins σ (upd H s.heap.objs.size (.tup [.int (i : Nat), x])) { s with heap := h'', toks := tk + 1 } :=
      I.turnedNew (ch := [e, it]) (fun b ob hb q => (sb.2 b (fun z => hb (by simp [z]))).trans (hk b ob (fun z => hb (by simp [z])) (fun z => hb (by simp [z])) q)) hf (Nat.le_refl _) new
    refine ⟨.ref s.heap.objs.size, _, I1, rfl, ⟨_, x, rfl, I.hok.fresh (Nat.le_refl _), rfl, fun ys hy => by rw [I.tuple_inj hy hq]; exact hx⟩, ⟨⟨y, ?_⟩, hit'.at fun o q => (sb.2 it (Ne.symm hne)).trans q, hne⟩, fun b hb => ?_⟩
    · have e1 : ((i + 1 : Nat) : Int) = (i : Int) + 1 := by omega
      rw [e1]; exact he'
    · have hb' : b < s.heap.objs.size := by
        have e' : b = e ∨ b = it := by simpa using hb
        rcases e' with z | z
        · rw [z]; exact hel
        · rw [z]; exact hil
      rw [upd_ne (Nat.ne_of_lt hb')]
      exact (hf b hb).1
  done := by
    intro X hP hw hK hc i pins s σ H E I hf st hg
    subst hP hw hK
    obtain ⟨⟨old, he⟩, hit, hne⟩ := st
    obtain ⟨xs, hq, hx⟩ := hg
    obtain ⟨its, rv, p, hz⟩ := I.tuple hq
    have p : s.heap.IsTuple a its.toArray := p
    obtain ⟨f0, f1, f2, f3, f4, f5⟩ := hf it (by simp)
    have hl := rv.length
    have hai : a ≠ it := fun z => by
      obtain ⟨oi, q1, q2, q3⟩ := hit
      obtain ⟨ot, q4, q5, n, q6⟩ := p
      rw [z, q1] at q4
      cases q4
      rw [q3] at q6; cases q6
    have hT : s.TypeIs (.ref e) "enumerate" := ⟨_, he, rfl⟩
    unfold pyNext
    refine wpAny_bind (wpAny_attempt (wpAny_callSpecial?_slot (name := Str.ofString "__next__") hT F.slot_enumerate_next
      (wpAny_call_entry F.slot_enumerate_next hT F.entry_enumerate_next ?_ (F.args_enumerate_next_1 _))))
    show wpAny _ _ (field (.ref e) 2 >>= _) _ _ _
    refine wpAny_bind (wpAny_field he rfl (x := .ref it) rfl ?_)
    refine wpAny_bind (wpAny_nextOf_tuple_end (A := X.A.in1) (show X.A.in1.handled = none from I.ok.hd hc) hit p (by simp; omega) fun h' x he' hx' => ?_)
    obtain ⟨o, ho, hcl⟩ := hx'
    refine wpAny_bind (wpAny_isInstance (T := "StopIteration") (b := true) ⟨o, ho, hcl⟩ isSubtype_stop ?_)
    exact wpAny_pure ⟨rfl, I.turned (t' := s.toks) (fun b o hb q => he' b o hb q) f0 f1 f3 f4 f5⟩
  self := fun A i s Q E st h => let ⟨⟨_, he⟩, _⟩ := st; wpAny_pyIter_enum he h
def iEnumT (K : PySem.W.Frag) (ta : TA) : TI := fun σ H R => ta σ H fun vs H1 => ∃ a xs, vs = [.ref a] ∧ SqT K H1 a xs ∧ R (Itet K a) H1
theorem pi_enumT {X : Cx} {e : Expr} {ta : TA} {p pos tpos : Pos} {elts : List Expr} {kk : Nat} (hg : Gl X "enumerate") (hm : X.mg "enumerate" = none) (ha : PA X [e] ta) (hs : starEach [e] X.env = [(false, eval e X.env)] := by rfl) :
    PI X (.Tuple elts kk tpos) (.Call (.Name "enumerate" p) [e] [] pos) (iEnumT X.K ta) := by
  refine ⟨fun pins s σ H R I h => ?_⟩
  refine Call_ (ld_blt I hg hm boot_enumerate (PyProof.Rows.callWith_type1 (thn (ha.run pos pins s σ H _ I h) fun us s1 ⟨vs, H1, I1, r1, q1⟩ => ?_) hs rfl))
  obtain ⟨a, xs, ex, hq, q⟩ := q1
  subst ex
  cases r1 with
  | cons r rr =>
    cases rr
    cases r
    obtain ⟨its, rv, p', hz⟩ := I1.tuple hq
    refine fz_call_enumT (show s1.heap.IsTuple a its.toArray from p') fun h' he hit hsz hk => wpAny_pyIter_enum he ?_
    have I2 : Inv X pins σ H1 { s1 with heap := h' } := I1.kept (t' := s1.toks) hk
    refine ⟨s1.heap.objs.size + 1, [s1.heap.objs.size + 1, s1.heap.objs.size], _, _, H1, rfl, I2, turn_enumT a (s1.heap.objs.size + 1) s1.heap.objs.size, ⟨⟨.none, he⟩, hit, Nat.succ_ne_self _⟩, fun b hb => ?_, q⟩
    have e' : b = s1.heap.objs.size + 1 ∨ b = s1.heap.objs.size := by simpa using hb
    have hle : s1.heap.objs.size ≤ b := by
      rcases e' with z | z
      · rw [z]; exact Nat.le_add_right _ _
      · rw [z]; exact Nat.le_refl _
    exact I1.fpOk hle (I1.hok.fresh hle)
end L2
namespace Fz
open PySem L2
section
variable {B : Bg} {ε : Eps} {L L1 : Own} {tas : TA} {g : TG} {tc : TS} {D : Ends}
/-- over enumerate of a tuple -/
theorem x_forET {ds : List PyData} (h : EA B tas ε L [.d (.tuple ds)] L1) (I : V → Nat → Eps → Own → Prop) (h0 : ∀ v, I v 0 ε (L1 ++ [.know v (.tuple ds)])) (hl : ∀ v i ε' L', I v i ε' L' → MO.know v (.tuple ds) ∈ L')
    (hs : ∀ v i d ε' L', ds[i]? = some d → I v i ε' L' → ∃ ε'', GT B g (.d (.tuple [.int (i : Int), d])) ε' ε'' ∧ Ho B (tc { D with nx := AbsP B (I v (i + 1)), ct := AbsP B (I v (i + 1)), bk := D.nx }) ε'' L')
    (hd : ∀ v ε' L', I v ds.length ε' L' → Ho B D.nx ε' L') : Ho B (tFor (iEnumT B.K tas) g tc D) ε L := fun F σ H r =>
  h F σ H r _ fun vs0 F1 H1 _ r1 o1 => by
    match vs0, o1 with
    | [v], o =>
    have o' : Dq B.K F1 v (.tuple ds) := o.1
    have r2 := r1.learn o'
    cases o' with
    | @tup p vs _ q1 q2 =>
      have back : ∀ {i : Nat} {ε' : Eps} {L' : Own} {F' : Hp} {σ' : St} {H' : Hp}, I (.ref p) i ε' L' → Rep B ε' L' F' σ' H' → ∃ ws, SqT B.K H' p ws ∧ DqAll B.K F' ws ds := fun hI r' => by
        have k : Dq B.K _ (.ref p) (.tuple ds) := r'.own _ (hl _ _ _ _ hI)
        cases k with
        | tup k1 k2 => exact ⟨_, tq_sub r'.sub k1, k2⟩
      refine ⟨p, vs, rfl, tq_sub r1.sub q1, ⟨fun i m σ' H' => m = ds.length - i ∧ i ≤ ds.length ∧ AbsP B (I (.ref p) i) σ' H', ⟨_, rfl, Nat.zero_le _, ε, _, F1, h0 _, r2⟩, ?_⟩⟩
      rintro i m σ' H' ⟨rfl, hi, ε', L', F', hI, r'⟩
      obtain ⟨ws, k1, k2⟩ := back hI r'
      by_cases hlt : i < ds.length
      · obtain ⟨d, hdi⟩ : ∃ d, ds[i]? = some d := ⟨_, List.getElem?_eq_getElem hlt⟩
        obtain ⟨w, e1, e2⟩ := dpa_get k2 hdi
        obtain ⟨ε'', hg, hb⟩ := hs _ i d ε' L' hdi hI
        refine .inr ⟨⟨ws, w, k1, e1⟩, AbsP B (I (.ref p) (i + 1)), fun σ2 H2 hN => ⟨ds.length - (i + 1), by omega, rfl, hlt, hN⟩, fun x H2 hy => ?_⟩
        obtain ⟨T, y, rfl, hT, rfl, hx⟩ := hy
        have ex : y = w := Option.some.inj ((hx ws k1).symm.trans e1)
        subst ex
        have hF := sub_none r'.sub hT
        exact hg L' _ σ' _ _ (r'.grow hT) (.tup upd_same (.cons (.int _) (.cons (dp_sub (sub_fresh hF) e2) .nil))) _ fun σ3 r3 => hb _ σ3 _ r3
      · have ei : i = ds.length := by omega
        subst ei
        exact .inl ⟨⟨ws, k1, by rw [dpa_len k2]; exact Nat.le_refl _⟩, hd _ _ _ hI F' σ' H' r'⟩
end
end Fz

/-! ## FzK -/
set_option Elab.async false
set_option linter.all false
set_option maxRecDepth 100000
set_option maxHeartbeats 4000000
set_option autoImplicit false
/-! FzK: for .. in enumerate(zip(a tuple, a tuple)). -/
namespace PySem
section
variable {prog : Program} {w : World} {A : Around} {E : Value → Shared → Prop} {s : Shared} {z TI TO i1 i2 a b T : Addr} {xs ys : Array Value} {i : Nat}
theorem fz_zip_heldT {f : Bool} {oT : Obj} {x y : Value} {Q : Value → Shared → Prop} (S : ZipSep2 z TI TO i1 i2 [i1, a] [i2, b])
    (hz : IsZipHeld s.heap z TI TO T f) (hT : s.heap.get? T = some oT) (hTI : IsTupOf2 s.heap TI (.ref i1) (.ref i2))
    (h1 : s.heap.IsTupleIter i1 a i) (h2 : s.heap.IsTupleIter i2 b i) (hl1 : s.heap.IsTuple a xs) (hl2 : s.heap.IsTuple b ys) (hx : xs[i]? = some x) (hy : ys[i]? = some y)
    (hQ : ∀ h', IsZipHeld h' z TI TO T true → h'.IsTupleIter i1 a (i + 1) → h'.IsTupleIter i2 b (i + 1) → IsTupOf2 h' s.heap.objs.size x y → h'.objs.size = s.heap.objs.size + 1 →
      (∀ c o, c ≠ z → c ≠ i1 → c ≠ i2 → s.heap.get? c = some o → h'.get? c = some o) → Q (.ref s.heap.objs.size) { s with heap := h' }) :
    wpAny (model prog w) A (Builtin.«zip.__next__» ⟨[.ref z], []⟩) (fun fin s' => ∃ v, fin = .done (.ret v) ∧ Q v s') E s := by
  have az : a ≠ z := fun e => S.zf1 (by simp [e])
  have bz : b ≠ z := fun e => S.zf2 (by simp [e])
  have i1z : i1 ≠ z := fun e => S.zf1 (by simp [e])
  have i2z : i2 ≠ z := fun e => S.zf2 (by simp [e])
  have i12 : i1 ≠ i2 := fun e => S.sep1_2 (by simp [e])
  have bi1 : b ≠ i1 := fun e => S.sep1_2 (by simp [e])
  have ai2 : a ≠ i2 := fun e => S.sep2_1 (by simp [e])
  show wpAny _ _ (field (.ref z) 2 >>= _) _ _ _
  refine wpAny_bind (wpAny_field hz rfl (x := .bool false) rfl ?_)
  show wpAny _ _ (field (.ref z) 3 >>= _) _ _ _
  refine wpAny_bind (wpAny_field hz rfl (x := .ref TI) rfl ?_)
  refine wpAny_bind (wpAny_seqItems hTI rfl ?_)
  show wpAny _ _ (Builtin.SmallTypes.ownedTupleIsFree (.ref z) >>= _) _ _ _
  refine wpAny_bind (wpAny_tupleHeld_zip hz hT fun h₁ hz₁ hs₁ => ?_)
  simp only [Bool.false_eq_true, if_false]
  refine wpAny_bind ?_
  rw [← Array.forIn_toList]
  simp only [List.forIn_cons, List.forIn_nil]
  refine wpAny_bind (wpAny_bind (wpAny_holding ?_))
  show wpAny _ _ (Builtin.SmallTypes.nextOf (.ref i1) >>= _) _ _ _
  refine wpAny_bind (wpAny_nextOf_tuple_item (s := { s with heap := h₁ }) (h1.extBut hs₁.extBut i1z) (hl1.extBut hs₁.extBut az) hx fun h₂ h1₂ hs₂ => wpAny_pure ?_)
  refine wpAny_pure ?_
  refine wpAny_bind (wpAny_bind (wpAny_holding ?_))
  show wpAny _ _ (Builtin.SmallTypes.nextOf (.ref i2) >>= _) _ _ _
  refine wpAny_bind (wpAny_nextOf_tuple_item (s := { s with heap := h₂ }) ((h2.extBut hs₁.extBut i2z).extBut hs₂.extBut i12.symm) ((hl2.extBut hs₁.extBut bz).extBut hs₂.extBut bi1) hy fun h₃ h2₃ hs₃ => wpAny_pure ?_)
  refine wpAny_pure (wpAny_pure ?_)
  show wpAny _ _ (newTuple [x, y] >>= _) _ _ _
  refine wpAny_bind (wpAny_newTuple ?_)
  have hsz : h₃.objs.size = s.heap.objs.size := by rw [hs₃.1, hs₂.1, hs₁.1]
  have hz₃ : IsZipHeld h₃ z TI TO T true := hs₃.extBut _ _ i2z.symm (hs₂.extBut _ _ i1z.symm hz₁)
  have hk : ∀ c o, c ≠ z → c ≠ i1 → c ≠ i2 → s.heap.get? c = some o → h₃.get? c = some o := fun c o c1 c2 c3 e => hs₃.extBut _ _ c3 (hs₂.extBut _ _ c2 (hs₁.extBut _ _ c1 e))
  have h1₃ : h₃.IsTupleIter i1 a (i + 1) := h1₂.extBut hs₃.extBut i12
  refine wpAny_pure ⟨_, rfl, ?_⟩
  show Q (.ref h₃.objs.size) _
  have hp : IsTupOf2 (h₃.push { cls := .type "tuple", data := .seq #[x, y] }) h₃.objs.size x y := Heap.get?_push_size _ rfl
  have hz4 : (h₃.push { cls := .type "tuple", data := .seq #[x, y] }).objs.size = h₃.objs.size + 1 := Heap.size_push ..
  rw [hsz] at hp hz4 ⊢
  exact hQ _ (Heap.get?_push_of_some _ hz₃) (h1₃.at fun o e => Heap.get?_push_of_some _ e) (h2₃.at fun o e => Heap.get?_push_of_some _ e) hp hz4 fun c o c1 c2 c3 e => Heap.get?_push_of_some _ (hk c o c1 c2 c3 e)
end
end PySem

/-! ## FzK3 -/
set_option Elab.async false
set_option linter.all false
set_option maxRecDepth 100000
set_option maxHeartbeats 4000000
set_option autoImplicit false
/-! FzK3: zip over tuples, its own pair free (never out, or gone). -/
namespace PySem
abbrev IsZF (h : Heap) (z TI TO : Addr) (f0 : Value) (f : Bool) : Prop :=
  h.get? z = some { cls := .type "zip", dict := none, data := .fields #[f0, .bool f, .bool false, .ref TI, .ref TO], slots := #[] }
section
variable {prog : Program} {w : World} {A : Around} {E : Value → Shared → Prop} {s : Shared} {z TI TO i1 i2 a b T : Addr} {xs ys : Array Value} {i : Nat}
theorem fz_alive {T : Addr} {Q : Option Obj → Shared → Prop} (h : Q (s.heap.get? T) s) : wpAny (model prog w) A (loadIfAlive T) Q E s := fun _ _ _ => h
theorem fz_own_free {f0 : Value} {f : Bool} {Q : Bool → Shared → Prop} (hz : IsZF s.heap z TI TO f0 f) (hf : f0 = .none ∨ ∃ T : Addr, f0 = rawInt T ∧ s.heap.get? T = none) (h : Q true s) : wpAny (model prog w) A (Builtin.SmallTypes.ownedTupleIsFree (.ref z)) Q E s := by
  unfold Builtin.SmallTypes.ownedTupleIsFree
  rcases hf with rfl | ⟨T, rfl, hT⟩
  · exact wpAny_bind (wpAny_field hz rfl (x := .none) rfl (wpAny_pure h))
  · refine wpAny_bind (wpAny_field hz rfl (x := rawInt T) rfl ?_)
    show wpAny _ _ (loadIfAlive ((T : Int).toNat) >>= _) _ _ _
    rw [Int.toNat_natCast]
    refine wpAny_bind (fz_alive ?_)
    rw [hT]
    exact wpAny_pure h
theorem fz_zip_free {f0 x y : Value} {f : Bool} {a1 a2 : Value} {Q : Value → Shared → Prop} (S : ZipSep2 z TI TO i1 i2 [i1, a] [i2, b])
    (hz : IsZF s.heap z TI TO f0 f) (hf : f0 = .none ∨ ∃ T : Addr, f0 = rawInt T ∧ s.heap.get? T = none) (hTI : IsTupOf2 s.heap TI (.ref i1) (.ref i2)) (hTO : IsTupOf2 s.heap TO a1 a2)
    (h1 : s.heap.IsTupleIter i1 a i) (h2 : s.heap.IsTupleIter i2 b i) (hl1 : s.heap.IsTuple a xs) (hl2 : s.heap.IsTuple b ys) (hx : xs[i]? = some x) (hy : ys[i]? = some y)
    (hQ : ∀ h', IsZF h' z TI TO (rawInt s.heap.objs.size) false → IsTupOf2 h' TO x y → h'.IsTupleIter i1 a (i + 1) → h'.IsTupleIter i2 b (i + 1) → IsTupOf2 h' s.heap.objs.size x y → h'.objs.size = s.heap.objs.size + 1 →
      (∀ c o, c ≠ z → c ≠ TO → c ≠ i1 → c ≠ i2 → s.heap.get? c = some o → h'.get? c = some o) → Q (.ref s.heap.objs.size) { s with heap := h' }) :
    wpAny (model prog w) A (Builtin.«zip.__next__» ⟨[.ref z], []⟩) (fun fin s' => ∃ v, fin = .done (.ret v) ∧ Q v s') E s := by
  have az : a ≠ z := fun e => S.zf1 (by simp [e])
  have bz : b ≠ z := fun e => S.zf2 (by simp [e])
  have aT : a ≠ TO := fun e => S.Tf1 (by simp [e])
  have bT : b ≠ TO := fun e => S.Tf2 (by simp [e])
  have i12 : i1 ≠ i2 := fun e => S.sep1_2 (by simp [e])
  have bi1 : b ≠ i1 := fun e => S.sep1_2 (by simp [e])
  show wpAny _ _ (field (.ref z) 2 >>= _) _ _ _
  refine wpAny_bind (wpAny_field hz rfl (x := .bool false) rfl ?_)
  show wpAny _ _ (field (.ref z) 3 >>= _) _ _ _
  refine wpAny_bind (wpAny_field hz rfl (x := .ref TI) rfl ?_)
  refine wpAny_bind (wpAny_seqItems hTI rfl ?_)
  show wpAny _ _ (Builtin.SmallTypes.ownedTupleIsFree (.ref z) >>= _) _ _ _
  refine wpAny_bind (fz_own_free hz hf ?_)
  simp only [if_true]
  refine wpAny_bind (wpAny_rule ?_)
  refine wpAny_bind (wpAny_field hz rfl (x := .ref TO) rfl ?_)
  refine wpAny_bind (wpAny_setField_rec hz (by simp) fun g0 hz0 hs0 => ?_)
  have hz0 : IsZF g0 z TI TO .ellipsis f := hz0
  have U0 : IsTupOf2 g0 TO a1 a2 := hs0.extBut _ _ S.TOz hTO
  refine wpAny_bind ?_
  simp only [List.zipIdx_cons, List.zipIdx_nil, List.forIn_cons, List.forIn_nil]
  refine wpAny_bind (wpAny_bind (wpAny_onRaise ?_))
  show wpAny _ _ (Builtin.SmallTypes.nextOf (.ref i1) >>= _) _ _ _
  refine wpAny_bind (wpAny_nextOf_tuple_item (s := { s with heap := g0 }) (h1.extBut hs0.extBut S.zi1.symm) (hl1.extBut hs0.extBut az) hx fun p1 j1 hp1 => wpAny_pure ?_)
  have hp1 : Heap.SameBut i1 g0 p1 := hp1
  have U1 : IsTupOf2 p1 TO a1 a2 := hp1.extBut _ _ S.Ti1 U0
  refine wpAny_bind (wpAny_seqItems (s := { s with heap := p1 }) U1 rfl ?_)
  refine wpAny_bind (updateSeq_IsTupOf2 (s := { s with heap := p1 }) U1 fun g1 V1 hs1 => ?_)
  have V1 : IsTupOf2 g1 TO x a2 := V1
  have hs1 : Heap.SameBut TO p1 g1 := hs1
  refine wpAny_bind (wpAny_letGo (wpAny_pure ?_))
  refine wpAny_bind (wpAny_bind (wpAny_onRaise ?_))
  show wpAny _ _ (Builtin.SmallTypes.nextOf (.ref i2) >>= _) _ _ _
  refine wpAny_bind (wpAny_nextOf_tuple_item (s := { s with heap := g1 }) (((h2.extBut hs0.extBut S.zi2.symm).extBut hp1.extBut i12.symm).extBut hs1.extBut S.Ti2.symm) (((hl2.extBut hs0.extBut bz).extBut hp1.extBut bi1).extBut hs1.extBut bT) hy fun p2 j2 hp2 => wpAny_pure ?_)
  have hp2 : Heap.SameBut i2 g1 p2 := hp2
  have U2 : IsTupOf2 p2 TO x a2 := hp2.extBut _ _ S.Ti2 V1
  refine wpAny_bind (wpAny_seqItems (s := { s with heap := p2 }) U2 rfl ?_)
  refine wpAny_bind (updateSeq_IsTupOf2 (s := { s with heap := p2 }) U2 fun g2 V2 hs2 => ?_)
  have V2 : IsTupOf2 g2 TO x y := V2
  have hs2 : Heap.SameBut TO p2 g2 := hs2
  refine wpAny_bind (wpAny_letGo (wpAny_pure (wpAny_pure ?_)))
  refine wpAny_bind (wpAny_seqItems (s := { s with heap := g2 }) V2 rfl ?_)
  refine wpAny_bind (wpAny_newTuple ?_)
  have hsz : g2.objs.size = s.heap.objs.size := by rw [hs2.1, hp2.1, hs1.1, hp1.1]; exact hs0.1
  have hz2 : IsZF g2 z TI TO .ellipsis f := hs2.extBut _ _ S.TOz.symm (hp2.extBut _ _ S.zi2 (hs1.extBut _ _ S.TOz.symm (hp1.extBut _ _ S.zi1 hz0)))
  have hk : ∀ c o, c ≠ z → c ≠ TO → c ≠ i1 → c ≠ i2 → s.heap.get? c = some o → g2.get? c = some o := fun c o cz cT c1 c2 e =>
    hs2.extBut _ _ cT (hp2.extBut _ _ c2 (hs1.extBut _ _ cT (hp1.extBut _ _ c1 (hs0.extBut _ _ cz e))))
  have k1 : g2.IsTupleIter i1 a (i + 1) := ((j1.extBut hs1.extBut S.Ti1.symm).extBut hp2.extBut i12).extBut hs2.extBut S.Ti1.symm
  have k2 : g2.IsTupleIter i2 b (i + 1) := j2.extBut hs2.extBut S.Ti2.symm
  have zl : z < g2.objs.size := Heap.lt_size hz2
  show wpAny _ _ (Builtin.SmallTypes.ownedTupleHandOut (.ref z) (.ref g2.objs.size) >>= _) _ _ _
  refine wpAny_bind ?_
  unfold Builtin.SmallTypes.ownedTupleHandOut
  have hz6 : IsZF (g2.push { cls := .type "tuple", data := .seq #[x, y] }) z TI TO .ellipsis f := Heap.get?_push_of_some _ hz2
  refine wpAny_bind (wpAny_setField_rec hz6 (by simp) fun h7 z7 s7 => ?_)
  have z7 : IsZF h7 z TI TO (rawInt g2.objs.size) f := z7
  refine wpAny_setField_rec z7 (by simp) fun h8 z8 s8 => ?_
  have z8 : IsZF h8 z TI TO (rawInt g2.objs.size) false := z8
  have up : ∀ c o, c ≠ z → (g2.push { cls := .type "tuple", data := .seq #[x, y] }).get? c = some o → h8.get? c = some o := fun c o c1 e => s8.extBut _ _ c1 (s7.extBut _ _ c1 e)
  have up2 : ∀ c o, c ≠ z → g2.get? c = some o → h8.get? c = some o := fun c o c1 e => up c o c1 (Heap.get?_push_of_some _ e)
  have hT8 : IsTupOf2 h8 g2.objs.size x y := up _ _ (Nat.ne_of_gt zl) (Heap.get?_push_size _ rfl)
  have n8 : h8.objs.size = g2.objs.size + 1 := by rw [s8.1]; show h7.objs.size = _; rw [s7.1]; exact Heap.size_push ..
  rw [hsz] at z8 hT8 n8
  refine wpAny_pure ⟨_, rfl, ?_⟩
  show Q (.ref g2.objs.size) _
  rw [hsz]
  exact hQ h8 z8 (up2 _ _ S.TOz V2) (k1.at fun o e => up2 _ _ S.zi1.symm e) (k2.at fun o e => up2 _ _ S.zi2.symm e) hT8 n8 fun c o cz cT c1 c2 e => up2 c o cz (hk c o cz cT c1 c2 e)
end
end PySem

/-! ## FzK4 -/
set_option Elab.async false
set_option linter.all false
set_option maxRecDepth 100000
set_option maxHeartbeats 4000000
set_option autoImplicit false
/-! FzK4: enumerate over a zip of tuples: what is drawn, turn by turn. -/
namespace PySem
def ZS (z TI TO i1 i2 a b : Addr) (xs ys : Array Value) (i : Nat) (h : Heap) : Prop :=
  IsTupOf2 h TI (.ref i1) (.ref i2) ∧ (h.IsTupleIter i1 a i ∧ h.IsTuple a xs) ∧ (h.IsTupleIter i2 b i ∧ h.IsTuple b ys) ∧
  ∃ f0 f u v, IsZF h z TI TO f0 f ∧ (f0 = .none ∨ ∃ T : Addr, f0 = rawInt T) ∧ IsTupOf2 h TO u v
section
variable {prog : Program} {w : World} {A : Around} {E : Value → Shared → Prop} {s : Shared} {z TI TO i1 i2 a b T : Addr} {xs ys : Array Value} {i : Nat}
theorem fz_notIt {c it t : Addr} {k : Nat} {zs : Array Value} {h : Heap} (q1 : h.IsTupleIter it t k) (q2 : h.IsTuple c zs) : c ≠ it := fun e => by
  obtain ⟨o1, e1, _, d1⟩ := q1
  obtain ⟨o2, e2, _, n, d2⟩ := q2
  rw [e, e1] at e2
  cases e2
  rw [d1] at d2; cases d2
/-- free, or out and there -/
theorem fz_split {f0 : Value} (h : Heap) (hf : f0 = .none ∨ ∃ T : Addr, f0 = rawInt T) : (f0 = .none ∨ ∃ T : Addr, f0 = rawInt T ∧ h.get? T = none) ∨ ∃ (T : Addr) (o : Obj), f0 = rawInt T ∧ h.get? T = some o := by
  rcases hf with e | ⟨T, e⟩
  · exact .inl (.inl e)
  · cases q : h.get? T with
    | none => exact .inl (.inr ⟨T, e, q⟩)
    | some o => exact .inr ⟨T, o, e, q⟩
/-- what zip draws -/
theorem fz_nextOf_zip {x y : Value} {Q : Value → Shared → Prop} (S : ZipSep2 z TI TO i1 i2 [i1, a] [i2, b]) (st : ZS z TI TO i1 i2 a b xs ys i s.heap) (hx : xs[i]? = some x) (hy : ys[i]? = some y)
    (hQ : ∀ h', IsTupOf2 h' s.heap.objs.size x y → ZS z TI TO i1 i2 a b xs ys (i + 1) h' → h'.objs.size = s.heap.objs.size + 1 →
      (∀ c o, c ≠ z → c ≠ TO → c ≠ i1 → c ≠ i2 → s.heap.get? c = some o → h'.get? c = some o) → Q (.ref s.heap.objs.size) { s with heap := h' }) :
    wpAny (model prog w) A (Builtin.SmallTypes.nextOf (.ref z)) Q E s := by
  have az : a ≠ z := fun e => S.zf1 (by simp [e])
  have bz : b ≠ z := fun e => S.zf2 (by simp [e])
  have aT : a ≠ TO := fun e => S.Tf1 (by simp [e])
  have bT : b ≠ TO := fun e => S.Tf2 (by simp [e])
  have bi1 : b ≠ i1 := fun e => S.sep1_2 (by simp [e])
  have ai2 : a ≠ i2 := fun e => S.sep2_1 (by simp [e])
  obtain ⟨hTI, ⟨h1, hl1⟩, ⟨h2, hl2⟩, f0, f, u, v, hz, hf, hTO⟩ := st
  have ai1 : a ≠ i1 := fz_notIt h1 hl1
  have bi2 : b ≠ i2 := fz_notIt h2 hl2
  have hTy : s.TypeIs (.ref z) "zip" := ⟨_, hz, rfl⟩
  unfold Builtin.SmallTypes.nextOf
  refine wpAny_bind (wpAny_callSpecial?_slot (name := Str.ofString "__next__") hTy F.slot_zip_next
    (wpAny_call_entry F.slot_zip_next hTy F.entry_zip_next ?_ (F.args_zip_next_1 _)))
  rcases fz_split s.heap hf with hf | ⟨T, o, rfl, hT⟩
  · refine fz_zip_free S hz hf hTI hTO h1 h2 hl1 hl2 hx hy fun h' c1 c2 c3 c4 c5 c6 c7 => wpAny_pure ?_
    exact hQ h' c5 ⟨c7 _ _ S.TIz S.TITO S.TIi1 S.TIi2 hTI, ⟨c3, hl1.at fun o e => c7 _ _ az aT ai1 ai2 e⟩, ⟨c4, hl2.at fun o e => c7 _ _ bz bT bi1 bi2 e⟩, _, _, _, _, c1, .inr ⟨_, rfl⟩, c2⟩ c6 c7
  · refine fz_zip_heldT S hz hT hTI h1 h2 hl1 hl2 hx hy fun h' c1 c2 c3 c4 c5 c6 => wpAny_pure ?_
    exact hQ h' c4 ⟨c6 _ _ S.TIz S.TIi1 S.TIi2 hTI, ⟨c2, hl1.at fun o e => c6 _ _ az ai1 ai2 e⟩, ⟨c3, hl2.at fun o e => c6 _ _ bz bi1 bi2 e⟩, _, _, _, _, c1, .inr ⟨_, rfl⟩, c6 _ _ S.TOz S.Ti1 S.Ti2 hTO⟩ c5 fun c o d1 _ d3 d4 e => c6 c o d1 d3 d4 e
/-- where the first is at its end -/
theorem fz_nextOf_zip_end {Q : Value → Shared → Prop} (hh : A.in1.handled = none) (S : ZipSep2 z TI TO i1 i2 [i1, a] [i2, b]) (st : ZS z TI TO i1 i2 a b xs ys i s.heap) (hx : xs[i]? = none)
    (hE : ∀ h' e, (∀ c o, c ≠ z → c ≠ TO → c ≠ i1 → c ≠ i2 → s.heap.get? c = some o → h'.get? c = some o) → (∃ o, h'.get? e = some o ∧ o.cls = .type "StopIteration") → E (.ref e) { s with heap := h' }) :
    wpAny (model prog w) A (Builtin.SmallTypes.nextOf (.ref z)) Q E s := by
  have az : a ≠ z := fun e => S.zf1 (by simp [e])
  obtain ⟨hTI, ⟨h1, hl1⟩, ⟨h2, hl2⟩, f0, f, u, v, hz, hf, hTO⟩ := st
  have hTy : s.TypeIs (.ref z) "zip" := ⟨_, hz, rfl⟩
  unfold Builtin.SmallTypes.nextOf
  refine wpAny_bind (wpAny_callSpecial?_slot (name := Str.ofString "__next__") hTy F.slot_zip_next
    (wpAny_call_entry F.slot_zip_next hTy F.entry_zip_next ?_ (F.args_zip_next_1 _)))
  show wpAny _ _ (field (.ref z) 2 >>= _) _ _ _
  refine wpAny_bind (wpAny_field hz rfl (x := .bool false) rfl ?_)
  show wpAny _ _ (field (.ref z) 3 >>= _) _ _ _
  refine wpAny_bind (wpAny_field hz rfl (x := .ref TI) rfl ?_)
  refine wpAny_bind (wpAny_seqItems hTI rfl ?_)
  show wpAny _ _ (Builtin.SmallTypes.ownedTupleIsFree (.ref z) >>= _) _ _ _
  rcases fz_split s.heap hf with hf | ⟨T, o, rfl, hT⟩
  · refine wpAny_bind (fz_own_free hz hf ?_)
    simp only [if_true]
    refine wpAny_bind (wpAny_rule ?_)
    refine wpAny_bind (wpAny_field hz rfl (x := .ref TO) rfl ?_)
    refine wpAny_bind (wpAny_setField_rec hz (by simp) fun g0 hz0 hs0 => ?_)
    have hz0 : IsZF g0 z TI TO .ellipsis f := hz0
    refine wpAny_bind ?_
    simp only [List.zipIdx_cons, List.zipIdx_nil, List.forIn_cons, List.forIn_nil]
    refine wpAny_bind (wpAny_bind (wpAny_onRaise ?_))
    show wpAny _ _ (Builtin.SmallTypes.nextOf (.ref i1) >>= _) _ _ _
    refine wpAny_bind (wpAny_nextOf_tuple_end (s := { s with heap := g0 }) hh (h1.extBut hs0.extBut S.zi1.symm) (hl1.extBut hs0.extBut az) hx fun h₂ e hs₂ he => ?_)
    have hz2 : IsZF h₂ z TI TO .ellipsis f := hs₂ _ _ S.zi1 hz0
    refine wpAny_setField_rec (s := { s with heap := h₂ }) hz2 (by simp) fun g3 hz3 hs3 => ?_
    obtain ⟨oe, q1, q2⟩ := he
    have ez : e ≠ z := fun q => by
      rw [q] at q1
      have y : (Value.type "zip" : Value) = .type "StopIteration" := (congrArg Obj.cls (Option.some.inj (hz2.symm.trans q1))).trans q2
      exact absurd y (by decide)
    exact hE g3 e (fun c o c1 c2 c3 c4 x => hs3.extBut _ _ c1 (hs₂ _ _ c3 (hs0.extBut _ _ c1 x))) ⟨oe, hs3.extBut _ _ ez q1, q2⟩
  · refine wpAny_bind (wpAny_tupleHeld_zip hz hT fun h₁ hz₁ hs₁ => ?_)
    simp only [Bool.false_eq_true, if_false]
    refine wpAny_bind ?_
    rw [← Array.forIn_toList]
    simp only [List.forIn_cons, List.forIn_nil]
    refine wpAny_bind (wpAny_bind (wpAny_holding ?_))
    show wpAny _ _ (Builtin.SmallTypes.nextOf (.ref i1) >>= _) _ _ _
    refine wpAny_bind (wpAny_nextOf_tuple_end (s := { s with heap := h₁ }) hh (h1.extBut hs₁.extBut S.zi1.symm) (hl1.extBut hs₁.extBut az) hx fun h₂ e hs₂ he => ?_)
    exact hE h₂ e (fun c o c1 _ c2 _ x => hs₂ _ _ c2 (hs₁.extBut _ _ c1 x)) he
/-- enumerate's next over such a zip: two new tuples -/
theorem fz_enum_zip_item {e : Addr} {x y old : Value} {Q : Value → Shared → Prop} (S : ZipSep2 z TI TO i1 i2 [i1, a] [i2, b]) (he : IsEnum s.heap e z i old) (st : ZS z TI TO i1 i2 a b xs ys i s.heap) (hx : xs[i]? = some x) (hy : ys[i]? = some y)
    (hez : e ≠ z) (heT : e ≠ TO) (he1 : e ≠ i1) (he2 : e ≠ i2) (hea : e ≠ a) (heb : e ≠ b) (heI : e ≠ TI)
    (hQ : ∀ h' tk, IsTupOf2 h' s.heap.objs.size x y → IsEnumOut h' e z ((i : Int) + 1) (.ref s.heap.objs.size) (s.heap.objs.size + 1) → ZS z TI TO i1 i2 a b xs ys (i + 1) h' →
      h'.get? (s.heap.objs.size + 1) = some { cls := .type "tuple", data := .seq #[.int i tk, .ref s.heap.objs.size] } →
      (∀ c o, c ≠ e → c ≠ z → c ≠ TO → c ≠ i1 → c ≠ i2 → s.heap.get? c = some o → h'.get? c = some o) → Q (.ref (s.heap.objs.size + 1)) { s with heap := h', toks := tk + 1 }) :
    wpAny (model prog w) A (Builtin.«enumerate.__next__» ⟨[.ref e], []⟩) (fun fin s' => ∃ v, fin = .done (.ret v) ∧ Q v s') E s := by
  have zsk : ∀ {k : Nat} {h h' : Heap}, ZS z TI TO i1 i2 a b xs ys k h → (∀ c o, c ≠ e → h.get? c = some o → h'.get? c = some o) → ZS z TI TO i1 i2 a b xs ys k h' := fun {k h h'} st hk => by
    obtain ⟨q1, ⟨q2, q3⟩, ⟨q4, q5⟩, f0, f, u, v, q6, q7, q8⟩ := st
    exact ⟨hk _ _ heI.symm q1, ⟨q2.at fun o x => hk _ _ he1.symm x, q3.at fun o x => hk _ _ hea.symm x⟩, ⟨q4.at fun o x => hk _ _ he2.symm x, q5.at fun o x => hk _ _ heb.symm x⟩, f0, f, u, v, hk _ _ hez.symm q6, q7, hk _ _ heT.symm q8⟩
  obtain ⟨hp, g, d, tk₀, os⟩ := s
  show wpAny _ _ (field (.ref e) 2 >>= _) _ _ _
  refine wpAny_bind (wpAny_field he rfl (x := .ref z) rfl ?_)
  refine wpAny_bind (fz_nextOf_zip S st hx hy fun h₁ hT₁ st₁ hz₁ hk₁ => ?_)
  replace hk₁ : ∀ c o, c ≠ z → c ≠ TO → c ≠ i1 → c ≠ i2 → hp.get? c = some o → h₁.get? c = some o := hk₁
  replace hT₁ : IsTupOf2 h₁ hp.objs.size x y := hT₁
  replace hz₁ : h₁.objs.size = hp.objs.size + 1 := hz₁
  have he₁ : IsEnum h₁ e z i old := hk₁ e _ hez heT he1 he2 he
  have hel : e < hp.objs.size := Heap.lt_size he
  show wpAny _ _ (field (.ref e) 3 >>= _) _ _ ⟨h₁, g, d, tk₀, os⟩
  refine wpAny_bind (wpAny_field he₁ rfl (x := rawInt i) rfl ?_)
  show wpAny _ _ (field (.ref e) 4 >>= _) _ _ ⟨h₁, g, d, tk₀, os⟩
  refine wpAny_bind (wpAny_field he₁ rfl (x := .none) rfl ?_)
  show wpAny _ _ (mkInt i >>= _) _ _ ⟨h₁, g, d, tk₀, os⟩
  refine wpAny_bind (wpAny_mkInt ?_)
  show wpAny _ _ (setField (.ref e) 3 (rawInt ((i : Int) + 1)) >>= _) _ _ ⟨h₁, g, d, tk₀ + 1, os⟩
  refine wpAny_bind (wpAny_setField_rec he₁ (by simp) fun h₂ he₂ hs₂ => ?_)
  replace hs₂ : Heap.SameBut e h₁ h₂ := hs₂
  replace he₂ : IsEnum h₂ e z ((i : Int) + 1) old := he₂
  show wpAny _ _ (setField (.ref e) 4 .none >>= _) _ _ ⟨h₂, g, d, tk₀ + 1, os⟩
  refine wpAny_bind (wpAny_setField_rec he₂ (by simp) fun h₃ he₃ hs₃ => ?_)
  replace hs₃ : Heap.SameBut e h₂ h₃ := hs₃
  replace he₃ : IsEnum h₃ e z ((i : Int) + 1) old := he₃
  show wpAny _ _ (newTuple [.int i tk₀, .ref hp.objs.size] >>= _) _ _ ⟨h₃, g, d, tk₀ + 1, os⟩
  refine wpAny_bind (wpAny_newTuple ?_)
  have he₄ : IsEnum (h₃.push { cls := .type "tuple", data := .seq #[.int i tk₀, .ref hp.objs.size] }) e z ((i : Int) + 1) old := Heap.get?_push_of_some _ he₃
  generalize hh₄ : h₃.push { cls := .type "tuple", data := .seq #[.int i tk₀, .ref hp.objs.size] } = h₄ at he₄
  have hsz : h₃.objs.size = hp.objs.size + 1 := by rw [hs₃.1, hs₂.1, hz₁]
  have ht₄ : h₄.get? (hp.objs.size + 1) = some { cls := .type "tuple", data := .seq #[.int i tk₀, .ref hp.objs.size] } := by rw [← hh₄, ← hsz]; exact Heap.get?_push_size _ rfl
  have hk₁₄ : ∀ c o, c ≠ e → h₁.get? c = some o → h₄.get? c = some o := fun c o hc x => by
    rw [← hh₄]; exact Heap.get?_push_of_some _ (hs₃.extBut c o hc (hs₂.extBut c o hc x))
  have st₄ := zsk st₁ hk₁₄
  have ne1 : hp.objs.size ≠ e := Nat.ne_of_gt hel
  have ne2 : hp.objs.size + 1 ≠ e := Nat.ne_of_gt (Nat.lt_succ_of_lt hel)
  show wpAny _ _ (Builtin.SmallTypes.ownedTupleIsFree (.ref e) >>= _) _ _ ⟨h₄, g, d, tk₀ + 1, os⟩
  rw [hsz]
  refine wpAny_bind ?_
  · unfold Builtin.SmallTypes.ownedTupleIsFree
    refine wpAny_bind (wpAny_field he₄ rfl (x := .none) rfl (wpAny_pure ?_))
    simp only [if_true]
    refine wpAny_bind (wpAny_rule ?_)
    refine wpAny_bind (wpAny_field he₄ rfl (x := old) rfl ?_)
    refine wpAny_bind (wpAny_setField_rec he₄ (by simp) fun h₅ he₅ hs₅ => ?_)
    replace hs₅ : Heap.SameBut e h₄ h₅ := hs₅
    replace he₅ : IsEnum h₅ e z ((i : Int) + 1) (.ref hp.objs.size) := he₅
    show wpAny _ _ (Builtin.SmallTypes.ownedTupleHandOut (.ref e) (.ref (hp.objs.size + 1)) >>= _) _ _ ⟨h₅, g, d, tk₀ + 1, os⟩
    refine wpAny_bind ?_
    · unfold Builtin.SmallTypes.ownedTupleHandOut
      refine wpAny_bind (wpAny_setField_rec he₅ (by simp) fun h₆ he₆ hs₆ => ?_)
      replace hs₆ : Heap.SameBut e h₅ h₆ := hs₆
      replace he₆ : IsEnumOut h₆ e z ((i : Int) + 1) (.ref hp.objs.size) (hp.objs.size + 1) := he₆
      refine wpAny_setField_rec he₆ (by simp) fun h₇ he₇ hs₇ => ?_
      replace hs₇ : Heap.SameBut e h₆ h₇ := hs₇
      replace he₇ : IsEnumOut h₇ e z ((i : Int) + 1) (.ref hp.objs.size) (hp.objs.size + 1) := he₇
      have hk₄₇ : ∀ c o, c ≠ e → h₄.get? c = some o → h₇.get? c = some o := fun c o hc x => hs₇.extBut c o hc (hs₆.extBut c o hc (hs₅.extBut c o hc x))
      refine wpAny_bind (wpAny_letGo (wpAny_pure ⟨_, rfl, hQ h₇ tk₀ ?_ he₇ ?_ ?_ ?_⟩))
      · exact hk₄₇ _ _ ne1 (hk₁₄ _ _ ne1 hT₁)
      · exact zsk st₄ hk₄₇
      · exact hk₄₇ _ _ ne2 ht₄
      · exact fun c o c0 c1 c2 c3 c4 x => hk₄₇ c o c0 (hk₁₄ c o c0 (hk₁ c o c1 c2 c3 c4 x))
end
end PySem

/-! ## FzK5 -/
set_option Elab.async false
set_option linter.all false
set_option maxRecDepth 100000
set_option maxHeartbeats 4000000
set_option autoImplicit false
/-! FzK5: for .. in enumerate(zip(a tuple, a tuple)): the turns. -/
namespace L2
open PySem PySem.Spec PyProof.Rows
/-- the tuples at a and b as they stand, a new pair within a new pair -/
def Itez (K : PySem.W.Frag) (a b : Addr) : It :=
  ⟨fun i H => ∃ (xs ys : List V) (x y : V), SqT K H a xs ∧ SqT K H b ys ∧ xs[i]? = some x ∧ ys[i]? = some y,
    fun i H v H' => ∃ T T2 x y, v = .ref T2 ∧ H T = none ∧ upd H T (.tup [x, y]) T2 = none ∧ H' = upd (upd H T (.tup [x, y])) T2 (.tup [.int (i : Nat), .ref T]) ∧ (∀ xs, SqT K H a xs → xs[i]? = some x) ∧ ∀ ys, SqT K H b ys → ys[i]? = some y,
    fun i H => ∃ xs ys : List V, SqT K H a xs ∧ SqT K H b ys ∧ xs.length ≤ i⟩
def EZ (e z TI TO i1 i2 a b : Addr) (i : Nat) (h : Heap) : Prop :=
  (∃ old, IsEnum h e z ((i : Nat) : Int) old) ∧ IsTupOf2 h TI (.ref i1) (.ref i2) ∧ h.IsTupleIter i1 a i ∧ h.IsTupleIter i2 b i ∧
  ∃ f0 f u v, IsZF h z TI TO f0 f ∧ (f0 = .none ∨ ∃ T : Addr, f0 = rawInt T) ∧ IsTupOf2 h TO u v
theorem turn_ez {P : Program} {w : World} {K : PySem.W.Frag} {elts : List Expr} {kk : Nat} {tpos : Pos} {e z TI TO i1 i2 a b : Addr} (S : ZipSep2 z TI TO i1 i2 [i1, a] [i2, b]) (hez : e ≠ z) (heT : e ≠ TO) (he1 : e ≠ i1) (he2 : e ≠ i2) (hea : e ≠ a) (heb : e ≠ b) (heI : e ≠ TI) :
    Turn P w K (.Tuple elts kk tpos) (Itez K a b) [e, z, TI, TO, i1, i2] e (EZ e z TI TO i1 i2 a b) where
  mem := by simp
  obj := fun i h st c hc => by
    obtain ⟨⟨old, he⟩, hTI, ⟨o1, e1, _, d1⟩, ⟨o2, e2, _, d2⟩, f0, f, u, v, hz, _, hTO⟩ := st
    have q : c = e ∨ c = z ∨ c = TI ∨ c = TO ∨ c = i1 ∨ c = i2 := by simpa using hc
    rcases q with q | q | q | q | q | q
    · rw [q]; exact ⟨_, he, fun v q => nomatch q⟩
    · rw [q]; exact ⟨_, hz, fun v q => nomatch q⟩
    · rw [q]; exact ⟨_, hTI, fun v q => nomatch q⟩
    · rw [q]; exact ⟨_, hTO, fun v q => nomatch q⟩
    · rw [q]; exact ⟨o1, e1, fun v q => by rw [d1] at q; cases q⟩
    · rw [q]; exact ⟨o2, e2, fun v q => by rw [d2] at q; cases q⟩
  keep := fun i h h' st k => by
    obtain ⟨⟨old, he⟩, hTI, h1, h2, f0, f, u, v, hz, hf, hTO⟩ := st
    exact ⟨⟨old, k e (by simp) _ he⟩, k TI (by simp) _ hTI, h1.at fun o q => k i1 (by simp) o q, h2.at fun o q => k i2 (by simp) o q, f0, f, u, v, k z (by simp) _ hz, hf, k TO (by simp) _ hTO⟩
  item := by
    intro X hP hw hK hc i pins s σ H E I hf st hg
    subst hP hw hK
    obtain ⟨⟨old, he⟩, hTI, h1, h2, f0, f, u0, v0, hz, hf0, hTO⟩ := st
    obtain ⟨xs, ys, x, y, hqx, hqy, hx, hy⟩ := hg
    obtain ⟨its, rv, p, _⟩ := I.tuple hqx
    obtain ⟨its2, rv2, p2, _⟩ := I.tuple hqy
    have p : s.heap.IsTuple a its.toArray := p
    have p2 : s.heap.IsTuple b its2.toArray := p2
    obtain ⟨u, hu, ru⟩ := rv.get hx
    obtain ⟨u2, hu2, ru2⟩ := rv2.get hy
    have low : ∀ c ∈ [e, z, TI, TO, i1, i2], c < s.heap.objs.size := fun c hc => by
      have q : c = e ∨ c = z ∨ c = TI ∨ c = TO ∨ c = i1 ∨ c = i2 := by simpa using hc
      rcases q with q | q | q | q | q | q
      · rw [q]; exact Heap.lt_size he
      · rw [q]; exact Heap.lt_size hz
      · rw [q]; exact Heap.lt_size hTI
      · rw [q]; exact Heap.lt_size hTO
      · rw [q]; obtain ⟨_, q, _⟩ := h1; exact Heap.lt_size q
      · rw [q]; obtain ⟨_, q, _⟩ := h2; exact Heap.lt_size q
    have hel := low e (by simp)
    have zs : ZS z TI TO i1 i2 a b its.toArray its2.toArray i s.heap := ⟨hTI, ⟨h1, p⟩, ⟨h2, p2⟩, f0, f, u0, v0, hz, hf0, hTO⟩
    have hT : s.TypeIs (.ref e) "enumerate" := ⟨_, he, rfl⟩
    unfold pyNext
    refine wpAny_bind (wpAny_attempt (wpAny_callSpecial?_slot (name := Str.ofString "__next__") hT F.slot_enumerate_next
      (wpAny_call_entry F.slot_enumerate_next hT F.entry_enumerate_next
        (fz_enum_zip_item S he zs (x := u) (y := u2) (by simpa using hu) (by simpa using hu2) hez heT he1 he2 hea heb heI fun h' tk hT1 ho st' hT2 hk => wpAny_pure ?_) (F.args_enumerate_next_1 _))))
    refine ⟨_, rfl, wpAny_letOwnedTupleGo_enum (s := { s with heap := h', toks := tk + 1 }) ho fun h'' he' sb => ?_⟩
    have sk : ∀ c o, c ≠ e → h'.get? c = some o → h''.get? c = some o := fun c o hc q => (sb.2 c hc).trans q
    have ne1 : s.heap.objs.size ≠ e := Nat.ne_of_gt hel
    have ne2 : s.heap.objs.size + 1 ≠ e := Nat.ne_of_gt (Nat.lt_succ_of_lt hel)
    have t1 : h''.get? s.heap.objs.size = some { cls := .type "tuple", data := .seq #[u, u2] } := sk _ _ ne1 hT1
    have t2 : h''.get? (s.heap.objs.size + 1) = some { cls := .type "tuple", data := .seq #[.int i tk, .ref s.heap.objs.size] } := sk _ _ ne2 hT2
    obtain ⟨G, g1, g2⟩ := restrict h'' fun c => decide (c ≠ s.heap.objs.size + 1)
    have gk : ∀ c, c ≠ s.heap.objs.size + 1 → G.get? c = h''.get? c := fun c hc => g1 c (decide_eq_true hc)
    have gn : G.get? (s.heap.objs.size + 1) = none := g2 _ (by simp)
    have kG : ∀ c o, c ∉ [e, z, TI, TO, i1, i2] → s.heap.get? c = some o → G.get? c = some o := fun c o hc q => by
      have hlt := Heap.lt_size q
      rw [gk c (Nat.ne_of_lt (Nat.lt_succ_of_lt hlt))]
      refine sk c o (fun z => hc (by simp [z])) (hk c o (fun z => hc (by simp [z])) (fun z => hc (by simp [z])) (fun z => hc (by simp [z])) (fun z => hc (by simp [z])) (fun z => hc (by simp [z])) q)
    have new1 : ObjOk X.prog X.w (upd H s.heap.objs.size (.tup [x, y])) G s.heap.objs.size (.tup [x, y]) :=
      ⟨by show 2 ≤ sizeLine; decide, [u, u2], .cons ru (.cons ru2 .nil), ⟨_, (gk _ (Nat.ne_of_lt (Nat.lt_succ_self _))).trans t1, rfl, _, rfl⟩⟩
    have I1 : Inv X pins σ (upd H s.heap.objs.size (.tup [x, y])) { s with heap := G, toks := tk + 1 } := I.turnedNew (ch := [e, z, TI, TO, i1, i2]) kG hf (Nat.le_refl _) new1
    have hn1 : H s.heap.objs.size = none := I.hok.fresh (Nat.le_refl _)
    have hn2 : upd H s.heap.objs.size (.tup [x, y]) (s.heap.objs.size + 1) = none := by
      rw [upd_ne (Nat.ne_of_gt (Nat.lt_succ_self _))]
      exact I.hok.fresh (Nat.le_succ _)
    have new2 : ObjOk X.prog X.w (upd (upd H s.heap.objs.size (.tup [x, y])) (s.heap.objs.size + 1) (.tup [.int (i : Nat), .ref s.heap.objs.size])) h'' (s.heap.objs.size + 1) (.tup [.int (i : Nat), .ref s.heap.objs.size]) :=
      ⟨by show 2 ≤ sizeLine; decide, [.int i tk, .ref s.heap.objs.size], .cons ⟨_, rfl⟩ (.cons rfl .nil), ⟨_, t2, rfl, _, rfl⟩⟩
    have I2 : Inv X pins σ (upd (upd H s.heap.objs.size (.tup [x, y])) (s.heap.objs.size + 1) (.tup [.int (i : Nat), .ref s.heap.objs.size])) { s with heap := h'', toks := tk + 1 } :=
      Inv.laidN (s := { s with heap := G, toks := tk + 1 }) (t' := tk + 1) I1 (fun c o q => by
        by_cases hc : c = s.heap.objs.size + 1
        · have q' : G.get? c = some o := q
          rw [hc, gn] at q'; cases q'
        · exact (gk c hc).symm.trans q) gn hn2 new2
    obtain ⟨z1, ⟨z2, _⟩, ⟨z3, _⟩, f0', f', u', v', z4, z5, z6⟩ := st'
    refine ⟨.ref (s.heap.objs.size + 1), _, I2, rfl, ⟨_, _, x, y, rfl, hn1, hn2, rfl, fun zs hz' => by rw [I.tuple_inj hz' hqx]; exact hx, fun zs hz' => by rw [I.tuple_inj hz' hqy]; exact hy⟩, ⟨⟨.ref s.heap.objs.size, ?_⟩, sk _ _ heI.symm z1, z2.at fun o q => sk _ _ he1.symm q, z3.at fun o q => sk _ _ he2.symm q, f0', f', u', v', sk _ _ hez.symm z4, z5, sk _ _ heT.symm z6⟩, fun c hc => ?_⟩
    · have e1 : ((i + 1 : Nat) : Int) = (i : Int) + 1 := by omega
      rw [e1]; exact he'
    · have hlt := low c hc
      rw [upd_ne (Nat.ne_of_lt (Nat.lt_succ_of_lt hlt)), upd_ne (Nat.ne_of_lt hlt)]
      exact (hf c hc).1
  done := by
    intro X hP hw hK hc i pins s σ H E I hf st hg
    subst hP hw hK
    obtain ⟨⟨old, he⟩, hTI, h1, h2, f0, f, u0, v0, hz, hf0, hTO⟩ := st
    obtain ⟨xs, ys, hqx, hqy, hle⟩ := hg
    obtain ⟨its, rv, p, _⟩ := I.tuple hqx
    obtain ⟨its2, rv2, p2, _⟩ := I.tuple hqy
    have p : s.heap.IsTuple a its.toArray := p
    have p2 : s.heap.IsTuple b its2.toArray := p2
    have hl := rv.length
    have zs : ZS z TI TO i1 i2 a b its.toArray its2.toArray i s.heap := ⟨hTI, ⟨h1, p⟩, ⟨h2, p2⟩, f0, f, u0, v0, hz, hf0, hTO⟩
    have hT : s.TypeIs (.ref e) "enumerate" := ⟨_, he, rfl⟩
    unfold pyNext
    refine wpAny_bind (wpAny_attempt (wpAny_callSpecial?_slot (name := Str.ofString "__next__") hT F.slot_enumerate_next
      (wpAny_call_entry F.slot_enumerate_next hT F.entry_enumerate_next ?_ (F.args_enumerate_next_1 _))))
    show wpAny _ _ (field (.ref e) 2 >>= _) _ _ _
    refine wpAny_bind (wpAny_field he rfl (x := .ref z) rfl ?_)
    refine wpAny_bind (fz_nextOf_zip_end (A := X.A.in1) (show X.A.in1.in1.handled = none from I.ok.hd hc) S zs (by simp; omega) fun h' x hk hx' => ?_)
    obtain ⟨o, ho, hcl⟩ := hx'
    refine wpAny_bind (wpAny_isInstance (T := "StopIteration") (b := true) ⟨o, ho, hcl⟩ isSubtype_stop ?_)
    exact wpAny_pure ⟨rfl, Inv.turnedL (t' := s.toks) (ch := [e, z, TI, TO, i1, i2]) I (fun c o hc q => hk c o (fun z => hc (by simp [z])) (fun z => hc (by simp [z])) (fun z => hc (by simp [z])) (fun z => hc (by simp [z])) q) hf⟩
  self := fun A i s Q E st h => let ⟨⟨_, he⟩, _⟩ := st; wpAny_pyIter_enum he h
end L2

/-! ## FzK6 -/
set_option Elab.async false
set_option linter.all false
set_option maxRecDepth 100000
set_option maxHeartbeats 4000000
set_option autoImplicit false
/-! FzK6: enumerate(zip(..)) made and walked. -/
namespace PySem
set_option maxHeartbeats 1000000 in
theorem fz_meets_enumZ (z TI TO : Addr) :
    Meets (Builtin.«enumerate.__new__» ⟨[.type "enumerate", .ref z], []⟩) (fun _ R s => IsZip s.heap z TI TO .none ∧
      R (.ok (.ret (.ref s.heap.objs.size))) { s with heap := s.heap.push { cls := .type "enumerate", data := .fields #[.none, .bool false, .ref z, rawInt 0, .none, .none] } }) :=
  .of_wp fun prog w A R s h => by
    obtain ⟨hp, g, d, tk, os⟩ := s; obtain ⟨hl, h⟩ := h
    have hsub := sub_enumerate
    have hL : IsZip (Shared.heap ⟨hp, g, d, tk, os⟩) z TI TO .none := hl
    wp_walk using AutoSeq1.wpAny_loadPart' hl
    refine wpAny_stack_any fun st => wpAny_pure ?_
    split
    · rename_i c _ _ _ _ _
      cases (c == Value.type "enumerate")
      · wp_walk using AutoSeq1.wpAny_loadPart' hl, wpAny_pyIter_zip hL
        exact ⟨_, rfl, h⟩
      · wp_walk using AutoSeq1.wpAny_loadPart' hl, wpAny_pyIter_zip hL
        exact ⟨_, rfl, h⟩
    · wp_walk using AutoSeq1.wpAny_loadPart' hl, wpAny_pyIter_zip hL
      exact ⟨_, rfl, h⟩
section
variable {prog : Program} {w : World} {A : Around} {E : Value → Shared → Prop} {s : Shared}
theorem fz_call_enumZ {z TI TO : Addr} {Q : Value → Shared → Prop} (hz : IsZip s.heap z TI TO .none)
    (h : ∀ h', IsEnum h' s.heap.objs.size z 0 .none → (∀ b o, s.heap.get? b = some o → h'.get? b = some o) → Q (.ref s.heap.objs.size) { s with heap := h' }) :
    wpAny (model prog w) A (call (.type "enumerate") [.ref z]) Q E s := by
  refine callType_new F.called_enumerate (by decide) (F.typeCall_enumerate_1 _) (F.newCall_enumerate_1 _) (fun obj => F.args_object_init_2 obj _) F.entry_enumerate_new
    (fz_meets_enumZ z TI TO) ⟨hz, ?_⟩
  have he : IsEnum (s.heap.push { cls := .type "enumerate", data := .fields #[.none, .bool false, .ref z, rawInt 0, .none, .none] }) s.heap.objs.size z 0 .none := Heap.get?_push_size _ rfl
  exact ⟨⟨_, he, rfl⟩, h _ he fun b o x => Heap.get?_push_of_some _ x⟩
end
end PySem
namespace L2
open PySem PySem.Spec PyProof.Rows
def iEnumZ (K : PySem.W.Frag) (ta : TA) : TI := fun σ H R => ta σ H fun vs H1 => ∃ a b xs ys, vs = [.ref a, .ref b] ∧ SqT K H1 a xs ∧ SqT K H1 b ys ∧ R (Itez K a b) H1
theorem pi_enumZ {X : Cx} {e1 e2 : Expr} {ta : TA} {p p2 pos pos2 tpos : Pos} {elts : List Expr} {kk : Nat} (hg : Gl X "enumerate") (hm : X.mg "enumerate" = none) (hg2 : Gl X "zip") (hm2 : X.mg "zip" = none) (ha : PA X [e1, e2] ta)
    (hs2 : starEach [e1, e2] X.env = (false, eval e1 X.env) :: starEach [e2] X.env := by rfl) (hpl : (backTo pos2 (starEach [e2] X.env)).any (·.1) = false := by rfl)
    (hs : starEach [.Call (.Name "zip" p2) [e1, e2] [] pos2] X.env = [(false, eval (.Call (.Name "zip" p2) [e1, e2] [] pos2) X.env)] := by rfl) :
    PI X (.Tuple elts kk tpos) (.Call (.Name "enumerate" p) [.Call (.Name "zip" p2) [e1, e2] [] pos2] [] pos) (iEnumZ X.K ta) := by
  refine ⟨fun pins s σ H R I h => ?_⟩
  refine Call_ (ld_blt I hg hm boot_enumerate (PyProof.Rows.callWith_type1 ?_ hs rfl))
  refine spliced_more (rest := []) ?_ hs
  refine Call_ (ld_blt I hg2 hm2 PyProof.Rows.boot_zip (PyProof.Rows.callWith_type1 (thn (ha.run pos2 pins s σ H _ I h) fun us s1 ⟨vs, H1, I1, r1, q1⟩ => ?_) hs2 hpl))
  obtain ⟨a, b, xs, ys, ex, hqx, hqy, q⟩ := q1
  subst ex
  cases r1 with
  | cons r rr =>
    cases rr with
    | cons r' rr =>
      cases rr
      cases r
      cases r'
      obtain ⟨its, rv, p1, _⟩ := I1.tuple hqx
      obtain ⟨its2, rv2, p2, _⟩ := I1.tuple hqy
      have p1 : s1.heap.IsTuple a its.toArray := p1
      have p2 : s1.heap.IsTuple b its2.toArray := p2
      have la : a < s1.heap.objs.size := by obtain ⟨_, q, _⟩ := p1; exact Heap.lt_size q
      have lb : b < s1.heap.objs.size := by obtain ⟨_, q, _⟩ := p2; exact Heap.lt_size q
      refine zip_begins2 (begins_tuple a its.toArray) (begins_tuple b its2.toArray) p1 p2 fun h' hz hTI hTO h1 h2 hsz hk => ?_
      have h1 : h'.IsTupleIter s1.heap.objs.size a 0 := ⟨_, h1, rfl, rfl⟩
      have h2 : h'.IsTupleIter (s1.heap.objs.size + 1) b 0 := ⟨_, h2, rfl, rfl⟩
      refine spliced_none ?_
      refine fz_call_enumZ (s := { s1 with heap := h' }) hz fun h3 he hk3 => wpAny_pyIter_enum he ?_
      have hsz : ({ s1 with heap := h' } : Shared).heap.objs.size = s1.heap.objs.size + 5 := hsz
      rw [hsz] at he ⊢
      have I2 : Inv X pins σ H1 { s1 with heap := h3 } := I1.kept (t' := s1.toks) fun c o q => hk3 c o (hk c o q)
      have S := zip_sep2 (N := s1.heap.objs.size) (fp1 := [a]) (fp2 := [b]) (fun c hc => by rw [List.mem_singleton.mp hc]; exact la) (fun c hc => by rw [List.mem_singleton.mp hc]; exact lb)
      have ne : ∀ k : Nat, k < 5 → s1.heap.objs.size + 5 ≠ s1.heap.objs.size + k := fun k hk => by omega
      refine ⟨s1.heap.objs.size + 5, [s1.heap.objs.size + 5, s1.heap.objs.size + 4, s1.heap.objs.size + 2, s1.heap.objs.size + 3, s1.heap.objs.size, s1.heap.objs.size + 1], _, _, H1, rfl, I2,
        turn_ez S (ne 4 (by decide)) (ne 3 (by decide)) (ne 0 (by decide)) (ne 1 (by decide)) (Nat.ne_of_gt (Nat.lt_of_lt_of_le la (Nat.le_add_right _ _))) (Nat.ne_of_gt (Nat.lt_of_lt_of_le lb (Nat.le_add_right _ _))) (ne 2 (by decide)),
        ⟨⟨.none, he⟩, hk3 _ _ hTI, h1.at fun o e => hk3 _ _ e, h2.at fun o e => hk3 _ _ e, .none, false, .none, .none, hk3 _ _ hz, .inl rfl, hk3 _ _ hTO⟩, fun c hcm => ?_, q⟩
      have e' : c = s1.heap.objs.size + 5 ∨ c = s1.heap.objs.size + 4 ∨ c = s1.heap.objs.size + 2 ∨ c = s1.heap.objs.size + 3 ∨ c = s1.heap.objs.size ∨ c = s1.heap.objs.size + 1 := by simpa using hcm
      have hle : s1.heap.objs.size ≤ c := by
        rcases e' with z | z | z | z | z | z
        · rw [z]; exact Nat.le_add_right _ _
        · rw [z]; exact Nat.le_add_right _ _
        · rw [z]; exact Nat.le_add_right _ _
        · rw [z]; exact Nat.le_add_right _ _
        · rw [z]; exact Nat.le_refl _
        · rw [z]; exact Nat.le_add_right _ _
      exact I1.fpOk hle (I1.hok.fresh hle)
end L2

/-! ## FzK7 -/
set_option Elab.async false
set_option linter.all false
set_option maxRecDepth 100000
set_option maxHeartbeats 4000000
set_option autoImplicit false
/-! FzK7: the rule for `for i, (x, y) in enumerate(zip(a, b))` over frozen tuples. -/
namespace Fz
open PySem L2
section
variable {B : Bg} {ε : Eps} {L L1 : Own} {tas : TA} {g : TG} {tc : TS} {D : Ends}
theorem x_forEZ {ds es : List PyData} (h : EA B tas ε L [.d (.tuple ds), .d (.tuple es)] L1) (hle : ds.length ≤ es.length) (I : V → V → Nat → Eps → Own → Prop) (h0 : ∀ v u, I v u 0 ε ((L1 ++ [.know v (.tuple ds)]) ++ [.know u (.tuple es)]))
    (hl : ∀ v u i ε' L', I v u i ε' L' → MO.know v (.tuple ds) ∈ L' ∧ MO.know u (.tuple es) ∈ L')
    (hs : ∀ v u i d e ε' L', ds[i]? = some d → es[i]? = some e → I v u i ε' L' → ∃ ε'', GT B g (.d (.tuple [.int (i : Int), .tuple [d, e]])) ε' ε'' ∧ Ho B (tc { D with nx := AbsP B (I v u (i + 1)), ct := AbsP B (I v u (i + 1)), bk := D.nx }) ε'' L')
    (hd : ∀ v u ε' L', I v u ds.length ε' L' → Ho B D.nx ε' L') : Ho B (tFor (iEnumZ B.K tas) g tc D) ε L := fun F σ H r =>
  h F σ H r _ fun vs0 F1 H1 _ r1 o1 => by
    match vs0, o1 with
    | [v, u], o =>
    have o' : Dq B.K F1 v (.tuple ds) := o.1
    have o2 : Dq B.K F1 u (.tuple es) := o.2.1
    have r2 := (r1.learn o').learn o2
    cases o' with
    | @tup p vs _ q1 q2 =>
      cases o2 with
      | @tup p' ws _ q3 q4 =>
        have back : ∀ {i : Nat} {ε' : Eps} {L' : Own} {F' : Hp} {σ' : St} {H' : Hp}, I (.ref p) (.ref p') i ε' L' → Rep B ε' L' F' σ' H' → (∃ ws, SqT B.K H' p ws ∧ DqAll B.K F' ws ds) ∧ ∃ ws, SqT B.K H' p' ws ∧ DqAll B.K F' ws es := fun hI r' => by
          have k : Dq B.K _ (.ref p) (.tuple ds) := r'.own _ (hl _ _ _ _ _ hI).1
          have k' : Dq B.K _ (.ref p') (.tuple es) := r'.own _ (hl _ _ _ _ _ hI).2
          cases k with
          | tup k1 k2 =>
            cases k' with
            | tup k3 k4 => exact ⟨⟨_, tq_sub r'.sub k1, k2⟩, _, tq_sub r'.sub k3, k4⟩
        refine ⟨p, p', vs, ws, rfl, tq_sub r1.sub q1, tq_sub r1.sub q3, ⟨fun i m σ' H' => m = ds.length - i ∧ i ≤ ds.length ∧ AbsP B (I (.ref p) (.ref p') i) σ' H', ⟨_, rfl, Nat.zero_le _, ε, _, F1, h0 _ _, r2⟩, ?_⟩⟩
        rintro i m σ' H' ⟨rfl, hi, ε', L', F', hI, r'⟩
        obtain ⟨⟨w1, k1, k2⟩, w2, k3, k4⟩ := back hI r'
        by_cases hlt : i < ds.length
        · obtain ⟨d, hdi⟩ : ∃ d, ds[i]? = some d := ⟨_, List.getElem?_eq_getElem hlt⟩
          obtain ⟨e, hei⟩ : ∃ e, es[i]? = some e := ⟨_, List.getElem?_eq_getElem (Nat.lt_of_lt_of_le hlt hle)⟩
          obtain ⟨x, e1, e2⟩ := dpa_get k2 hdi
          obtain ⟨y, e3, e4⟩ := dpa_get k4 hei
          obtain ⟨ε'', hg, hb⟩ := hs _ _ i d e ε' L' hdi hei hI
          refine .inr ⟨⟨w1, w2, x, y, k1, k3, e1, e3⟩, AbsP B (I (.ref p) (.ref p') (i + 1)), fun σ2 H2 hN => ⟨ds.length - (i + 1), by omega, rfl, hlt, hN⟩, fun z H2 hy => ?_⟩
          obtain ⟨T, T2, x', y', rfl, hT, hT2, rfl, hx, hyy⟩ := hy
          have ex : x' = x := Option.some.inj ((hx w1 k1).symm.trans e1)
          have ey : y' = y := Option.some.inj ((hyy w2 k3).symm.trans e3)
          subst ex ey
          have hF := sub_none r'.sub hT
          have ra := r'.grow (o := .tup [x', y']) hT
          have hF2 := sub_none ra.sub hT2
          have rb := ra.grow (o := .tup [.int (i : Nat), .ref T]) hT2
          refine hg L' _ σ' _ _ rb (.tup upd_same (.cons (.int _) (.cons (dp_sub (sub_fresh hF2) (.tup upd_same (.cons (dp_sub (sub_fresh hF) e2) (.cons (dp_sub (sub_fresh hF) e4) .nil)))) .nil))) _ fun σ3 r3 => hb _ σ3 _ r3
        · have ei : i = ds.length := by omega
          subst ei
          exact .inl ⟨⟨w1, w2, k1, k3, by rw [dpa_len k2]; exact Nat.le_refl _⟩, hd _ _ _ _ hI F' σ' H' r'⟩
end
end Fz

/-! ## FzZ1 -/
set_option Elab.async false
set_option linter.all false
set_option maxRecDepth 100000
set_option maxHeartbeats 2000000
set_option autoImplicit false
/-! FzZ1: in, str, bool, {}, of data. -/
namespace Fz
open PySem L2
section
variable {B : Bg} {ε : Eps} {L La Lb : Own} {te ta tb : TE} {a x y : AD}
/-! ### in -/
theorem inV_ints (i : Int) : ∀ ns : List Int, inV (.int i) (ns.map V.int) = ns.any fun n => decide (n = i)
  | [] => rfl
  | n :: ns => by
    have h := inV_ints i ns
    unfold inV at h ⊢
    rw [List.map_cons, List.any_cons, List.any_cons, h]
    show ((n == i) || _) = _
    by_cases e : n = i
    · subst e; simp
    · rw [decide_eq_false e, beq_eq_false_iff_ne.mpr e]
theorem flat_ints (ns : List Int) : (ns.map V.int).all flatV = true := List.all_eq_true.mpr fun v hv => by
  obtain ⟨n, _, rfl⟩ := List.mem_map.mp hv
  rfl
theorem ex_in {i : Int} {ns : List Int} (ha : EX B ta ε L (.d (.int i)) La) (hb : EX B tb ε La y Lb) (hy : IsL Lb y (ns.map PyData.int)) (neg : Bool) : EX B (tOp (rIn B.K neg) ta tb) ε L (.d (.bool (if neg then !ns.any (fun n => decide (n = i)) else ns.any fun n => decide (n = i)))) Lb := ex_op ha hb fun F σ H v w rp hv hw Q q => by
  obtain ⟨p, vs, e, h1, h2⟩ := hy.get rp hw
  rw [int_inv hv, e]
  refine ⟨p, vs, rfl, .inl h1, rfl, by rw [dpa_int_inv h2]; exact flat_ints ns, ?_⟩
  rw [dpa_int_inv h2, inV_ints]
  exact q _ F H (Sub.rfl' F) rp (.bl _)
theorem ex_inL {i : Int} {ns : List Int} (ha : EX B ta ε L (.d (.int i)) La) (hb : EX B tb ε La y Lb) (hy : IsL Lb y (ns.map PyData.int)) : EX B (tOp (rIn B.K false) ta tb) ε L (.d (.bool (ns.any fun n => decide (n = i)))) Lb := ex_in ha hb hy false
theorem ex_ninL {i : Int} {ns : List Int} (ha : EX B ta ε L (.d (.int i)) La) (hb : EX B tb ε La y Lb) (hy : IsL Lb y (ns.map PyData.int)) : EX B (tOp (rIn B.K true) ta tb) ε L (.d (.bool (!ns.any fun n => decide (n = i)))) Lb := ex_in ha hb hy true
/-! ### [i] of whatever -/
theorem ex_ixQT {ds : List PyData} {d : PyData} {i : Int} (ha : EX B ta ε L (.d (.tuple ds)) La) (hb : EX B tb ε La (.d (.int i)) Lb) (hi : atI ds i = some d) : EX B (tOp (rIx B.K) ta tb) ε L (.d d) Lb := ex_op ha hb fun F σ H v w rp hv hw Q q => by
  obtain ⟨p, vs, rfl, h1, h2⟩ := tup_inv hv
  obtain ⟨u, e1, e2⟩ := atI_dp h2 hi
  exact .inr (.inl ⟨p, vs, i, u, rfl, int_inv hw, tq_sub rp.sub h1, e1, q u F H (Sub.rfl' F) rp e2⟩)
theorem ex_ixQL {ds : List PyData} {d : PyData} {i : Int} (ha : EX B ta ε L x La) (hb : EX B tb ε La (.d (.int i)) Lb) (hx : IsL Lb x ds) (hi : atI ds i = some d) : EX B (tOp (rIx B.K) ta tb) ε L (.d d) Lb := ex_op ha hb fun F σ H v w rp hv hw Q q => by
  obtain ⟨p, vs, rfl, h1, h2⟩ := hx.get rp hv
  obtain ⟨u, e1, e2⟩ := atI_dp h2 hi
  exact .inl ⟨p, vs, i, u, rfl, int_inv hw, h1, e1, q u F H (Sub.rfl' F) rp e2⟩
/-! ### bool, {} -/
theorem ex_boolI {i : Int} (h : EX B te ε L (.d (.int i)) La) : EX B (tCB (fun xs H Q => (∃ i, xs = [.int i] ∧ Q (.bl (i != 0)) H) ∨ ∃ k, xs = [.bl k] ∧ Q (.bl k) H) (tCons te tNil)) ε L (.d (.bool (i != 0))) La := fun F σ H r Q q =>
  h F σ H r _ fun v F1 H1 s1 r1 o1 => .inl ⟨i, by rw [int_inv o1], q _ F1 H1 s1 r1 (.bl _)⟩
theorem ex_dnew : EX B tDNewK ε L (.d (.dict [])) L := fun F σ H r Q q p hp => by
  have hF := sub_none r.sub hp
  exact q _ _ _ (sub_fresh hF) (r.grow hp) (.dic upd_same rfl)
end
/-! ### str -/
def rStrD (K : PySem.W.Frag) : List V → Hp → VK → Prop := fun xs H Q => ∃ v d, xs = [v] ∧ Dq K H v d ∧ (∃ s : Str, (match d with | .int i => PyData.shown (.int i) = s | .tuple ds => PyData.shown (.tuple ds) = s | _ => False) ∧ d.showable = true ∧ repOk d = true ∧ d.depth ≤ 60 ∧ s.length ≤ sizeLine ∧ Q (.str s) H)
section
variable {X : Cx} {k : Nat}
theorem call_strD (hr : Room k X.A) (hG : X.A.guards = some []) : CallR X (.type "str") (rStrD X.K) := by
  intro pins s σ H xs us Q I r h
  obtain ⟨v, d, rfl, hd, z, hz, h1, h2, h3, h4, q⟩ := h
  obtain ⟨u, rfl, ru⟩ := vals1 r
  cases hd with
  | int i =>
    obtain ⟨t, rfl⟩ := ru
    subst hz
    rw [PyData.shown_int] at q
    exact PySem.P.str_of_int (by simpa [PyData.showable] using h1) ⟨.str _, H, I.tok _, ⟨_, rfl⟩, q⟩
  | @tup a vs ds g1 g2 =>
    subst hz
    have e : u = .ref a := ru
    subst e
    obtain ⟨as, rd, hn⟩ := dq_reads I (.tup g1 g2) (show RelV (.ref a) (.ref a) from rfl)
    refine str_of_reads rd h1 (fun hdd => hn ?_) hG (by have := hr.units; have := hr.un; omega) (fun _ _ e => e) (fun h' z tk hk => ⟨.str _, H, I.kept hk, ⟨z, rfl⟩, q⟩) h4
    unfold repOk at h2
    rw [hdd] at h2
    exact h2
  | non => exact absurd hz id
  | bl b => exact absurd hz id
  | str z => exact absurd hz id
  | lst _ _ => exact absurd hz id
  | dic _ _ => exact absurd hz id
end
section
variable {B : Bg} {ε : Eps} {L La : Own} {te : TE}
theorem ex_strT {ds : List PyData} (h : EX B te ε L (.d (.tuple ds)) La) (h1 : (PyData.tuple ds).showable = true) (h2 : repOk (.tuple ds) = true) (h3 : (PyData.tuple ds).depth ≤ 60) (h4 : (PyData.tuple ds).shown.length ≤ sizeLine) : EX B (tCB (rStrD B.K) (tCons te tNil)) ε L (.d (.str (PyData.tuple ds).shown)) La := fun F σ H r Q q =>
  h F σ H r _ fun v F1 H1 s1 r1 o1 => ⟨v, .tuple ds, rfl, dp_sub r1.sub o1, _, rfl, h1, h2, h3, h4, q _ F1 H1 s1 r1 (.str _)⟩
theorem ex_strI {i : Int} (h : EX B te ε L (.d (.int i)) La) (h1 : (PyData.int i).showable = true) (h4 : (PyData.int i).shown.length ≤ sizeLine) : EX B (tCB (rStrD B.K) (tCons te tNil)) ε L (.d (.str (PyData.int i).shown)) La := fun F σ H r Q q =>
  h F σ H r _ fun v F1 H1 s1 r1 o1 => ⟨v, .int i, rfl, dp_sub r1.sub o1, _, rfl, h1, rfl, Nat.zero_le _, h4, q _ F1 H1 s1 r1 (.str _)⟩
theorem ex_strS {i : Int} (h : EX B te ε L (.d (.int i)) La) (hz : i.natAbs.log2 < 1920) : EX B (tCB (fun xs H Q => ∃ i, xs = [.int i] ∧ i.natAbs.log2 < 1920 ∧ Q (.str (toString i)) H) (tCons te tNil)) ε L (.d (.str (Str.ofString (toString i)))) La := fun F σ H r Q q =>
  h F σ H r _ fun v F1 H1 s1 r1 o1 => ⟨i, by rw [int_inv o1], hz, q _ F1 H1 s1 r1 (.str _)⟩
end
theorem bulk_len : ∀ ds : List PyData, ds.length ≤ PyData.bulkAll ds
  | [] => Nat.zero_le _
  | d :: ds => by
    have := bulk_len ds
    show ds.length + 1 ≤ d.bulk + 1 + PyData.bulkAll ds
    omega
/-! ### a pick out of a list or a tuple -/
def seqQ (q : Bool) (xs : List PyData) : PyData := if q then .tuple xs else .list xs
def R_pickQ : Bag → List PyData → PyData → Bag → Prop := fun b ds d b' => ∃ (q : Bool) (xs : List PyData), xs ≠ [] ∧ xs.length ≤ 100000 ∧ ds = [seqQ q xs] ∧ d = xs.getD (drawV b xs.length).toNat .none ∧ b' = drawB b xs.length
abbrev S_pickQ (K : PySem.W.Frag) : Sp := spG K (fun y : Bool × List PyData => [seqQ y.1 y.2]) (fun y => y.2 ≠ [] ∧ y.2.length ≤ 100000) eD (fun y d => d ∈ y.2)
section
variable {P : Program} {w : World} {K : PySem.W.Frag} {mg : Str → Option Value} {base : Heap} {f : Addr} {fd : FuncData} {ps : List Str} {k : Nat}
theorem pickQ_wk (h : FnOk P w K mg base CX0 k f fd ps (spB K R_pickQ)) : FnOk P w K mg base CX0 k f fd ps (S_pickQ K) :=
  fn_wk h (spG_of fun y b ⟨h0, h1⟩ => by
    have hpos := List.length_pos_iff.mpr h0
    have hv := drawV_ok b (show (0 : Int) < (y.2.length : Int) by omega)
    have hlt : (drawV b y.2.length).toNat < y.2.length := by omega
    refine ⟨y.2.getD (drawV b y.2.length).toNat .none, drawB b y.2.length, ⟨y.1, y.2, h0, h1, rfl, rfl, rfl⟩, ?_⟩
    rw [List.getD_eq_getElem?_getD, List.getElem?_eq_getElem hlt]
    exact List.getElem_mem hlt)
end
section
variable {B : Bg} {ε : Eps} {L La : Own} {tas : TA} {E : XK} {pb pc : Addr} {α : Type} {e : α → PyData}
theorem wq_pick {κ : α → Own → Prop} (h : WA B tas ε L fun as L1 => ∃ (xs : List α) (b : Bag) (L2 : Bag → Own), as = [.v (.ref pb), .d (eL e xs)] ∧ (∀ b', Up L1 (b.at pb pc) (b'.at pb pc) (L2 b')) ∧ xs ≠ [] ∧ xs.length ≤ 100000 ∧ ∀ x b', x ∈ xs → κ x (L2 b')) : WV B e (tCall (S_pickQ B.K) [] E tas) ε L κ :=
  wv_as (e := eD) (w_callG (pb := pb) (pc := pc) fun F σ H r Q q => h F σ H r Q fun as L' vs F' H' ⟨xs, b, L2, ea, hup, h0, h1, k⟩ => q as L' vs F' H' ⟨(false, xs.map e), b, L2, ea, hup, ⟨by simpa using h0, by rw [List.length_map]; exact h1⟩, fun x b' hx => by
    obtain ⟨y, hy, rfl⟩ := List.mem_map.mp hx
    exact ⟨y, rfl, k y b' hy⟩⟩)
theorem wq_pckT {κ : α → Own → Prop} {xs : List α} {i : Nat} {te : TE} {b : Bag} {L2 : Bag → Own} (hb : ε[i]? = some (some (.v (.ref pb)))) (hn : EX B te ε L (.d (eT e xs)) La) (hup : ∀ b', Up La (b.at pb pc) (b'.at pb pc) (L2 b')) (h0 : xs ≠ []) (h1 : xs.length ≤ 100000) (k : ∀ x b', x ∈ xs → κ x (L2 b')) : WV B e (tCall (S_pickQ B.K) [] E (tCons (tVar i) (tCons te tNil))) ε L κ :=
  wv_as (e := eD) (w_callG (pb := pb) (pc := pc) (wa_x (ex_v hb) (wa_x hn (wa_nil ⟨(true, xs.map e), b, L2, rfl, hup, ⟨by simpa using h0, by rw [List.length_map]; exact h1⟩, fun x b' hx => by
    obtain ⟨y, hy, rfl⟩ := List.mem_map.mp hx
    exact ⟨y, rfl, k y b' hy⟩⟩))))
end
end Fz

/-! ## FzZ2 -/
set_option Elab.async false
set_option linter.all false
set_option maxRecDepth 100000
set_option maxHeartbeats 2000000
set_option autoImplicit false
/-! FzZ2: ranges with a step; what is indexed or repeated by what is drawn. -/
namespace Fz
open PySem L2
section
variable {B : Bg} {ε : Eps} {L L1 : Own} {ta tb te : TE} {tas : TA} {tc : TS} {D : Ends}
/-- over range(lo, hi, c) -/
theorem x_forR3 {j n : Nat} {lo hi c : Int} (h : EA B tas ε L [.d (.int lo), .d (.int hi), .d (.int c)] L1) (hn : RgC lo hi c n) (I : Nat → Eps → Own → Prop) (h0 : I 0 ε L1)
    (hs : ∀ (i : Nat) ε' L', i < n → I i ε' L' → Ho B (tc { D with nx := AbsP B (I (i + 1)), ct := AbsP B (I (i + 1)), bk := D.nx }) (ε'.set j (some (.d (.int (lo + (i : Int) * c))))) L')
    (hd : ∀ ε' L', I n ε' L' → Ho B D.nx ε' L') : Ho B (tFor (iRng3 tas) (gName j) tc D) ε L := fun F σ H r =>
  h F σ H r _ fun vs F1 H1 _ r1 o1 => by
    match vs, o1 with
    | [u, v, w], o =>
      have eu : u = .int lo := int_inv o.1
      have ev : v = .int hi := int_inv o.2.1
      have ew : w = .int c := int_inv o.2.2.1
      subst eu ev ew
      refine ⟨lo, hi, c, n, rfl, hn, for_rangeC (lo := lo) (c := c) (n := n) (fun i => AbsP B (I i)) ⟨ε, L1, F1, h0, r1⟩ (fun i σ' H' hi p => ?_) fun σ' H' p => ho_abs hd p⟩
      obtain ⟨ε', L', F', hI, r'⟩ := p
      exact hs i ε' L' hi hI F' _ H' (r'.slot (a := .d (.int (lo + (i : Int) * c))) (.int _))
theorem rg_two {a b : Int} (ha : 0 ≤ a ∧ a ≤ 1) (hb : 0 ≤ b ∧ b ≤ 8) : ∃ n, n ≤ 8 ∧ RgC a b 2 n := by
  have key : ∀ (x : Fin 2) (y : Fin 9), (Builtin.Range.small (x.val : Int) (y.val : Int) 2 = true ∧ Builtin.Range.rangeSize (x.val : Int) (y.val : Int) 2 = (((y.val + 1 - x.val) / 2 : Nat) : Int)) := by decide
  obtain ⟨m, rfl⟩ : ∃ m : Nat, a = (m : Int) := ⟨a.toNat, by omega⟩
  obtain ⟨k, rfl⟩ : ∃ k : Nat, b = (k : Int) := ⟨b.toNat, by omega⟩
  have h := key ⟨m, by omega⟩ ⟨k, by omega⟩
  exact ⟨(k + 1 - m) / 2, by omega, by decide, by decide, h.1, h.2⟩
theorem rx_ixT {ds : List PyData} {d : PyData} {i : Int} (hi : atI ds i = some d) : RX B (rIxT B.K) ε L (.d (.tuple ds)) (.d (.int i)) (.d d) L := fun F σ H v w rp hv hw Q q => by
  obtain ⟨p, vs, rfl, h1, h2⟩ := tup_inv hv
  obtain ⟨u, e1, e2⟩ := atI_dp h2 hi
  exact ⟨p, vs, i, u, rfl, int_inv hw, tq_sub rp.sub h1, e1, q u F H (Sub.rfl' F) rp e2⟩
theorem rx_rep1 {ds : List PyData} {n : Int} (hne : ds ≠ []) (hl : ds.length ≤ 1000) (hn : 1 ≤ n ∧ n ≤ 1000) : RX B (rRepT1 B.K) ε L (.d (.tuple ds)) (.d (.int n)) (.d (.tuple (List.replicate n.toNat ds).flatten)) L := fun F σ H v w rp hv hw Q q => by
  obtain ⟨p, vs, rfl, h1, h2⟩ := tup_inv hv
  have hne' : vs ≠ [] := fun e => by
    have := dpa_len h2
    rw [e] at this
    exact hne (List.eq_nil_of_length_eq_zero this.symm)
  refine ⟨p, n, vs, rfl, int_inv hw, tq_sub rp.sub h1, hne', ?_⟩
  by_cases c : n = 1
  · subst c
    refine .inl ⟨rfl, q _ F H (Sub.rfl' F) rp (.tup h1 ?_)⟩
    have e : (List.replicate (1 : Int).toNat ds).flatten = ds := by simp
    rw [e]; exact h2
  · refine .inr ⟨by omega, hn.2, by rw [dpa_len h2]; exact hl, fun n' hn' => ?_⟩
    have hF := sub_none rp.sub hn'
    refine q _ _ _ (sub_fresh hF) (rp.grow hn') (.tup upd_same (dpa_sub (sub_fresh hF) ?_))
    have : ∀ m : Nat, DqAll B.K F (List.replicate m vs).flatten (List.replicate m ds).flatten := fun m => by
      induction m with
      | zero => exact .nil
      | succ m ih => rw [List.replicate_succ, List.replicate_succ, List.flatten_cons, List.flatten_cons]; exact dpa_app h2 ih
    exact this _
end
end Fz

/-! ## K80N -/
set_option autoImplicit false
set_option linter.all false
/-! K80N: mirrors of the program's defs. -/
namespace K80
open PySem L2 Fz
theorem cmul {i j : Int} {a b : Nat} (ha : Bd a i) (hb : Bd b j) (h : a + b ≤ 900000) : CMulW i j :=
  wide_mul (a := a + 1) (b := b + 1) (ha.mono (Nat.le_succ a)) (hb.mono (Nat.le_succ b)) (Nat.succ_pos _) (Nat.succ_pos _) (by omega)
theorem cdiv {i j : Int} {b : Nat} (h : 0 < j) (hb : Bd b j) (h9 : b ≤ 8000) : CDivW i j := wide_div (b := b + 1) h (hb.mono (Nat.le_succ b)) (Nat.succ_pos _) (by omega)
def ti (l : List Int) : PyData := .tuple (l.map PyData.int)
def li (l : List Int) : PyData := .list (l.map PyData.int)
theorem at_ints {l : List Int} {i : Nat} (h : i < l.length) : atI (l.map PyData.int) (i : Int) = some (.int (l.getD i 0)) := by
  refine atI_nat ?_
  rw [List.getElem?_map, List.getElem?_eq_getElem h, List.getD_eq_getElem?_getD, List.getElem?_eq_getElem h]
  rfl
theorem at_intsZ {l : List Int} {j : Int} (h0 : 0 ≤ j) (h : j < l.length) : atI (l.map PyData.int) j = some (.int (l.getD j.toNat 0)) := by
  have e : j = ((j.toNat : Nat) : Int) := by omega
  rw [e]
  exact at_ints (by omega)
/-- a fraction in least terms -/
def frD (t b : Int) : PyData := .tuple [.int (t / (Int.gcd t b : Int)), .int (b / (Int.gcd t b : Int))]
def fallsN (l : List Int) : Nat := ((List.range (l.length - 1)).filter fun i => decide (l.getD (i + 1) 0 < l.getD i 0)).length
theorem fallsN_le (l : List Int) : fallsN l ≤ l.length - 1 := by
  unfold fallsN
  refine Nat.le_trans (List.length_filter_le _ _) ?_
  rw [List.length_range]; exact Nat.le_refl _
def stepRow (row : List Int) (many : Nat) : List Int := (List.range many).map fun d => (if d < many - 1 then row.getD d 0 * ((d : Int) + 1) else 0) + (if 0 < d then row.getD (d - 1) 0 * ((many : Int) - d) else 0)
def rowAt : Nat → List Int
  | 0 => [1]
  | k + 1 => stepRow (rowAt k) (k + 2)
theorem rowAt_len : ∀ k, (rowAt k).length = k + 1
  | 0 => rfl
  | k + 1 => by unfold rowAt stepRow; rw [List.length_map, List.length_range]
theorem getD_map_range {f : Nat → Int} {n i : Nat} (h : i < n) : ((List.range n).map f).getD i 0 = f i := by
  rw [List.getD_eq_getElem?_getD, List.getElem?_map, List.getElem?_range h]; rfl
theorem getD_out {l : List Int} {i : Nat} (h : l.length ≤ i) : l.getD i 0 = 0 := by
  rw [List.getD_eq_getElem?_getD, List.getElem?_eq_none h]; rfl
theorem rowAt_bd : ∀ k, k ≤ 100 → ∀ i, Bd (9 * k + 1) ((rowAt k).getD i 0)
  | 0, _, i => by
    unfold rowAt Bd
    cases i with
    | zero => decide
    | succ i => exact bd_zero 1
  | k + 1, hk, i => by
    by_cases hi : i < k + 2
    · unfold rowAt stepRow
      rw [getD_map_range hi]
      have ih := rowAt_bd k (by omega)
      have b1 : Bd (9 * k + 1 + 7) (if i < k + 2 - 1 then (rowAt k).getD i 0 * ((i : Int) + 1) else 0) := by
        split
        · exact (ih i).mul (Bd.of (n := 103) (by omega) (by omega) (by decide))
        · exact bd_zero _
      have b2 : Bd (9 * k + 1 + 7) (if 0 < i then (rowAt k).getD (i - 1) 0 * (((k + 2 : Nat) : Int) - i) else 0) := by
        split
        · exact (ih _).mul (Bd.of (n := 103) (by omega) (by omega) (by decide))
        · exact bd_zero _
      exact (b1.add b2).mono (by omega)
    · rw [getD_out (by rw [rowAt_len]; omega)]
      exact bd_zero _
def cofRow (n : Nat) : List Int := rowAt (n - 1)
/-- the differences of the first d numbers of falls, together -/
def farS (n : Nat) (p : Int) : Nat → Int
  | 0 => 0
  | d + 1 => farS n p d + (cofRow n).getD d 0 * (((dealtBy p n (d : Int) * (fac n : Int) - p ^ n).natAbs : Nat) : Int)
def farT (n : Nat) (p : Int) : Int := farS n p (cofRow n).length
theorem shift_bd {p : Int} (hp : Bd 410 p) {d : Int} (hd : 0 ≤ d ∧ d ≤ 60) : ∀ i : Nat, i < 64 → Bd 411 (p - d + i) := fun i hi => by
  have h2 : Bd 410 ((i : Int) - d) := (Bd.of (k := 7) (n := 127) (by omega) (by omega) (by decide)).mono (by decide)
  have e : p - d + i = p + ((i : Int) - d) := by omega
  rw [e]
  exact hp.add h2
theorem prod_bd {p : Int} (hp : Bd 410 p) {d : Int} (hd : 0 ≤ d ∧ d ≤ 60) {n : Nat} (hn : n ≤ 60) : Bd 25000 (prodF (p - d) n) := (prodF_bd (shift_bd hp hd) n (by omega)).mono (by omega)
theorem dealt_bd {p : Int} (hp : Bd 410 p) {d : Int} (hd : 0 ≤ d ∧ d ≤ 60) {n : Nat} (hn : n ≤ 60) : Bd 25000 (dealtBy p n d) := (prod_bd hp hd hn).div
theorem fac_bd' {n : Nat} (hn : n ≤ 60) : Bd 400 (fac n : Int) := (fac_bd n (by omega)).mono (by omega)
theorem pow_bd' {p : Int} (hp : Bd 410 p) {n : Nat} (hn : n ≤ 60) : Bd 25000 (p ^ n) := (hp.pow n).mono (by omega)
theorem diff_bd {p : Int} (hp : Bd 410 p) {d : Int} (hd : 0 ≤ d ∧ d ≤ 60) {n : Nat} (hn : n ≤ 60) : Bd 26000 (dealtBy p n d * (fac n : Int) - p ^ n) :=
  (((dealt_bd hp hd hn).mul (fac_bd' hn)).sub ((pow_bd' hp hn).mono (by decide))).mono (by decide)
theorem row_bd {n : Nat} (hn : n ≤ 60) (i : Nat) : Bd 600 ((cofRow n).getD i 0) := (rowAt_bd (n - 1) (by omega) i).mono (by omega)
theorem cof_len (n : Nat) : (cofRow n).length = n - 1 + 1 := rowAt_len _
theorem farS_bd {p : Int} (hp : Bd 410 p) {n : Nat} (hn : n ≤ 60) : ∀ d, d ≤ 60 → Bd (27000 + d) (farS n p d)
  | 0, _ => bd_zero _
  | d + 1, h => by
    unfold farS
    exact (farS_bd hp hn d (by omega)).add (((row_bd hn d).mul (diff_bd hp (d := (d : Int)) (by omega) hn).abs).mono (by omega))
theorem farT_bd {p : Int} (hp : Bd 410 p) {n : Nat} (hn : n ≤ 60) : Bd 28000 (farT n p) := (farS_bd hp hn _ (by rw [cof_len]; omega)).mono (by rw [cof_len]; omega)
end K80
namespace K80
open PySem L2 Fz
/-- the fraction's test is the test of what it comes from -/
theorem less_red {a b t l : Int} (hl : 0 < l) : (a * (l / (Int.gcd t l : Int)) < t / (Int.gcd t l : Int) * b) ↔ a * l < t * b := by
  have hg : (0 : Int) < (Int.gcd t l : Int) := by
    have : 0 < Int.gcd t l := Int.gcd_pos_of_ne_zero_right t (by omega)
    omega
  have e1 : l = l / (Int.gcd t l : Int) * (Int.gcd t l : Int) := (Int.ediv_mul_cancel (Int.gcd_dvd_right t l)).symm
  have e2 : t = t / (Int.gcd t l : Int) * (Int.gcd t l : Int) := (Int.ediv_mul_cancel (Int.gcd_dvd_left t l)).symm
  generalize l / (Int.gcd t l : Int) = l' at *
  generalize t / (Int.gcd t l : Int) = t' at *
  generalize (Int.gcd t l : Int) = g at *
  subst e1 e2
  rw [← Int.mul_assoc, show t' * g * b = t' * b * g by rw [Int.mul_assoc, Int.mul_comm g, Int.mul_assoc]]
  exact ⟨fun h => Int.mul_lt_mul_of_pos_right h hg, fun h => Int.lt_of_mul_lt_mul_right h (Int.le_of_lt hg)⟩
def farL (n : Nat) (p : Int) : Int := 2 * p ^ n * (fac n : Int)
theorem farL_pos {n : Nat} {p : Int} (h : 0 < p) : 0 < farL n p := by
  have h1 : 0 < p ^ n := Int.pow_pos h
  have h2 := fac_pos n
  unfold farL
  exact Int.mul_pos (Int.mul_pos (by decide) h1) (by omega)
theorem farL_bd {p : Int} (hp : Bd 410 p) {n : Nat} (hn : n ≤ 60) : Bd 28000 (farL n p) :=
  ((((Bd.of (k := 2) (x := 2) (n := 3) (by decide) (by decide) (by decide)).mul (pow_bd' hp hn)).mul (fac_bd' hn)).mono (by decide))
def fewT (n : Nat) (p a b : Int) (m : Nat) : Bool := decide (farT n (p ^ m) * b ≤ a * farL n (p ^ m))
def fewM (n : Nat) (p a b : Int) : Option Nat := (List.range 21).find? (fewT n p a b)
def optD : Option Nat → PyData
  | none => .none
  | some m => .int m
theorem find_at {f : Nat → Bool} {n i : Nat} (h : i < n) (h1 : f i = true) (h2 : ∀ j, j < i → f j = false) : (List.range n).find? f = some i := by
  induction n with
  | zero => omega
  | succ n ih =>
    rw [List.range_succ, List.find?_append]
    by_cases e : i < n
    · rw [ih e]; rfl
    · have ei : i = n := by omega
      subst ei
      have : (List.range i).find? f = none := List.find?_eq_none.mpr fun x hx => by
        rw [h2 x (List.mem_range.mp hx)]; exact Bool.false_ne_true
      rw [this]
      show [i].find? f = some i
      rw [List.find?_cons_of_pos h1]
theorem find_no {f : Nat → Bool} {n : Nat} (h2 : ∀ j, j < n → f j = false) : (List.range n).find? f = none := List.find?_eq_none.mpr fun x hx => by
  rw [h2 x (List.mem_range.mp hx)]; exact Bool.false_ne_true
end K80

/-! ## WM -/
/-! WM: ways: reduction, the rows of sums along a way. Plain mathematics. -/
set_option autoImplicit false
set_option linter.all false
namespace Ways
abbrev Way := List (Int × Int)
/-- one step laid behind what is left -/
def stepW (f : Way) (x : Int × Int) : Way :=
  match f.getLast? with
  | some y => if y.1 = x.1 then (if x.2 + y.2 = 0 then f.dropLast else f.dropLast ++ [(x.1, x.2 + y.2)]) else (if x.2 = 0 then f else f ++ [x])
  | none => if x.2 = 0 then f else f ++ [x]
def redW (w : Way) : Way := w.foldl stepW []
def negW (x : Int × Int) : Int × Int := (x.1, -x.2)
def backW (w : Way) : Way := (w.map negW).reverse
/-- no length 0, no like letters side by side; the last letter stands at the list's end -/
inductive Red : Way → Prop
  | nil : Red []
  | one {x : Int × Int} : x.2 ≠ 0 → Red [x]
  | snoc {f : Way} {y x : Int × Int} : Red (f ++ [y]) → x.2 ≠ 0 → y.1 ≠ x.1 → Red (f ++ [y] ++ [x])
theorem Red.init {f : Way} {x : Int × Int} (h : Red (f ++ [x])) : Red f := by
  generalize e : f ++ [x] = g at h
  cases h with
  | nil => exact absurd e (by simp)
  | @one z hz =>
    have : f = [] := by
      cases f with
      | nil => rfl
      | cons a t => simp at e
    rw [this]; exact .nil
  | @snoc f' y z h1 h2 h3 =>
    have := List.append_inj' e rfl
    rw [this.1]; exact h1
theorem Red.last {f : Way} {x : Int × Int} (h : Red (f ++ [x])) : x.2 ≠ 0 := by
  generalize e : f ++ [x] = g at h
  cases h with
  | nil => exact absurd e (by simp)
  | @one z hz =>
    cases f with
    | nil => simp at e; rw [e]; exact hz
    | cons a t => simp at e
  | @snoc f' y z h1 h2 h3 =>
    have := List.append_inj' e rfl
    have e2 : x = z := by simpa using this.2
    rw [e2]; exact h2
theorem Red.apart {f : Way} {y x : Int × Int} (h : Red (f ++ [y] ++ [x])) : y.1 ≠ x.1 := by
  generalize e : f ++ [y] ++ [x] = g at h
  cases h with
  | nil => exact absurd e (by simp)
  | @one z hz => exact absurd (congrArg List.length e) (by simp)
  | @snoc f' y' z h1 h2 h3 =>
    have := List.append_inj' e rfl
    have e2 : x = z := by simpa using this.2
    have := List.append_inj' this.1 rfl
    have e3 : y = y' := by simpa using this.2
    rw [e2, e3]; exact h3
/-- every way is empty or has a last step -/
theorem snoc_cases (f : Way) : f = [] ∨ ∃ g y, f = g ++ [y] := by
  cases h : f.getLast? with
  | none => exact .inl (List.getLast?_eq_none_iff.mp h)
  | some y =>
    obtain ⟨g, e⟩ := List.getLast?_eq_some_iff.mp h
    exact .inr ⟨g, y, e⟩
theorem step_nil (x : Int × Int) : stepW [] x = if x.2 = 0 then [] else [x] := rfl
theorem step_snoc (g : Way) (y x : Int × Int) : stepW (g ++ [y]) x = if y.1 = x.1 then (if x.2 + y.2 = 0 then g else g ++ [(x.1, x.2 + y.2)]) else (if x.2 = 0 then g ++ [y] else g ++ [y] ++ [x]) := by
  unfold stepW
  rw [List.getLast?_append, List.getLast?_singleton]
  show (if y.1 = x.1 then (if x.2 + y.2 = 0 then (g ++ [y]).dropLast else (g ++ [y]).dropLast ++ [(x.1, x.2 + y.2)]) else (if x.2 = 0 then g ++ [y] else g ++ [y] ++ [x])) = _
  rw [List.dropLast_concat]
theorem red_step {f : Way} (h : Red f) (x : Int × Int) : Red (stepW f x) := by
  rcases snoc_cases f with rfl | ⟨g, y, rfl⟩
  · rw [step_nil]
    split
    · exact .nil
    · exact .one (by assumption)
  · rw [step_snoc]
    split
    · rename_i e
      split
      · exact h.init
      · rename_i n0
        rcases snoc_cases g with rfl | ⟨g', z, rfl⟩
        · exact .one n0
        · exact .snoc h.init n0 (by rw [← e]; exact h.apart)
    · rename_i e
      split
      · exact h
      · exact .snoc h (by assumption) e
theorem red_fold (w : Way) : ∀ {f : Way}, Red f → Red (w.foldl stepW f) := by
  induction w with
  | nil => exact fun h => h
  | cons x w ih => exact fun h => ih (red_step h x)
theorem red_red (w : Way) : Red (redW w) := red_fold w .nil
/-- a step and the way back -/
theorem step_back {f : Way} (h : Red f) (x : Int × Int) : stepW (stepW f (negW x)) x = f := by
  obtain ⟨l, n⟩ := x
  rcases snoc_cases f with rfl | ⟨g, y, rfl⟩
  · rw [step_nil]
    by_cases c : n = 0
    · rw [if_pos (by show -n = 0; omega), step_nil, if_pos c]
    · rw [if_neg (by show ¬ -n = 0; omega)]
      have := step_snoc [] (negW (l, n)) (l, n)
      rw [List.nil_append] at this
      rw [this, if_pos (show (negW (l, n)).1 = (l, n).1 from rfl), if_pos (by show n + -n = 0; omega)]
  · obtain ⟨m, k⟩ := y
    rw [step_snoc]
    by_cases e : m = l
    · subst e
      rw [if_pos (show (m, k).1 = (negW (m, n)).1 from rfl)]
      have hk := h.last
      by_cases c : -n + k = 0
      · rw [if_pos (by show -n + k = 0; exact c)]
        have en : n = k := by omega
        subst en
        rcases snoc_cases g with rfl | ⟨g', z, rfl⟩
        · rw [step_nil, if_neg hk]; rfl
        · rw [step_snoc, if_neg h.apart, if_neg hk]
      · rw [if_neg (by show ¬ -n + k = 0; exact c), step_snoc, if_pos (show ((negW (m, n)).1, (negW (m, n)).2 + (m, k).2).1 = (m, n).1 from rfl), if_neg (by show ¬ n + (-n + k) = 0; have : k ≠ 0 := hk; omega)]
        have e2 : n + (-n + k) = k := by omega
        show g ++ [(m, n + (-n + k))] = _
        rw [e2]
    · rw [if_neg (by show ¬ m = l; exact e)]
      by_cases c : n = 0
      · rw [if_pos (by show -n = 0; omega), step_snoc, if_neg e, if_pos c]
      · rw [if_neg (by show ¬ -n = 0; omega), step_snoc, if_pos (show (negW (l, n)).1 = (l, n).1 from rfl), if_pos (by show n + -n = 0; omega)]
theorem back_cons (x : Int × Int) (w : Way) : backW (x :: w) = backW w ++ [negW x] := by unfold backW; rw [List.map_cons, List.reverse_cons]
theorem neg_neg (x : Int × Int) : negW (negW x) = x := by unfold negW; simp
theorem back_back (w : Way) : backW (backW w) = w := by
  unfold backW
  rw [List.map_reverse, List.reverse_reverse, List.map_map]
  have : (negW ∘ negW) = id := by funext x; exact neg_neg x
  rw [this, List.map_id]
theorem fold_back (w : Way) : ∀ {f : Way}, Red f → (backW w ++ w).foldl stepW f = f := by
  induction w with
  | nil => exact fun _ => rfl
  | cons x w ih =>
    intro f h
    rw [back_cons, List.foldl_append, List.foldl_append]
    show w.foldl stepW (stepW (stepW ((backW w).foldl stepW f) (negW x)) x) = f
    rw [step_back (red_fold _ h) x, ← List.foldl_append]
    exact ih h
theorem red_app (a b : Way) : redW (a ++ b) = b.foldl stepW (redW a) := List.foldl_append ..
theorem red_nil_same {a b : Way} (h : redW (a ++ backW b) = []) : redW a = redW b := by
  have h1 : redW (a ++ backW b ++ b) = redW b := by rw [red_app, h]; rfl
  have h2 : redW (a ++ backW b ++ b) = redW a := by rw [List.append_assoc, red_app]; exact fold_back b (red_red a)
  rw [← h2, h1]
theorem red_fold_red {f : Way} (h : Red f) : f.foldl stepW [] = f := by
  induction h with
  | nil => rfl
  | @one x hx => show stepW [] x = [x]; rw [step_nil, if_neg hx]
  | @snoc f y x h1 h2 h3 ih => rw [List.foldl_append, ih]; show stepW (f ++ [y]) x = _; rw [step_snoc, if_neg h3, if_neg h2]
theorem red_twice (w : Way) : redW (redW w) = redW w := red_fold_red (red_red w)
theorem red_same_nil {a b : Way} (h : redW a = redW b) : redW (a ++ backW b) = [] := by
  rw [red_app, h, ← red_app]
  have e : redW (b ++ backW b) = (backW (backW b) ++ backW b).foldl stepW [] := by rw [back_back]; rfl
  rw [e]
  exact fold_back (backW b) .nil
/-- all lengths together -/
def tot : Way → Nat
  | [] => 0
  | x :: w => x.2.natAbs + tot w
theorem tot_app (a b : Way) : tot (a ++ b) = tot a + tot b := by
  induction a with
  | nil => show tot b = 0 + tot b; omega
  | cons x a ih => show x.2.natAbs + tot (a ++ b) = x.2.natAbs + tot a + tot b; omega
theorem tot_step (f : Way) (x : Int × Int) : tot (stepW f x) ≤ tot f + x.2.natAbs ∧ (stepW f x).length ≤ f.length + 1 := by
  rcases snoc_cases f with rfl | ⟨g, y, rfl⟩
  · rw [step_nil]; split <;> simp [tot]
  · rw [step_snoc]
    split
    · split
      · rw [tot_app]; simp [tot]; omega
      · rw [tot_app, tot_app]; simp [tot]; omega
    · split
      · simp
      · rw [tot_app]; simp [tot]
theorem tot_fold (w : Way) : ∀ f : Way, tot (w.foldl stepW f) ≤ tot f + tot w ∧ (w.foldl stepW f).length ≤ f.length + w.length := by
  induction w with
  | nil => exact fun f => ⟨Nat.le_refl _, Nat.le_refl _⟩
  | cons x w ih =>
    intro f
    have h1 := ih (stepW f x)
    have h2 := tot_step f x
    show tot (w.foldl stepW (stepW f x)) ≤ tot f + (x.2.natAbs + tot w) ∧ (w.foldl stepW (stepW f x)).length ≤ f.length + (w.length + 1)
    omega
theorem tot_red (w : Way) : tot (redW w) ≤ tot w ∧ (redW w).length ≤ w.length := by
  have := tot_fold w []
  have e : tot [] = 0 := rfl
  unfold redW
  simp only [List.length_nil] at this
  omega
end Ways

/-! ## WR -/
set_option autoImplicit false
set_option linter.all false
/-! WR: sums along a way: the rows, an operator for each step. -/
namespace Ways
open K80
def sm (f : Nat → Int) : Nat → Int
  | 0 => 0
  | n + 1 => sm f n + f n
theorem sm_congr {f g : Nat → Int} : ∀ {n : Nat}, (∀ i, i < n → f i = g i) → sm f n = sm g n
  | 0, _ => rfl
  | n + 1, h => by unfold sm; rw [sm_congr fun i hi => h i (by omega), h n (by omega)]
theorem sm_add (f g : Nat → Int) : ∀ n, sm (fun i => f i + g i) n = sm f n + sm g n
  | 0 => rfl
  | n + 1 => by unfold sm; rw [sm_add f g n]; omega
theorem sm_mul (c : Int) (f : Nat → Int) : ∀ n, sm (fun i => c * f i) n = c * sm f n
  | 0 => by unfold sm; simp
  | n + 1 => by unfold sm; rw [sm_mul c f n, Int.mul_add]
theorem sm_zero {f : Nat → Int} : ∀ {n : Nat}, (∀ i, i < n → f i = 0) → sm f n = 0
  | 0, _ => rfl
  | n + 1, h => by unfold sm; rw [sm_zero fun i hi => h i (by omega), h n (by omega)]; rfl
theorem sm_shift (f : Nat → Int) : ∀ n, sm f (n + 1) = f 0 + sm (fun i => f (i + 1)) n
  | 0 => by unfold sm sm; omega
  | n + 1 => by
    have h := sm_shift f n
    show sm f (n + 1) + f (n + 1) = f 0 + (sm (fun i => f (i + 1)) n + f (n + 1))
    rw [h]
    omega
/-- over a triangle, either way -/
theorem sm_tri (F : Nat → Nat → Int) : ∀ p : Nat, sm (fun j => sm (F j) (p - j + 1)) (p + 1) = sm (fun n => sm (fun j => F j (n - j)) (n + 1)) (p + 1)
  | 0 => by unfold sm sm sm; rfl
  | p + 1 => by
    have ih := sm_tri F p
    have e1 : sm (fun j => sm (F j) (p + 1 - j + 1)) (p + 1) = sm (fun j => sm (F j) (p - j + 1)) (p + 1) + sm (fun j => F j (p + 1 - j)) (p + 1) := by
      rw [← sm_add]
      refine sm_congr fun j hj => ?_
      have e : p + 1 - j + 1 = (p - j + 1) + 1 := by omega
      have e2 : p - j + 1 = p + 1 - j := by omega
      rw [e]
      show sm (F j) (p - j + 1) + F j (p - j + 1) = _
      rw [e2]
    show sm (fun j => sm (F j) (p + 1 - j + 1)) (p + 1) + sm (F (p + 1)) (p + 1 - (p + 1) + 1) = sm (fun n => sm (fun j => F j (n - j)) (n + 1)) (p + 1) + (sm (fun j => F j (p + 1 - j)) (p + 1) + F (p + 1) (p + 1 - (p + 1)))
    rw [e1, ih, Nat.sub_self]
    show _ + (0 + F (p + 1) 0) = _
    omega
theorem ch_self : ∀ n, ch n n = 1
  | 0 => rfl
  | n + 1 => by rw [ch_succ, ch_self n, ch_zero (by omega)]
theorem ch_fac : ∀ a b : Nat, ch (a + b) b * (fac a * fac b) = fac (a + b)
  | a, 0 => by rw [ch_n0]; show 1 * (fac a * 1) = fac a; omega
  | a, b + 1 => by
    have h := ch_absorb (a + b) b
    have ih := ch_fac a b
    show ch (a + b + 1) (b + 1) * (fac a * fac (b + 1)) = fac (a + b + 1)
    rw [fac_succ b, fac_succ (a + b)]
    calc ch (a + b + 1) (b + 1) * (fac a * (fac b * (b + 1))) = (ch (a + b + 1) (b + 1) * (b + 1)) * (fac a * fac b) := by
          rw [← Nat.mul_assoc (fac a), Nat.mul_comm (fac a * fac b) (b + 1), ← Nat.mul_assoc]
      _ = (ch (a + b) b * (a + b + 1)) * (fac a * fac b) := by rw [h]
      _ = (ch (a + b) b * (fac a * fac b)) * (a + b + 1) := by rw [Nat.mul_assoc, Nat.mul_comm (a + b + 1), ← Nat.mul_assoc]
      _ = fac (a + b) * (a + b + 1) := by rw [ih]
/-- the parts of three -/
theorem ch_tri (a i j : Nat) : ch (a + i + j) j * ch (a + i) i = ch (a + i + j) (i + j) * ch (i + j) j := by
  have h1 := ch_fac (a + i) j
  have h2 := ch_fac a i
  have h3 := ch_fac a (i + j)
  have h4 := ch_fac i j
  have e : a + (i + j) = a + i + j := by omega
  rw [e] at h3
  have pos : 0 < fac a * fac i * fac j := Nat.mul_pos (Nat.mul_pos (fac_pos a) (fac_pos i)) (fac_pos j)
  refine Nat.eq_of_mul_eq_mul_right pos ?_
  calc ch (a + i + j) j * ch (a + i) i * (fac a * fac i * fac j) = ch (a + i + j) j * ((ch (a + i) i * (fac a * fac i)) * fac j) := by simp only [Nat.mul_assoc]
    _ = fac (a + i + j) := by rw [h2, h1]
    _ = ch (a + i + j) (i + j) * (fac a * (ch (i + j) j * (fac i * fac j))) := by rw [h4, h3]
    _ = ch (a + i + j) (i + j) * ch (i + j) j * (fac a * fac i * fac j) := by
      rw [Nat.mul_assoc (ch (a + i + j) (i + j)), ← Nat.mul_assoc (fac a), Nat.mul_comm (fac a) (ch (i + j) j), Nat.mul_assoc (ch (i + j) j), Nat.mul_assoc (fac a)]
theorem binom (a b : Int) : ∀ n : Nat, sm (fun j => (ch n j : Int) * (b ^ j * a ^ (n - j))) (n + 1) = (a + b) ^ n
  | 0 => by unfold sm sm; rw [ch_n0]; simp
  | n + 1 => by
    have ih := binom a b n
    rw [Int.pow_succ, ← ih, Int.mul_add, ← Int.mul_comm a, ← Int.mul_comm b, ← sm_mul, ← sm_mul]
    rw [sm_shift]
    have e1 : sm (fun i => (ch (n + 1) (i + 1) : Int) * (b ^ (i + 1) * a ^ (n + 1 - (i + 1)))) (n + 1) = sm (fun i => b * ((ch n i : Int) * (b ^ i * a ^ (n - i)))) (n + 1) + sm (fun i => (ch n (i + 1) : Int) * (b ^ (i + 1) * a ^ (n - i))) (n + 1) := by
      rw [← sm_add]
      refine sm_congr fun i hi => ?_
      have e : n + 1 - (i + 1) = n - i := by omega
      rw [e, ch_succ, Int.natCast_add, Int.add_mul, Int.pow_succ]
      congr 1
      rw [Int.mul_left_comm b, Int.mul_comm (b ^ i) b, Int.mul_assoc]
    have e2 : sm (fun i => a * ((ch n i : Int) * (b ^ i * a ^ (n - i)))) (n + 1) = a ^ (n + 1) + sm (fun i => (ch n (i + 1) : Int) * (b ^ (i + 1) * a ^ (n - i))) (n + 1) := by
      rw [sm_shift]
      have l : sm (fun i => (ch n (i + 1) : Int) * (b ^ (i + 1) * a ^ (n - i))) (n + 1) = sm (fun i => (ch n (i + 1) : Int) * (b ^ (i + 1) * a ^ (n - i))) n := by
        show sm _ n + (ch n (n + 1) : Int) * _ = _
        rw [ch_zero (by omega)]
        simp
      rw [l]
      congr 1
      · rw [ch_n0, Int.pow_succ, Int.mul_comm (a ^ n)]; simp
      · refine sm_congr fun i hi => ?_
        have e : n - i = (n - (i + 1)) + 1 := by omega
        have ep : a ^ (n - (i + 1) + 1) = a ^ (n - (i + 1)) * a := Int.pow_succ ..
        rw [e, ep]
        simp only [Int.mul_assoc, Int.mul_left_comm, Int.mul_comm]
    rw [e1, e2, ch_n0]
    have e3 : ((1 : Nat) : Int) * (b ^ 0 * a ^ (n + 1 - 0)) = a ^ (n + 1) := by simp
    rw [e3]
    omega
end Ways

/-! ## WS -/
set_option autoImplicit false
set_option linter.all false
/-! WS: the operator of a step, rows. -/
namespace Ways
open K80
/-- the j letters ahead of p are all l -/
def runs (word : List Int) (l : Int) (p : Nat) : Nat → Bool
  | 0 => true
  | j + 1 => runs word l p j && decide (word.getD (p - (j + 1)) 0 = l)
theorem runs_add (word : List Int) (l : Int) (p j : Nat) : ∀ i, runs word l p (j + i) = (runs word l p j && runs word l (p - j) i)
  | 0 => by unfold runs; simp
  | i + 1 => by
    show (runs word l p (j + i) && decide (word.getD (p - (j + i + 1)) 0 = l)) = (runs word l p j && (runs word l (p - j) i && decide (word.getD (p - j - (i + 1)) 0 = l)))
    have e : p - (j + i + 1) = p - j - (i + 1) := by omega
    rw [runs_add word l p j i, e, Bool.and_assoc]
def wt (word : List Int) (l s : Int) (p j : Nat) : Int := if runs word l p j = true then (ch p j : Int) * s ^ j else 0
def opT (word : List Int) (l s : Int) (r : Nat → Int) (p : Nat) : Int := sm (fun j => wt word l s p j * r (p - j)) (p + 1)
theorem op_op (word : List Int) (l a b : Int) (r : Nat → Int) (p : Nat) : opT word l b (opT word l a r) p = opT word l (a + b) r p := by
  have h1 : opT word l b (opT word l a r) p = sm (fun j => sm (fun i => wt word l b p j * (wt word l a (p - j) i * r (p - j - i))) (p - j + 1)) (p + 1) := by
    unfold opT
    refine sm_congr fun j hj => ?_
    rw [← sm_mul]
  rw [h1, sm_tri (fun j i => wt word l b p j * (wt word l a (p - j) i * r (p - j - i)))]
  unfold opT
  refine sm_congr fun n hn => ?_
  have h2 : sm (fun j => wt word l b p j * (wt word l a (p - j) (n - j) * r (p - j - (n - j)))) (n + 1) = sm (fun j => ((if runs word l p n = true then (ch p n : Int) else 0) * r (p - n)) * ((ch n j : Int) * (b ^ j * a ^ (n - j)))) (n + 1) := by
    refine sm_congr fun j hj => ?_
    have ej : p - j - (n - j) = p - n := by omega
    rw [ej]
    have er := runs_add word l p j (n - j)
    have en : j + (n - j) = n := by omega
    rw [en] at er
    have et := ch_tri (p - n) (n - j) j
    have e1 : p - n + (n - j) + j = p := by omega
    have e2 : p - n + (n - j) = p - j := by omega
    have e3 : n - j + j = n := by omega
    rw [e1, e2, e3] at et
    have et' : (ch p j : Int) * (ch (p - j) (n - j) : Int) = (ch p n : Int) * (ch n j : Int) := by rw [← Int.natCast_mul, ← Int.natCast_mul, et]
    unfold wt
    rw [er]
    cases c1 : runs word l p j with
    | false => simp
    | true =>
      cases c2 : runs word l (p - j) (n - j) with
      | false => simp
      | true =>
        simp only [Bool.and_true, if_true]
        calc (ch p j : Int) * b ^ j * ((ch (p - j) (n - j) : Int) * a ^ (n - j) * r (p - n)) = ((ch p j : Int) * (ch (p - j) (n - j) : Int)) * (b ^ j * a ^ (n - j)) * r (p - n) := by
              simp only [Int.mul_assoc, Int.mul_left_comm]
          _ = ((ch p n : Int) * (ch n j : Int)) * (b ^ j * a ^ (n - j)) * r (p - n) := by rw [et']
          _ = (ch p n : Int) * r (p - n) * ((ch n j : Int) * (b ^ j * a ^ (n - j))) := by
              simp only [Int.mul_assoc, Int.mul_left_comm, Int.mul_comm]
  rw [h2, sm_mul, binom a b n]
  unfold wt
  split
  · rw [Int.mul_assoc, Int.mul_comm (r (p - n)), ← Int.mul_assoc]
  · simp
theorem op_zero (word : List Int) (l : Int) (r : Nat → Int) (p : Nat) : opT word l 0 r p = r p := by
  unfold opT
  rw [sm_shift, sm_zero fun i hi => ?_]
  · unfold wt
    rw [if_pos (show runs word l p 0 = true from rfl), ch_n0]
    simp
  · unfold wt
    split
    · rw [Int.pow_succ]; simp
    · simp
def e0 (p : Nat) : Int := if p = 0 then 1 else 0
def rowFrom (word : List Int) (r : Nat → Int) (w : Way) : Nat → Int := w.foldl (fun r x => opT word x.1 x.2 r) r
def rowF (word : List Int) (w : Way) : Nat → Int := rowFrom word e0 w
theorem row_app (word : List Int) (r : Nat → Int) (a b : Way) : rowFrom word r (a ++ b) = rowFrom word (rowFrom word r a) b := List.foldl_append ..
theorem row_step (word : List Int) (r : Nat → Int) (f : Way) (x : Int × Int) : rowFrom word r (stepW f x) = opT word x.1 x.2 (rowFrom word r f) := by
  have hz : ∀ (l s : Int) (q : Nat → Int), s = 0 → opT word l s q = q := fun l s q h => by
    subst h; funext p; exact op_zero word l q p
  rcases snoc_cases f with rfl | ⟨g, y, rfl⟩
  · rw [step_nil]
    split
    · rw [hz _ _ _ (by assumption)]
    · rfl
  · rw [step_snoc]
    have e : rowFrom word r (g ++ [y]) = opT word y.1 y.2 (rowFrom word r g) := by rw [row_app]; rfl
    split
    · rename_i h
      have e2 : opT word x.1 x.2 (rowFrom word r (g ++ [y])) = opT word x.1 (x.2 + y.2) (rowFrom word r g) := by
        rw [e, h]
        funext p
        rw [op_op, Int.add_comm]
      rw [e2]
      split
      · rename_i h0
        rw [hz _ _ _ h0]
      · rw [row_app]; rfl
    · split
      · rename_i h0
        rw [hz _ _ _ h0]
      · rw [row_app]; rfl
theorem row_fold (word : List Int) (r : Nat → Int) (w : Way) : ∀ f : Way, rowFrom word r (w.foldl stepW f) = rowFrom word (rowFrom word r f) w := by
  induction w with
  | nil => exact fun _ => rfl
  | cons x w ih =>
    intro f
    show rowFrom word r (w.foldl stepW (stepW f x)) = rowFrom word (opT word x.1 x.2 (rowFrom word r f)) w
    rw [ih, row_step]
/-- what is left has the same sums -/
theorem row_red (word : List Int) (w : Way) : rowF word (redW w) = rowF word w := row_fold word e0 w []
theorem runs_congr {word word' : List Int} {l : Int} {p : Nat} (h : ∀ i, i < p → word.getD i 0 = word'.getD i 0) : ∀ j, j ≤ p → runs word l p j = runs word' l p j
  | 0, _ => rfl
  | j + 1, hj => by
    show (runs word l p j && _) = (runs word' l p j && _)
    rw [runs_congr h j (by omega), h (p - (j + 1)) (by omega)]
theorem op_congr {word word' : List Int} {l s : Int} {r r' : Nat → Int} {m : Nat} (h : ∀ i, i < m → word.getD i 0 = word'.getD i 0) (hr : ∀ p, p ≤ m → r p = r' p) : ∀ p, p ≤ m → opT word l s r p = opT word' l s r' p := fun p hp => by
  unfold opT
  refine sm_congr fun j hj => ?_
  rw [hr (p - j) (by omega)]
  unfold wt
  rw [runs_congr (fun i hi => h i (by omega)) j (by omega)]
theorem row_congr {word word' : List Int} {m : Nat} (h : ∀ i, i < m → word.getD i 0 = word'.getD i 0) (w : Way) : ∀ {r r' : Nat → Int}, (∀ p, p ≤ m → r p = r' p) → ∀ p, p ≤ m → rowFrom word r w p = rowFrom word' r' w p := by
  induction w with
  | nil => exact fun hr => hr
  | cons x w ih => exact fun hr => ih (op_congr h hr)
theorem row_take (word : List Int) (w : Way) {m p : Nat} (hp : p ≤ m) : rowF (word.take m) w p = rowF word w p := by
  refine row_congr (m := m) (fun i hi => ?_) w (fun _ _ => rfl) p hp
  rw [List.getD_eq_getElem?_getD, List.getD_eq_getElem?_getD, List.getElem?_take, if_pos hi]
/-! ### sizes -/
theorem sm_abs (f : Nat → Int) : ∀ n, (sm f n).natAbs ≤ (sm (fun i => ((f i).natAbs : Int)) n).natAbs ∧ 0 ≤ sm (fun i => ((f i).natAbs : Int)) n
  | 0 => ⟨Nat.le_refl _, Int.le_refl _⟩
  | n + 1 => by
    obtain ⟨h1, h2⟩ := sm_abs f n
    have := Int.natAbs_add_le (sm f n) (f n)
    show (sm f n + f n).natAbs ≤ (sm (fun i => ((f i).natAbs : Int)) n + ((f n).natAbs : Int)).natAbs ∧ 0 ≤ sm (fun i => ((f i).natAbs : Int)) n + ((f n).natAbs : Int)
    omega
theorem sm_le {f g : Nat → Int} : ∀ {n : Nat}, (∀ i, i < n → f i ≤ g i) → sm f n ≤ sm g n
  | 0, _ => Int.le_refl _
  | n + 1, h => by
    have h1 := sm_le fun i hi => h i (Nat.lt_succ_of_lt hi)
    have h2 := h n (Nat.lt_succ_self n)
    show sm f n + f n ≤ sm g n + g n
    omega
theorem op_le {word : List Int} {l s : Int} {r : Nat → Int} {t : Nat} (hr : ∀ p, (r p).natAbs ≤ t ^ p) (p : Nat) : (opT word l s r p).natAbs ≤ (t + s.natAbs) ^ p := by
  obtain ⟨h1, h2⟩ := sm_abs (fun j => wt word l s p j * r (p - j)) (p + 1)
  have h3 : sm (fun j => (((wt word l s p j * r (p - j)).natAbs : Nat) : Int)) (p + 1) ≤ sm (fun j => (ch p j : Int) * ((s.natAbs : Int) ^ j * (t : Int) ^ (p - j))) (p + 1) := by
    refine sm_le fun j hj => ?_
    have hw : (wt word l s p j).natAbs ≤ ch p j * s.natAbs ^ j := by
      unfold wt
      split
      · rw [Int.natAbs_mul, Int.natAbs_pow]; simp
      · simp
    have : (wt word l s p j * r (p - j)).natAbs ≤ ch p j * s.natAbs ^ j * t ^ (p - j) := by
      rw [Int.natAbs_mul]
      exact Nat.mul_le_mul hw (hr _)
    have e : (ch p j : Int) * ((s.natAbs : Int) ^ j * (t : Int) ^ (p - j)) = ((ch p j * s.natAbs ^ j * t ^ (p - j) : Nat) : Int) := by
      rw [Int.natCast_mul, Int.natCast_mul, Int.natCast_pow, Int.natCast_pow, Int.mul_assoc]
    rw [e]
    exact Int.ofNat_le.mpr this
  rw [binom] at h3
  have e : ((t : Int) + (s.natAbs : Int)) ^ p = (((t + s.natAbs) ^ p : Nat) : Int) := by rw [Int.natCast_pow, Int.natCast_add]
  rw [e] at h3
  unfold opT
  omega
theorem row_le (word : List Int) (w : Way) : ∀ {r : Nat → Int} {t : Nat}, (∀ p, (r p).natAbs ≤ t ^ p) → ∀ p, (rowFrom word r w p).natAbs ≤ (t + tot w) ^ p := by
  induction w with
  | nil => exact fun h p => h p
  | cons x w ih =>
    intro r t h p
    have := ih (op_le (word := word) (l := x.1) (s := x.2) h) p
    show (rowFrom word (opT word x.1 x.2 r) w p).natAbs ≤ (t + (x.2.natAbs + tot w)) ^ p
    rw [← Nat.add_assoc]; exact this
theorem rowF_le (word : List Int) (w : Way) (p : Nat) : (rowF word w p).natAbs ≤ (tot w) ^ p := by
  have := row_le word w (r := e0) (t := 0) (fun q => by
    unfold e0
    cases q with
    | zero => simp
    | succ q => simp) p
  rw [Nat.zero_add] at this
  exact this
end Ways

/-! ## WX -/
set_option autoImplicit false
set_option linter.all false
/-! WX: a reduced way's own word; unlike ways have unlike sums. -/
namespace Ways
open K80
def lettersW (w : Way) : List Int := w.map (·.1)
def prodW (w : Way) : Int := w.foldl (fun a x => a * x.2) 1
theorem prod_snoc (g : Way) (y : Int × Int) : prodW (g ++ [y]) = prodW g * y.2 := by unfold prodW; rw [List.foldl_append]; rfl
theorem letters_snoc (g : Way) (y : Int × Int) : lettersW (g ++ [y]) = lettersW g ++ [y.1] := by unfold lettersW; rw [List.map_append]; rfl
theorem letters_len (w : Way) : (lettersW w).length = w.length := List.length_map ..
def Apart (word : List Int) : Prop := ∀ i, i + 1 < word.length → word.getD i 0 ≠ word.getD (i + 1) 0
theorem getD_app_left {a b : List Int} {i : Nat} (h : i < a.length) : (a ++ b).getD i 0 = a.getD i 0 := by
  rw [List.getD_eq_getElem?_getD, List.getD_eq_getElem?_getD, List.getElem?_append_left h]
theorem getD_app_at (a : List Int) (x : Int) : (a ++ [x]).getD a.length 0 = x := by
  rw [List.getD_eq_getElem?_getD, List.getElem?_append_right (Nat.le_refl _), Nat.sub_self]; rfl
theorem apart_snoc {a : List Int} {x : Int} (h : Apart a) (hx : ∀ k, a.length = k + 1 → a.getD k 0 ≠ x) : Apart (a ++ [x]) := fun i hi => by
  rw [List.length_append, List.length_singleton] at hi
  by_cases c : i + 1 < a.length
  · rw [getD_app_left (by omega), getD_app_left c]; exact h i c
  · have e : a.length = i + 1 := by omega
    rw [getD_app_left (by omega), ← e, getD_app_at]
    exact hx i e
theorem red_apart {v : Way} (h : Red v) : Apart (lettersW v) ∧ prodW v ≠ 0 := by
  induction h with
  | nil => exact ⟨fun i hi => absurd hi (by simp [lettersW]), by decide⟩
  | @one x hx =>
    refine ⟨fun i hi => absurd hi (by simp [lettersW]), ?_⟩
    show 1 * x.2 ≠ 0
    omega
  | @snoc f y x h1 h2 h3 ih =>
    obtain ⟨i1, i2⟩ := ih
    rw [letters_snoc, prod_snoc]
    refine ⟨apart_snoc i1 fun k hk => ?_, fun z => ?_⟩
    · have e : (lettersW f).length = k := by
        rw [letters_snoc, List.length_append, List.length_singleton] at hk
        omega
      rw [letters_snoc, ← e, getD_app_at]
      exact h3
    · rcases Int.mul_eq_zero.mp z with z | z
      · exact i2 z
      · exact h2 z
theorem ch_one : ∀ n, ch n 1 = n
  | 0 => rfl
  | n + 1 => by rw [ch_succ, ch_n0, ch_one n]; omega
theorem op_apart {word : List Int} (hA : Apart word) {l s : Int} (r : Nat → Int) {p : Nat} (h0 : 0 < p) (hp : p ≤ word.length) : opT word l s r p = r p + (if word.getD (p - 1) 0 = l then (p : Int) * s * r (p - 1) else 0) := by
  obtain ⟨q, rfl⟩ : ∃ q, p = q + 1 := ⟨p - 1, by omega⟩
  unfold opT
  rw [sm_shift, sm_shift, sm_zero (f := fun i => wt word l s (q + 1) (i + 1 + 1) * r (q + 1 - (i + 1 + 1))) fun i hi => ?_]
  · have e0' : wt word l s (q + 1) 0 = 1 := by
      unfold wt
      rw [if_pos (show runs word l (q + 1) 0 = true from rfl), ch_n0]; simp
    rw [e0']
    have e1 : wt word l s (q + 1) (0 + 1) = if word.getD (q + 1 - 1) 0 = l then ((q + 1 : Nat) : Int) * s else 0 := by
      unfold wt
      have er : runs word l (q + 1) (0 + 1) = decide (word.getD (q + 1 - 1) 0 = l) := by
        show (true && _) = _
        rw [Bool.true_and]
      rw [er, ch_one]
      have ep : s ^ (0 + 1) = s := by rw [Int.pow_succ]; simp
      rw [ep]
      simp only [decide_eq_true_eq]
    rw [e1]
    split
    · simp
    · simp
  · have hz : runs word l (q + 1) (i + 1 + 1) = false := by
      have e : i + 1 + 1 = 2 + i := by omega
      rw [e, runs_add]
      have h2 : runs word l (q + 1) 2 = false := by
        show ((true && decide (word.getD (q + 1 - (0 + 1)) 0 = l)) && decide (word.getD (q + 1 - (1 + 1)) 0 = l)) = false
        by_cases c : word.getD (q + 1 - (0 + 1)) 0 = l
        · by_cases c2 : word.getD (q + 1 - (1 + 1)) 0 = l
          · exfalso
            have := hA (q - 1) (by omega)
            have e1 : q + 1 - (0 + 1) = q - 1 + 1 := by omega
            have e2 : q + 1 - (1 + 1) = q - 1 := by omega
            rw [e1] at c
            rw [e2] at c2
            exact this (c2.trans c.symm)
          · rw [decide_eq_false c2, Bool.and_false]
        · rw [decide_eq_false c]; rfl
      rw [h2]; rfl
    unfold wt
    rw [hz]
    simp
theorem own_row {word : List Int} (hA : Apart word) : ∀ (n : Nat) (f : Way), f.length = n → n ≤ word.length → (∀ i, i < n → word.getD i 0 = (lettersW f).getD i 0) → rowF word f n = prodW f * (fac n : Int) ∧ ∀ p, n < p → p ≤ word.length → rowF word f p = 0
  | 0, f, hf, _, _ => by
    have e := List.eq_nil_of_length_eq_zero hf
    subst e
    refine ⟨rfl, fun p h _ => ?_⟩
    show e0 p = 0
    unfold e0
    rw [if_neg (by omega)]
  | n + 1, f, hf, hn, hw => by
    rcases snoc_cases f with rfl | ⟨g, y, rfl⟩
    · simp at hf
    · have hg : g.length = n := by
        rw [List.length_append, List.length_singleton] at hf
        omega
      have hlg : (lettersW g).length = n := by rw [letters_len]; exact hg
      obtain ⟨i1, i2⟩ := own_row hA n g hg (by omega) fun i hi => by
        rw [hw i (by omega), letters_snoc, getD_app_left (by omega)]
      have hy : word.getD n 0 = y.1 := by
        have := hw n (by omega)
        rw [letters_snoc, ← hlg, getD_app_at] at this
        rw [← hlg]; exact this
      have e : ∀ p, rowF word (g ++ [y]) p = opT word y.1 y.2 (rowF word g) p := fun p => by
        unfold rowF
        rw [row_app]; rfl
      refine ⟨?_, fun p h1 h2 => ?_⟩
      · rw [e, op_apart hA _ (by omega) hn, i2 (n + 1) (by omega) hn, Nat.add_sub_cancel, if_pos hy, i1, prod_snoc, fac_succ, Int.natCast_mul]
        rw [Int.zero_add]
        simp only [Int.mul_assoc, Int.mul_left_comm, Int.mul_comm]
      · rw [e, op_apart hA _ (by omega) h2, i2 p (by omega) h2, i2 (p - 1) (by omega) (by omega)]
        simp
/-- the first of the law's two questions: the own word of what is left -/
theorem own_word (w : Way) : rowF (lettersW (redW w)) w (redW w).length = prodW (redW w) * (fac (redW w).length : Int) := by
  have hr := red_apart (red_red w)
  rw [← row_red]
  exact (own_row hr.1 (redW w).length (redW w) rfl (by rw [letters_len]; exact Nat.le_refl _) fun i _ => rfl).1
/-- one letter more -/
theorem own_more (w : Way) {x : Int} (hx : ∀ k, (lettersW (redW w)).length = k + 1 → (lettersW (redW w)).getD k 0 ≠ x) : rowF (lettersW (redW w) ++ [x]) w ((redW w).length + 1) = 0 := by
  have hr := red_apart (red_red w)
  have hA := apart_snoc hr.1 hx
  have hl : (lettersW (redW w) ++ [x]).length = (redW w).length + 1 := by rw [List.length_append, letters_len]; rfl
  rw [← row_red]
  exact (own_row hA (redW w).length (redW w) rfl (by omega) fun i hi => by rw [getD_app_left (by rw [letters_len]; exact hi)]).2 _ (by omega) (by omega)
/-- unlike ways have unlike sums along the letters of what is left -/
theorem unlike_rows {a b : Way} (h : redW (a ++ backW b) ≠ []) : ∃ p, p ≤ (redW (a ++ backW b)).length ∧ rowF (lettersW (redW (a ++ backW b))) a p ≠ rowF (lettersW (redW (a ++ backW b))) b p := by
  refine Classical.byContradiction fun no => ?_
  have same : ∀ p, p ≤ (redW (a ++ backW b)).length → rowF (lettersW (redW (a ++ backW b))) a p = rowF (lettersW (redW (a ++ backW b))) b p := fun p hp => Classical.byContradiction fun c => no ⟨p, hp, c⟩
  have h1 := own_word (a ++ backW b)
  have hr := red_apart (red_red (a ++ backW b))
  generalize hv : redW (a ++ backW b) = v at *
  have h2 : rowF (lettersW v) (a ++ backW b) v.length = rowF (lettersW v) (b ++ backW b) v.length := by
    unfold rowF
    rw [row_app, row_app]
    exact row_congr (m := v.length) (fun _ _ => rfl) (backW b) same v.length (Nat.le_refl _)
  have h3 : rowF (lettersW v) (b ++ backW b) v.length = e0 v.length := by
    rw [← row_red, red_same_nil rfl]; rfl
  have h4 : e0 v.length = 0 := by
    unfold e0
    rw [if_neg fun z => h (List.eq_nil_of_length_eq_zero z)]
  rw [h2, h3, h4] at h1
  rcases Int.mul_eq_zero.mp h1.symm with z | z
  · exact hr.2 z
  · have := fac_pos v.length
    omega
end Ways

/-! ## WY -/
set_option autoImplicit false
set_option linter.all false
/-! WY: a step's operator, cut by where a run of letters begins. -/
namespace Ways
open K80
theorem sm_rev : ∀ (n : Nat) (f : Nat → Int), sm f n = sm (fun i => f (n - 1 - i)) n
  | 0, _ => rfl
  | n + 1, f => by
    rw [sm_shift]
    show f 0 + sm (fun i => f (i + 1)) n = sm (fun i => f (n + 1 - 1 - i)) n + f (n + 1 - 1 - n)
    rw [sm_rev n (fun i => f (i + 1))]
    have e : sm (fun i => f (n + 1 - 1 - i)) n = sm (fun i => f (n - 1 - i + 1)) n := sm_congr fun i hi => by
      have : n + 1 - 1 - i = n - 1 - i + 1 := by omega
      rw [this]
    have e2 : n + 1 - 1 - n = 0 := by omega
    rw [e, e2]
    omega
def partT (word : List Int) (l s : Int) (r : Nat → Int) (b p : Nat) : Int := r p + sm (fun i => if i < p then wt word l s p (p - i) * r i else 0) b
theorem part_zero (word : List Int) (l s : Int) (r : Nat → Int) (p : Nat) : partT word l s r 0 p = r p := by unfold partT; show r p + 0 = r p; omega
theorem part_succ (word : List Int) (l s : Int) (r : Nat → Int) (b p : Nat) : partT word l s r (b + 1) p = partT word l s r b p + (if b < p then wt word l s p (p - b) * r b else 0) := by
  unfold partT
  exact (Int.add_assoc _ _ _).symm
theorem sm_stop {f : Nat → Int} {m : Nat} (h : ∀ i, m ≤ i → f i = 0) : ∀ k, sm f (m + k) = sm f m
  | 0 => rfl
  | k + 1 => by
    show sm f (m + k) + f (m + k) = _
    rw [sm_stop h k, h (m + k) (by omega)]; omega
theorem wt_zero (word : List Int) (l s : Int) (p : Nat) : wt word l s p 0 = 1 := by
  unfold wt
  rw [if_pos (show runs word l p 0 = true from rfl), ch_n0]; simp
theorem part_full (word : List Int) (l s : Int) (r : Nat → Int) {p n : Nat} (h : p ≤ n) : partT word l s r (n + 1) p = opT word l s r p := by
  unfold partT opT
  have e : n + 1 = p + (n + 1 - p) := by omega
  rw [e, sm_stop (fun i hi => by rw [if_neg (by omega)]), sm_shift, wt_zero, sm_rev p]
  have e2 : sm (fun i => if p - 1 - i < p then wt word l s p (p - (p - 1 - i)) * r (p - 1 - i) else 0) p = sm (fun i => wt word l s p (i + 1) * r (p - (i + 1))) p := sm_congr fun i hi => by
    have h1 : p - (p - 1 - i) = i + 1 := by omega
    have h2 : p - 1 - i = p - (i + 1) := by omega
    rw [if_pos (by omega), h1, h2]
  rw [e2]
  simp
theorem part_le {word : List Int} {l s : Int} {r : Nat → Int} {t : Nat} (hr : ∀ p, (r p).natAbs ≤ t ^ p) (b p : Nat) : (partT word l s r b p).natAbs ≤ (t + s.natAbs) ^ p := by
  -- the terms' sizes, all of them
  have hw : ∀ j, (wt word l s p j).natAbs ≤ ch p j * s.natAbs ^ j := fun j => by
    unfold wt
    split
    · rw [Int.natAbs_mul, Int.natAbs_pow]; simp
    · simp
  have hterm : ∀ i, ((if i < p then wt word l s p (p - i) * r i else 0 : Int).natAbs : Int) ≤ if i < p then (ch p (p - i) : Int) * ((s.natAbs : Int) ^ (p - i) * (t : Int) ^ i) else 0 := fun i => by
    split
    · have := Nat.mul_le_mul (hw (p - i)) (hr i)
      rw [← Int.natAbs_mul] at this
      have e : (ch p (p - i) : Int) * ((s.natAbs : Int) ^ (p - i) * (t : Int) ^ i) = ((ch p (p - i) * s.natAbs ^ (p - i) * t ^ i : Nat) : Int) := by
        rw [Int.natCast_mul, Int.natCast_mul, Int.natCast_pow, Int.natCast_pow, Int.mul_assoc]
      rw [e]
      exact Int.ofNat_le.mpr this
    · simp
  have hpos : ∀ i, (0 : Int) ≤ if i < p then (ch p (p - i) : Int) * ((s.natAbs : Int) ^ (p - i) * (t : Int) ^ i) else 0 := fun i => Int.le_trans (by omega) (hterm i)
  have hmono : ∀ k m, sm (fun i => if i < p then (ch p (p - i) : Int) * ((s.natAbs : Int) ^ (p - i) * (t : Int) ^ i) else 0) m ≤ sm (fun i => if i < p then (ch p (p - i) : Int) * ((s.natAbs : Int) ^ (p - i) * (t : Int) ^ i) else 0) (m + k) := fun k m => by
    induction k with
    | zero => exact Int.le_refl _
    | succ k ih =>
      refine Int.le_trans ih ?_
      exact Int.le_add_of_nonneg_right (hpos (m + k))
  have hcap : sm (fun i => if i < p then (ch p (p - i) : Int) * ((s.natAbs : Int) ^ (p - i) * (t : Int) ^ i) else 0) b ≤ sm (fun i => if i < p then (ch p (p - i) : Int) * ((s.natAbs : Int) ^ (p - i) * (t : Int) ^ i) else 0) p := by
    have h1 := hmono p b
    have h2 := sm_stop (f := fun i => if i < p then (ch p (p - i) : Int) * ((s.natAbs : Int) ^ (p - i) * (t : Int) ^ i) else 0) (m := p) (fun i hi => by rw [if_neg (by omega)]) b
    rw [Nat.add_comm b p, h2] at h1
    exact h1
  obtain ⟨a1, a2⟩ := sm_abs (fun i => if i < p then wt word l s p (p - i) * r i else 0) b
  have a3 := sm_le (n := b) fun i _ => hterm i
  have hall : (t : Int) ^ p + sm (fun i => if i < p then (ch p (p - i) : Int) * ((s.natAbs : Int) ^ (p - i) * (t : Int) ^ i) else 0) p = (((t + s.natAbs) ^ p : Nat) : Int) := by
    have hb := binom (t : Int) (s.natAbs : Int) p
    rw [sm_shift, ch_n0] at hb
    have e1 : ((1 : Nat) : Int) * ((s.natAbs : Int) ^ 0 * (t : Int) ^ (p - 0)) = (t : Int) ^ p := by simp
    rw [e1] at hb
    rw [Int.natCast_pow, Int.natCast_add, ← hb, sm_rev p]
    congr 1
    refine sm_congr fun i hi => ?_
    have h1 : p - (p - 1 - i) = i + 1 := by omega
    have h2 : p - 1 - i = p - (i + 1) := by omega
    rw [if_pos (by omega), h1, h2]
  have hr' := hr p
  have hr2 : ((r p).natAbs : Int) ≤ (t : Int) ^ p := by
    have := Int.ofNat_le.mpr hr'
    rw [Int.natCast_pow] at this
    exact this
  have := Int.natAbs_add_le (r p) (sm (fun i => if i < p then wt word l s p (p - i) * r i else 0) b)
  unfold partT
  omega
/-- the runs that begin at b -/
theorem runs_grow {word : List Int} {l : Int} {b j : Nat} (h : runs word l (b + j) j = true) (hl : word.getD (b + j) 0 = l) : runs word l (b + (j + 1)) (j + 1) = true := by
  have e := runs_add word l (b + (j + 1)) 1 j
  have e1 : 1 + j = j + 1 := by omega
  have e2 : b + (j + 1) - 1 = b + j := by omega
  rw [e1, e2, h, Bool.and_true] at e
  rw [e]
  show (true && decide (word.getD (b + (j + 1) - (0 + 1)) 0 = l)) = true
  have e3 : b + (j + 1) - (0 + 1) = b + j := by omega
  rw [e3, hl]; simp
theorem runs_end {word : List Int} {l : Int} {b e p : Nat} (hb : b ≤ e) (he : e < p) (hl : word.getD e 0 ≠ l) : runs word l p (p - b) = false := by
  have h := runs_add word l p (p - (e + 1)) (1 + (e - b))
  have e1 : p - (e + 1) + (1 + (e - b)) = p - b := by omega
  have e2 : p - (p - (e + 1)) = e + 1 := by omega
  rw [e1, e2, runs_add word l (e + 1) 1 (e - b)] at h
  have h1 : runs word l (e + 1) 1 = false := by
    show (true && decide (word.getD (e + 1 - (0 + 1)) 0 = l)) = false
    have e3 : e + 1 - (0 + 1) = e := by omega
    rw [e3, decide_eq_false hl]; rfl
  rw [h, h1]
  simp
end Ways

/-! ## WQ -/
/-! WQ: neighbours put together in any order: what is left. Plain mathematics. -/
set_option autoImplicit false
set_option linter.all false
namespace Ways
theorem step_merge {f : Way} (h : Red f) {x y : Int × Int} (e : x.1 = y.1) : stepW (stepW f x) y = if x.2 + y.2 = 0 then f else stepW f (x.1, x.2 + y.2) := by
  obtain ⟨l, n⟩ := x
  obtain ⟨l', m⟩ := y
  have e : l = l' := e
  subst e
  show stepW (stepW f (l, n)) (l, m) = if n + m = 0 then f else stepW f (l, n + m)
  rcases snoc_cases f with rfl | ⟨g, z, rfl⟩
  · rw [step_nil, step_nil]
    have one := step_snoc [] (l, n) (l, m)
    rw [List.nil_append, List.nil_append] at one
    show stepW (if n = 0 then [] else [(l, n)]) (l, m) = if n + m = 0 then [] else if n + m = 0 then [] else [(l, n + m)]
    by_cases c : n = 0
    · rw [if_pos c, step_nil]
      show (if m = 0 then [] else [(l, m)]) = _
      by_cases c2 : m = 0
      · rw [if_pos c2, if_pos (by omega)]
      · rw [if_neg c2, if_neg (by omega), if_neg (by omega), c, Int.zero_add]
    · rw [if_neg c, one, if_pos rfl]
      show (if m + n = 0 then [] else [(l, m + n)]) = _
      rw [Int.add_comm m n]
      by_cases c2 : n + m = 0
      · rw [if_pos c2, if_pos c2]
      · rw [if_neg c2, if_neg c2]
  · obtain ⟨k, p⟩ := z
    have hp : p ≠ 0 := h.last
    rw [step_snoc, step_snoc]
    show stepW (if k = l then (if n + p = 0 then g else g ++ [(l, n + p)]) else (if n = 0 then g ++ [(k, p)] else g ++ [(k, p)] ++ [(l, n)])) (l, m) =
      if n + m = 0 then g ++ [(k, p)] else (if k = l then (if n + m + p = 0 then g else g ++ [(l, n + m + p)]) else (if n + m = 0 then g ++ [(k, p)] else g ++ [(k, p)] ++ [(l, n + m)]))
    by_cases ck : k = l
    · subst ck
      rw [if_pos rfl, if_pos rfl]
      by_cases c : n + p = 0
      · rw [if_pos c]
        have hg : stepW g (k, m) = if m = 0 then g else g ++ [(k, m)] := by
          rcases snoc_cases g with rfl | ⟨g', u, rfl⟩
          · rw [step_nil]; rfl
          · rw [step_snoc, if_neg h.apart]
        rw [hg]
        by_cases c2 : n + m = 0
        · rw [if_pos c2, if_neg (by omega)]
          have : m = p := by omega
          rw [this]
        · rw [if_neg c2]
          by_cases c3 : m = 0
          · rw [if_pos c3, if_pos (by omega)]
          · rw [if_neg c3, if_neg (by omega)]
            have : n + m + p = m := by omega
            rw [this]
      · rw [if_neg c, step_snoc, if_pos rfl]
        show (if m + (n + p) = 0 then g else g ++ [(k, m + (n + p))]) = _
        have e : m + (n + p) = n + m + p := by omega
        rw [e]
        by_cases c2 : n + m = 0
        · rw [if_pos c2, if_neg (by omega)]
          have : n + m + p = p := by omega
          rw [this]
        · rw [if_neg c2]
    · rw [if_neg ck, if_neg ck]
      by_cases c : n = 0
      · rw [if_pos c, step_snoc, if_neg ck]
        show (if m = 0 then g ++ [(k, p)] else g ++ [(k, p)] ++ [(l, m)]) = _
        by_cases c2 : m = 0
        · rw [if_pos c2, if_pos (by omega)]
        · rw [if_neg c2, if_neg (by omega), if_neg (by omega), c, Int.zero_add]
      · rw [if_neg c, step_snoc, if_pos rfl]
        show (if m + n = 0 then g ++ [(k, p)] else g ++ [(k, p)] ++ [(l, m + n)]) = _
        rw [Int.add_comm m n]
        by_cases c2 : n + m = 0
        · rw [if_pos c2, if_pos c2]
        · rw [if_neg c2, if_neg c2]
/-- where like letters stand side by side -/
def nb (v : Way) (i : Nat) : Bool := decide ((v.getD i (0, 0)).1 = (v.getD (i + 1) (0, 0)).1)
def placesW (v : Way) : List Nat := (List.range (v.length - 1)).filter (nb v)
def bothW (v : Way) (i : Nat) : Int := (v.getD i (0, 0)).2 + (v.getD (i + 1) (0, 0)).2
def putW (v : Way) (i : Nat) : Way := v.take i ++ (if bothW v i = 0 then [] else [((v.getD i (0, 0)).1, bothW v i)]) ++ v.drop (i + 2)
theorem split2 {v : Way} {i : Nat} (h : i + 1 < v.length) : v = v.take i ++ [v.getD i (0, 0), v.getD (i + 1) (0, 0)] ++ v.drop (i + 2) := by
  have e1 : v.getD i (0, 0) = v[i]'(by omega) := by rw [List.getD_eq_getElem?_getD, List.getElem?_eq_getElem (by omega)]; rfl
  have e2 : v.getD (i + 1) (0, 0) = v[i + 1]'h := by rw [List.getD_eq_getElem?_getD, List.getElem?_eq_getElem h]; rfl
  have d1 : v.drop i = v[i]'(by omega) :: v.drop (i + 1) := List.drop_eq_getElem_cons (by omega)
  have d2 : v.drop (i + 1) = v[i + 1]'h :: v.drop (i + 2) := List.drop_eq_getElem_cons h
  have t := List.take_append_drop i v
  rw [d1, d2] at t
  rw [e1, e2, List.append_assoc]
  exact t.symm
theorem fold_app (a b f : Way) : (a ++ b).foldl stepW f = b.foldl stepW (a.foldl stepW f) := List.foldl_append ..
theorem red_putW {v : Way} {i : Nat} (h : i + 1 < v.length) (e : nb v i = true) : redW (putW v i) = redW v := by
  have e' : (v.getD i (0, 0)).1 = (v.getD (i + 1) (0, 0)).1 := of_decide_eq_true e
  have s := split2 h
  have r2 : redW v = (v.drop (i + 2)).foldl stepW (stepW (stepW (redW (v.take i)) (v.getD i (0, 0))) (v.getD (i + 1) (0, 0))) := by
    conv => lhs; rw [s]
    unfold redW
    rw [fold_app, fold_app]; rfl
  rw [r2, step_merge (red_red _) e']
  unfold putW redW
  rw [fold_app, fold_app]
  show (v.drop (i + 2)).foldl stepW ((if bothW v i = 0 then [] else [((v.getD i (0, 0)).1, bothW v i)]).foldl stepW (redW (v.take i))) = (v.drop (i + 2)).foldl stepW (if bothW v i = 0 then redW (v.take i) else stepW (redW (v.take i)) ((v.getD i (0, 0)).1, bothW v i))
  by_cases c : bothW v i = 0
  · rw [if_pos c, if_pos c]; rfl
  · rw [if_neg c, if_neg c]; rfl
theorem put_len {v : Way} {i : Nat} (h : i + 1 < v.length) : (putW v i).length + 1 ≤ v.length := by
  unfold putW
  rw [List.length_append, List.length_append, List.length_take, List.length_drop]
  have : (if bothW v i = 0 then ([] : Way) else [((v.getD i (0, 0)).1, bothW v i)]).length ≤ 1 := by split <;> simp
  omega
theorem mem_places {v : Way} {i : Nat} (h : i ∈ placesW v) : i + 1 < v.length ∧ nb v i = true := by
  unfold placesW at h
  obtain ⟨h1, h2⟩ := List.mem_filter.mp h
  have := List.mem_range.mp h1
  exact ⟨by omega, h2⟩
theorem getD_l {a b : Way} {i : Nat} (h : i < a.length) : (a ++ b).getD i (0, 0) = a.getD i (0, 0) := by
  rw [List.getD_eq_getElem?_getD, List.getD_eq_getElem?_getD, List.getElem?_append_left h]
theorem getD_r {a : Way} {x : Int × Int} : (a ++ [x]).getD a.length (0, 0) = x := by
  rw [List.getD_eq_getElem?_getD, List.getElem?_append_right (Nat.le_refl _), Nat.sub_self]; rfl
theorem red_of : ∀ (n : Nat) (v : Way), v.length ≤ n → (∀ x ∈ v, x.2 ≠ 0) → (∀ i, i + 1 < v.length → nb v i = false) → Red v
  | 0, v, h, _, _ => by
    have : v = [] := List.length_eq_zero_iff.mp (by omega)
    rw [this]; exact .nil
  | n + 1, v, h, hz, ha => by
    rcases snoc_cases v with rfl | ⟨f, x, rfl⟩
    · exact .nil
    · rw [List.length_append, List.length_singleton] at h
      have hx : x.2 ≠ 0 := hz x (List.mem_append_right _ List.mem_cons_self)
      rcases snoc_cases f with rfl | ⟨g, y, rfl⟩
      · exact .one hx
      · refine .snoc (red_of n _ (by omega) (fun z h => hz z (List.mem_append_left _ h)) fun i hi => ?_) hx fun e => ?_
        · have := ha i (by rw [List.length_append]; omega)
          unfold nb at this ⊢
          rw [getD_l (by omega), getD_l hi] at this
          exact this
        · have := ha g.length (by simp)
          unfold nb at this
          have e1 : (g ++ [y] ++ [x]).getD g.length (0, 0) = y := by rw [getD_l (by simp)]; exact getD_r
          have e2 : (g ++ [y] ++ [x]).getD (g.length + 1) (0, 0) = x := by
            have : g.length + 1 = (g ++ [y]).length := by simp
            rw [this]; exact getD_r
          rw [e1, e2, decide_eq_true e] at this
          exact nomatch this
theorem red_places {v : Way} (hz : ∀ x ∈ v, x.2 ≠ 0) (h : placesW v = []) : redW v = v := by
  refine red_fold_red (red_of v.length v (Nat.le_refl _) hz fun i hi => ?_)
  cases e : nb v i with
  | false => rfl
  | true =>
    have : i ∈ placesW v := List.mem_filter.mpr ⟨List.mem_range.mpr (by omega), e⟩
    rw [h] at this
    exact nomatch this
theorem put_nz {v : Way} {i : Nat} (hz : ∀ x ∈ v, x.2 ≠ 0) : ∀ x ∈ putW v i, x.2 ≠ 0 := fun x hx => by
  unfold putW at hx
  rcases List.mem_append.mp hx with h | h
  · rcases List.mem_append.mp h with h | h
    · exact hz x (List.mem_of_mem_take h)
    · split at h
      · exact nomatch h
      · rename_i c
        rw [List.mem_singleton.mp h]; exact c
  · exact hz x (List.mem_of_mem_drop h)
theorem zero_step {f : Way} (h : Red f) {x : Int × Int} (hx : x.2 = 0) : stepW f x = f := by
  rcases snoc_cases f with rfl | ⟨g, y, rfl⟩
  · rw [step_nil, if_pos hx]
  · rw [step_snoc, if_pos hx, hx, Int.zero_add]
    by_cases c : y.1 = x.1
    · rw [if_pos c, if_neg h.last, ← c]
    · rw [if_neg c]
theorem push_step {f G : Way} (h : Red f) (hG : Red G) (x : Int × Int) : (stepW G x).foldl stepW f = stepW (G.foldl stepW f) x := by
  rcases snoc_cases G with rfl | ⟨g, y, rfl⟩
  · rw [step_nil]
    by_cases c : x.2 = 0
    · rw [if_pos c, zero_step (f := List.foldl stepW f []) h c]
    · rw [if_neg c]; rfl
  · have hf : Red (g.foldl stepW f) := red_fold g h
    rw [step_snoc]
    by_cases c : y.1 = x.1
    · rw [if_pos c, fold_app]
      show _ = stepW (stepW (g.foldl stepW f) y) x
      rw [step_merge hf c, Int.add_comm y.2 x.2]
      by_cases c2 : x.2 + y.2 = 0
      · rw [if_pos c2, if_pos c2]
      · rw [if_neg c2, if_neg c2, fold_app, c]; rfl
    · rw [if_neg c]
      by_cases c2 : x.2 = 0
      · rw [if_pos c2, zero_step (red_fold _ h) c2]
      · rw [if_neg c2, fold_app]; rfl
theorem fold_red : ∀ (n : Nat) (w : Way), w.length ≤ n → ∀ {f : Way}, Red f → (redW w).foldl stepW f = w.foldl stepW f
  | n, w, hn, f, h => by
    rcases snoc_cases w with rfl | ⟨g, x, rfl⟩
    · rfl
    · have e : redW (g ++ [x]) = stepW (redW g) x := by rw [red_app]; rfl
      rw [e, push_step h (red_red g), fold_app]
      rw [List.length_append, List.length_singleton] at hn
      cases n with
      | zero => omega
      | succ n => rw [fold_red n g (by omega) h]; rfl
theorem red_mid (a b : Way) : redW (a ++ redW b) = redW (a ++ b) := by rw [red_app, red_app, fold_red b.length b (Nat.le_refl _) (red_red a)]
theorem red_left (a b : Way) : redW (redW a ++ b) = redW (a ++ b) := by rw [red_app, red_app, red_twice]
theorem back_sim {a b : Way} (h : redW a = redW b) : redW (backW a) = redW (backW b) := by
  refine red_nil_same ?_
  rw [back_back, ← red_mid, ← h, red_mid]
  exact fold_back a .nil
theorem len_step (f : Way) (x : Int × Int) : (stepW f x).length ≤ f.length + 1 ∧ ((stepW f x).length = f.length + 1 → stepW f x = f ++ [x]) := by
  rcases snoc_cases f with rfl | ⟨g, y, rfl⟩
  · rw [step_nil]
    split
    · exact ⟨by simp, fun h => by simp at h⟩
    · exact ⟨by simp, fun _ => rfl⟩
  · rw [step_snoc]
    split
    · split
      · exact ⟨by simp; omega, fun h => by simp at h; omega⟩
      · exact ⟨by simp, fun h => by simp at h⟩
    · split
      · exact ⟨by simp, fun h => by simp at h⟩
      · exact ⟨by simp, fun _ => rfl⟩
theorem len_fold : ∀ (w f : Way), (w.foldl stepW f).length ≤ f.length + w.length ∧ ((w.foldl stepW f).length = f.length + w.length → w.foldl stepW f = f ++ w)
  | [], f => ⟨Nat.le_refl _, fun _ => (List.append_nil f).symm⟩
  | x :: w, f => by
    obtain ⟨h1, h2⟩ := len_step f x
    obtain ⟨h3, h4⟩ := len_fold w (stepW f x)
    refine ⟨by show (w.foldl stepW (stepW f x)).length ≤ _; rw [List.length_cons]; omega, fun h => ?_⟩
    have h : (w.foldl stepW (stepW f x)).length = f.length + (w.length + 1) := h
    have e := h2 (by omega)
    show w.foldl stepW (stepW f x) = _
    rw [h4 (by omega), e, List.append_assoc]; rfl
theorem red_len (w : Way) : (redW w).length ≤ w.length := by
  have := (len_fold w []).1
  rw [List.length_nil, Nat.zero_add] at this
  exact this
theorem blen (v : Way) : (backW v).length = v.length := by unfold backW; rw [List.length_reverse, List.length_map]
/-- the way back, reduced -/
theorem red_back (v : Way) : redW (backW v) = backW (redW v) := by
  have e : redW (backW v) = redW (backW (redW v)) := back_sim (red_twice v).symm
  rw [e]
  have hb : redW (backW (redW (backW (redW v)))) = redW v := by
    have := back_sim (a := redW (backW (redW v))) (b := backW (redW v)) (red_twice _)
    rw [this, back_back, red_twice]
  have l1 := red_len (backW (redW v))
  have l2 := red_len (backW (redW (backW (redW v))))
  rw [hb, blen] at l2
  rw [blen] at l1
  have := (len_fold (backW (redW v)) []).2 (by
    show (redW (backW (redW v))).length = _
    rw [List.length_nil, blen]; omega)
  exact this
end Ways

/-! ## WP -/
/-! WP: papers of putting together: rows of places walked; the program's own row. Plain mathematics. -/
set_option autoImplicit false
set_option linter.all false
namespace Ways
/-- a place that may be put together -/
def hasPlace (w : Way) (p : Int) : Bool := (placesW w).any fun i => decide ((i : Int) = p)
/-- a row walked: what is left, or the first turn that is none -/
def runRow : Way → List Int → Nat → Way ⊕ Nat
  | w, [], _ => .inl w
  | w, p :: ps, n => if hasPlace w p = true then runRow (putW w p.toNat) ps (n + 1) else .inr n
/-- the first place each time -/
def firstRow : Nat → Way → List Int
  | 0, _ => []
  | k + 1, w => match placesW w with
    | [] => firstRow k w
    | i :: _ => (i : Int) :: firstRow k (putW w i)
theorem has_of {w : Way} {i : Nat} (h : i ∈ placesW w) : hasPlace w (i : Int) = true := List.any_eq_true.mpr ⟨i, h, decide_eq_true rfl⟩
theorem has_inv {w : Way} {p : Int} (h : hasPlace w p = true) : ∃ i : Nat, p = (i : Int) ∧ i ∈ placesW w := by
  obtain ⟨i, h1, h2⟩ := List.any_eq_true.mp h
  exact ⟨i, (of_decide_eq_true h2).symm, h1⟩
theorem first_nil : ∀ (k : Nat) (w : Way), placesW w = [] → firstRow k w = []
  | 0, _, _ => rfl
  | k + 1, w, h => by
    show (match placesW w with | [] => firstRow k w | i :: _ => (i : Int) :: firstRow k (putW w i)) = []
    rw [h]
    exact first_nil k w h
theorem run_first : ∀ (k : Nat) (w : Way) (n : Nat), w.length ≤ k → (∀ x ∈ w, x.2 ≠ 0) → runRow w (firstRow k w) n = .inl (redW w)
  | 0, w, n, hl, _ => by
    have : w = [] := List.length_eq_zero_iff.mp (by omega)
    subst this
    rfl
  | k + 1, w, n, hl, hz => by
    cases hp : placesW w with
    | nil =>
      rw [first_nil _ _ hp, red_places hz hp]; rfl
    | cons i t =>
      have hi : i ∈ placesW w := by rw [hp]; exact List.mem_cons_self
      obtain ⟨h1, h2⟩ := mem_places hi
      have hf : firstRow (k + 1) w = (i : Int) :: firstRow k (putW w i) := by
        show (match placesW w with | [] => firstRow k w | i :: _ => (i : Int) :: firstRow k (putW w i)) = _
        rw [hp]
      rw [hf]
      show (if hasPlace w (i : Int) = true then runRow (putW w ((i : Int)).toNat) (firstRow k (putW w i)) (n + 1) else .inr n) = _
      rw [if_pos (has_of hi), Int.toNat_natCast]
      have := put_len h1
      rw [run_first k (putW w i) (n + 1) (by omega) (put_nz hz), red_putW h1 h2]
/-- its places are small -/
theorem first_small : ∀ (k : Nat) (w : Way), ∀ p ∈ firstRow k w, 0 ≤ p ∧ p + 1 < (w.length : Int)
  | 0, _, _, h => nomatch h
  | k + 1, w, p, h => by
    cases hp : placesW w with
    | nil =>
      have hf : firstRow (k + 1) w = firstRow k w := by
        show (match placesW w with | [] => firstRow k w | i :: _ => (i : Int) :: firstRow k (putW w i)) = _
        rw [hp]
      rw [hf] at h
      exact first_small k w p h
    | cons i t =>
      have hi : i ∈ placesW w := by rw [hp]; exact List.mem_cons_self
      obtain ⟨h1, h2⟩ := mem_places hi
      have hf : firstRow (k + 1) w = (i : Int) :: firstRow k (putW w i) := by
        show (match placesW w with | [] => firstRow k w | i :: _ => (i : Int) :: firstRow k (putW w i)) = _
        rw [hp]
      rw [hf] at h
      rcases List.mem_cons.mp h with e | h
      · rw [e]; omega
      · have := first_small k _ p h
        have := put_len h1
        omega
theorem first_len : ∀ (k : Nat) (w : Way), (firstRow k w).length ≤ k
  | 0, _ => Nat.le_refl _
  | k + 1, w => by
    cases hp : placesW w with
    | nil => rw [first_nil _ _ hp]; exact Nat.zero_le _
    | cons i t =>
      have hf : firstRow (k + 1) w = (i : Int) :: firstRow k (putW w i) := by
        show (match placesW w with | [] => firstRow k w | i :: _ => (i : Int) :: firstRow k (putW w i)) = _
        rw [hp]
      rw [hf, List.length_cons]
      have := first_len k (putW w i)
      omega
end Ways

/-! ## K88H -/
set_option Elab.async false
set_option linter.all false
set_option maxRecDepth 100000
set_option maxHeartbeats 4000000
set_option autoImplicit false
namespace K88
open PySem L2 Fz
def topS (i : Nat) : Stmt := PySem.Challenge.pw_cutandjoin_k88_whole_ways_papers.main.body.getD i (.Pass ⟨0, 0, 0, 0⟩)
abbrev s_turned_way : Stmt := topS 5
theorem sc_turned_way : FnScope ["way", "letter", "length"] ["way"] (defScope s_turned_way) := ⟨rfl, rfl, rfl, by decide +kernel, rfl, by decide +kernel, by decide +kernel⟩
abbrev s_reduced_way : Stmt := topS 6
theorem sc_reduced_way : FnScope ["way", "found", "letter", "length"] ["way"] (defScope s_reduced_way) := ⟨rfl, rfl, rfl, by decide +kernel, rfl, by decide +kernel, by decide +kernel⟩
abbrev s_are_same_ways : Stmt := topS 7
theorem sc_are_same_ways : FnScope ["one", "other"] ["one", "other"] (defScope s_are_same_ways) := ⟨rfl, rfl, rfl, by decide +kernel, rfl, by decide +kernel, by decide +kernel⟩
abbrev s_is_integer : Stmt := topS 9
theorem sc_is_integer : FnScope ["value"] ["value"] (defScope s_is_integer) := ⟨rfl, rfl, rfl, by decide +kernel, rfl, by decide +kernel, by decide +kernel⟩
abbrev s_is_within : Stmt := topS 10
theorem sc_is_within : FnScope ["value", "low", "high"] ["value", "low", "high"] (defScope s_is_within) := ⟨rfl, rfl, rfl, by decide +kernel, rfl, by decide +kernel, by decide +kernel⟩
abbrev s_common_measure : Stmt := topS 12
theorem sc_common_measure : FnScope ["one", "other"] ["one", "other"] (defScope s_common_measure) := ⟨rfl, rfl, rfl, by decide +kernel, rfl, by decide +kernel, by decide +kernel⟩
abbrev s_fraction_of : Stmt := topS 13
theorem sc_fraction_of : FnScope ["top", "bottom", "common"] ["top", "bottom"] (defScope s_fraction_of) := ⟨rfl, rfl, rfl, by decide +kernel, rfl, by decide +kernel, by decide +kernel⟩
abbrev s_fraction_plus : Stmt := topS 14
theorem sc_fraction_plus : FnScope ["one", "other"] ["one", "other"] (defScope s_fraction_plus) := ⟨rfl, rfl, rfl, by decide +kernel, rfl, by decide +kernel, by decide +kernel⟩
abbrev s_fraction_times : Stmt := topS 15
theorem sc_fraction_times : FnScope ["one", "other"] ["one", "other"] (defScope s_fraction_times) := ⟨rfl, rfl, rfl, by decide +kernel, rfl, by decide +kernel, by decide +kernel⟩
abbrev s_stride_shares : Stmt := topS 17
theorem sc_stride_shares : FnScope ["length", "many", "found", "top", "bottom", "turn"] ["length", "many"] (defScope s_stride_shares) := ⟨rfl, rfl, rfl, by decide +kernel, rfl, by decide +kernel, by decide +kernel⟩
abbrev s_way_sum : Stmt := topS 18
theorem sc_way_sum : FnScope ["way", "word", "found", "letter", "length", "shares", "later", "begin", "share", "end"] ["way", "word"] (defScope s_way_sum) := ⟨rfl, rfl, rfl, by decide +kernel, rfl, by decide +kernel, by decide +kernel⟩
abbrev s_word_error : Stmt := topS 20
theorem sc_word_error : FnScope ["k", "value", "item"] ["k", "value"] (defScope s_word_error) := ⟨rfl, rfl, rfl, by decide +kernel, rfl, by decide +kernel, by decide +kernel⟩
abbrev s_apart_ways_word : Stmt := topS 22
theorem sc_apart_ways_word : FnScope ["one", "other", "word", "many", "letter", "length"] ["one", "other"] (defScope s_apart_ways_word) := ⟨rfl, rfl, rfl, by decide +kernel, rfl, by decide +kernel, by decide +kernel⟩
abbrev s_like_places : Stmt := topS 23
theorem sc_like_places : FnScope ["way", "place"] ["way"] (defScope s_like_places) := ⟨rfl, rfl, rfl, by decide +kernel, rfl, by decide +kernel, by decide +kernel⟩
abbrev s_put_together : Stmt := topS 24
theorem sc_put_together : FnScope ["way", "place", "letter", "length", "middle"] ["way", "place"] (defScope s_put_together) := ⟨rfl, rfl, rfl, by decide +kernel, rfl, by decide +kernel, by decide +kernel⟩
abbrev s_places_together : Stmt := topS 25
theorem sc_places_together : FnScope ["way", "found", "turn", "places"] ["way"] (defScope s_places_together) := ⟨rfl, rfl, rfl, by decide +kernel, rfl, by decide +kernel, by decide +kernel⟩
abbrev s_ways_paper : Stmt := topS 26
theorem sc_ways_paper : FnScope ["one", "other", "word"] ["one", "other"] (defScope s_ways_paper) := ⟨rfl, rfl, rfl, by decide +kernel, rfl, by decide +kernel, by decide +kernel⟩
abbrev s_are_places : Stmt := topS 27
theorem sc_are_places : FnScope ["value", "own"] ["value"] (defScope s_are_places) := ⟨rfl, rfl, rfl, by decide +kernel, rfl, by decide +kernel, by decide +kernel⟩
abbrev s_same_fault : Stmt := topS 28
theorem sc_same_fault : FnScope ["ways", "rows", "left", "side", "way", "places", "turn", "place"] ["ways", "rows"] (defScope s_same_fault) := ⟨rfl, rfl, rfl, by decide +kernel, rfl, by decide +kernel, by decide +kernel⟩
abbrev s_ways_paper_error : Stmt := topS 29
theorem sc_ways_paper_error : FnScope ["k", "one", "other", "value", "word", "told", "own"] ["k", "one", "other", "value"] (defScope s_ways_paper_error) := ⟨rfl, rfl, rfl, by decide +kernel, rfl, by decide +kernel, by decide +kernel⟩
abbrev s_law_bag : Stmt := topS 31
theorem sc_law_bag : FnScope ["script", "cells", "mixed", "cell"] ["script"] (defScope s_law_bag) := ⟨rfl, rfl, rfl, by decide +kernel, rfl, by decide +kernel, by decide +kernel⟩
abbrev s_law_draw : Stmt := topS 32
theorem sc_law_draw : FnScope ["bag", "below", "square", "cell", "found"] ["bag", "below"] (defScope s_law_draw) := ⟨rfl, rfl, rfl, by decide +kernel, rfl, by decide +kernel, by decide +kernel⟩
abbrev s_law_pick : Stmt := topS 33
theorem sc_law_pick : FnScope ["bag", "some"] ["bag", "some"] (defScope s_law_pick) := ⟨rfl, rfl, rfl, by decide +kernel, rfl, by decide +kernel, by decide +kernel⟩
abbrev s_law_same : Stmt := topS 34
theorem sc_law_same : FnScope ["told", "due"] ["told", "due"] (defScope s_law_same) := ⟨rfl, rfl, rfl, by decide +kernel, rfl, by decide +kernel, by decide +kernel⟩
abbrev s_law_stride : Stmt := topS 35
theorem sc_law_stride : FnScope ["bag", "reach", "found"] ["bag"] (defScope s_law_stride) := ⟨rfl, rfl, rfl, by decide +kernel, rfl, by decide +kernel, by decide +kernel⟩
abbrev s_law_own_way : Stmt := topS 36
theorem sc_law_own_way : FnScope ["bag", "k", "most", "many", "way", "near", "turn"] ["bag", "k", "most"] (defScope s_law_own_way) := ⟨rfl, rfl, rfl, by decide +kernel, rfl, by decide +kernel, by decide +kernel⟩
abbrev s_law_places : Stmt := topS 37
theorem sc_law_places : FnScope ["way", "i"] ["way"] (defScope s_law_places) := ⟨rfl, rfl, rfl, by decide +kernel, rfl, by decide +kernel, by decide +kernel⟩
abbrev s_law_put : Stmt := topS 38
theorem sc_law_put : FnScope ["way", "at", "both"] ["way", "at"] (defScope s_law_put) := ⟨rfl, rfl, rfl, by decide +kernel, rfl, by decide +kernel, by decide +kernel⟩
abbrev s_law_paper_row : Stmt := topS 39
theorem sc_law_paper_row : FnScope ["bag", "way", "row", "found", "places"] ["bag", "way"] (defScope s_law_paper_row) := ⟨rfl, rfl, rfl, by decide +kernel, rfl, by decide +kernel, by decide +kernel⟩
abbrev s_law_longer : Stmt := topS 40
theorem sc_law_longer : FnScope ["bag", "k", "way", "most", "found", "turn", "at", "letter", "stride", "more"] ["bag", "k", "way", "most"] (defScope s_law_longer) := ⟨rfl, rfl, rfl, by decide +kernel, rfl, by decide +kernel, by decide +kernel⟩
abbrev s_law_otherwise : Stmt := topS 41
theorem sc_law_otherwise : FnScope ["bag", "k", "way", "kind", "at", "letter", "stride", "more"] ["bag", "k", "way", "kind"] (defScope s_law_otherwise) := ⟨rfl, rfl, rfl, by decide +kernel, rfl, by decide +kernel, by decide +kernel⟩
abbrev s_law_least : Stmt := topS 42
theorem sc_law_least : FnScope ["upper", "lower", "one", "other"] ["upper", "lower"] (defScope s_law_least) := ⟨rfl, rfl, rfl, by decide +kernel, rfl, by decide +kernel, by decide +kernel⟩
abbrev s_law_factorial : Stmt := topS 43
theorem sc_law_factorial : FnScope ["many", "found", "k"] ["many"] (defScope s_law_factorial) := ⟨rfl, rfl, rfl, by decide +kernel, rfl, by decide +kernel, by decide +kernel⟩
abbrev s_law_row : Stmt := topS 44
theorem sc_law_row : FnScope ["way", "word", "row", "letter", "stride", "longer", "p", "total", "times", "j"] ["way", "word"] (defScope s_law_row) := ⟨rfl, rfl, rfl, by decide +kernel, rfl, by decide +kernel, by decide +kernel⟩
abbrev s_law_sum : Stmt := topS 45
theorem sc_law_sum : FnScope ["way", "word"] ["way", "word"] (defScope s_law_sum) := ⟨rfl, rfl, rfl, by decide +kernel, rfl, by decide +kernel, by decide +kernel⟩
abbrev s_law_back : Stmt := topS 46
theorem sc_law_back : FnScope ["way", "letter", "stride"] ["way"] (defScope s_law_back) := ⟨rfl, rfl, rfl, by decide +kernel, rfl, by decide +kernel, by decide +kernel⟩
abbrev s_law_left : Stmt := topS 47
theorem sc_law_left : FnScope ["way", "found", "letter", "stride", "more"] ["way"] (defScope s_law_left) := ⟨rfl, rfl, rfl, by decide +kernel, rfl, by decide +kernel, by decide +kernel⟩
abbrev s_law_around : Stmt := topS 48
theorem sc_law_around : FnScope ["one", "other"] ["one", "other"] (defScope s_law_around) := ⟨rfl, rfl, rfl, by decide +kernel, rfl, by decide +kernel, by decide +kernel⟩
abbrev s_law_deep_pair : Stmt := topS 49
theorem sc_law_deep_pair : FnScope ["bag", "k", "steps", "found", "turn", "at", "half", "one", "other", "further", "place"] ["bag", "k"] (defScope s_law_deep_pair) := ⟨rfl, rfl, rfl, by decide +kernel, rfl, by decide +kernel, by decide +kernel⟩
abbrev s_law_last_pair : Stmt := topS 50
theorem sc_law_last_pair : FnScope ["bag", "k", "way", "many", "place", "stride", "last", "one", "other", "free", "letter"] ["bag"] (defScope s_law_last_pair) := ⟨rfl, rfl, rfl, by decide +kernel, rfl, by decide +kernel, by decide +kernel⟩
abbrev s_law_pair : Stmt := topS 51
theorem sc_law_pair : FnScope ["bag", "k", "kind", "one", "own", "first", "second", "ahead", "most"] ["bag", "k"] (defScope s_law_pair) := ⟨rfl, rfl, rfl, by decide +kernel, rfl, by decide +kernel, by decide +kernel⟩
abbrev s_law_is_row : Stmt := topS 52
theorem sc_law_is_row : FnScope ["value", "below", "most", "x"] ["value", "below", "most"] (defScope s_law_is_row) := ⟨rfl, rfl, rfl, by decide +kernel, rfl, by decide +kernel, by decide +kernel⟩
abbrev s_law_due : Stmt := topS 53
theorem sc_law_due : FnScope ["k", "one", "other", "value", "told", "left", "s", "n", "place", "row"] ["k", "one", "other", "value"] (defScope s_law_due) := ⟨rfl, rfl, rfl, by decide +kernel, rfl, by decide +kernel, by decide +kernel⟩
abbrev s_law_is_judged : Stmt := topS 54
theorem sc_law_is_judged : FnScope ["k", "one", "other", "value", "due", "kept", "told"] ["k", "one", "other", "value"] (defScope s_law_is_judged) := ⟨rfl, rfl, rfl, by decide +kernel, rfl, by decide +kernel, by decide +kernel⟩
abbrev s_law_word : Stmt := topS 55
theorem sc_law_word : FnScope ["one", "other", "letter", "stride"] ["one", "other"] (defScope s_law_word) := ⟨rfl, rfl, rfl, by decide +kernel, rfl, by decide +kernel, by decide +kernel⟩
abbrev s_law_is_told_right : Stmt := topS 56
theorem sc_law_is_told_right : FnScope ["k", "one", "other", "told", "kept", "sort"] ["k", "one", "other"] (defScope s_law_is_told_right) := ⟨rfl, rfl, rfl, by decide +kernel, rfl, by decide +kernel, by decide +kernel⟩
abbrev s_law_bent_rows : Stmt := topS 57
theorem sc_law_bent_rows : FnScope ["bag", "rows", "some", "s", "row", "rest", "bent", "n", "own", "worth"] ["bag", "rows"] (defScope s_law_bent_rows) := ⟨rfl, rfl, rfl, by decide +kernel, rfl, by decide +kernel, by decide +kernel⟩
abbrev s_law_other_values : Stmt := topS 58
theorem sc_law_other_values : FnScope ["bag", "rows", "word", "found"] ["bag", "rows", "word"] (defScope s_law_other_values) := ⟨rfl, rfl, rfl, by decide +kernel, rfl, by decide +kernel, by decide +kernel⟩
abbrev s_law_words : Stmt := topS 59
theorem sc_law_words : FnScope ["bag", "k", "one", "other", "word", "found", "short", "first", "n", "both", "some", "letter", "own", "stride"] ["bag", "k", "one", "other", "word"] (defScope s_law_words) := ⟨rfl, rfl, rfl, by decide +kernel, rfl, by decide +kernel, by decide +kernel⟩
abbrev s_law_is_pair_right : Stmt := topS 60
theorem sc_law_is_pair_right : FnScope ["bag", "k", "one", "other", "first", "second", "word", "rows", "some", "odd", "bent", "own", "short", "more", "turn"] ["bag", "k", "one", "other"] (defScope s_law_is_pair_right) := ⟨rfl, rfl, rfl, by decide +kernel, rfl, by decide +kernel, by decide +kernel⟩
abbrev s_law_are_between_right : Stmt := topS 61
theorem sc_law_are_between_right : FnScope ["bag", "k", "way", "row", "found", "n", "between", "own", "letter", "stride"] ["bag", "k", "way"] (defScope s_law_are_between_right) := ⟨rfl, rfl, rfl, by decide +kernel, rfl, by decide +kernel, by decide +kernel⟩
abbrev s_law_asks : Stmt := topS 62
theorem sc_law_asks : FnScope ["script", "bag", "k", "near", "alike", "great", "stride", "several", "flat", "wide", "last", "half", "ahead"] ["script"] (defScope s_law_asks) := ⟨rfl, rfl, rfl, by decide +kernel, rfl, by decide +kernel, by decide +kernel⟩
abbrev s_law : Stmt := topS 63
theorem sc_law : FnScope ["script"] ["script"] (defScope s_law) := ⟨rfl, rfl, rfl, by decide +kernel, rfl, by decide +kernel, by decide +kernel⟩
/-- what the module and the built-ins give -/
structure Bt (P : Program) (mg : Str → Option Value) (base : Heap) : Prop where
  n_tuple : mg "tuple" = none
  n_isinstance : mg "isinstance" = none
  n_int : mg "int" = none
  n_bool : mg "bool" = none
  n_abs : mg "abs" = none
  n_range : mg "range" = none
  n_enumerate : mg "enumerate" = none
  n_list : mg "list" = none
  n_len : mg "len" = none
  n_all : mg "all" = none
  n_zip : mg "zip" = none
  n_str : mg "str" = none
  n_reversed : mg "reversed" = none
  n_repr : mg "repr" = none
  n_max : mg "max" = none
  n_min : mg "min" = none
  c_MAX_GREAT_SIZE : ∃ t, mg "MAX_GREAT_SIZE" = some (.int 16 t)
  c_MAX_WAY : ∃ t, mg "MAX_WAY" = some (.int 8 t)
  hpl : base.NoSeer ∧ P.given.tree = none
end K88

/-! ## B1 -/
set_option Elab.async false
set_option linter.all false
set_option maxRecDepth 100000
set_option maxHeartbeats 4000000
set_option autoImplicit false
namespace K88
open PySem L2 Fz K80 Ways
variable {P : Program} {w : World} {K : PySem.W.Frag} {mg : Str → Option Value} {base : Heap} {f : Addr} {fd : FuncData}
abbrev iv (x : Int) : Option AD := some (.d (.int x))
def R_cm : List PyData → PyData → Prop := fun ds d => ∃ a b : Int, ds = [.int a, .int b] ∧ d = .int (Int.gcd a b)
theorem abs_if (a : Int) : (if a < 0 then -a else a) = (a.natAbs : Int) := by split <;> omega
theorem gcd_step {x y : Int} (hx : 0 ≤ x) (hy : 0 < y) : Int.gcd y (x % y) = Int.gcd x y := by
  obtain ⟨n, rfl⟩ := Int.eq_ofNat_of_zero_le hx
  obtain ⟨m, rfl⟩ := Int.eq_ofNat_of_zero_le (Int.le_of_lt hy)
  show Nat.gcd m (((n : Int) % (m : Int)).natAbs) = Nat.gcd n m
  have e : ((n : Int) % (m : Int)).natAbs = n % m := by omega
  rw [e, Nat.gcd_comm m, ← Nat.gcd_rec, Nat.gcd_comm]
theorem ok_common_measure (Fn : Fun K "common_measure" "common_measure" s_common_measure f fd) (T : Bt P mg base) : FnOk P w K mg base CX0 41 f fd ["one", "other"] (spR K R_cm) := by
  refine fn_data Fn sc_common_measure (by decide) (fun ds d ⟨a, b, h, _⟩ => by rw [h]; rfl) fun cdv A outer s H E hr => ⟨_, (pss_cons (ps_par (i := 0) (j := 1) (by rfl) sc_common_measure.nd rfl rfl (by decide) rfl rfl (pa_cons (pe_callB call_abs (by rfl) T.n_abs (by decide +kernel) (pa_cons (pv 0) pa_nil)) (pa_cons (pe_callB call_abs (by rfl) T.n_abs (by decide +kernel) (pa_cons (pv 1) pa_nil)) pa_nil)) (by rfl))
      (pss_cons (ps_while PassesOwn.never (pt_cmpR op_ne (pv 1) pe_int (nomark _)) (pss_one (ps_par (i := 0) (j := 1) (by rfl) sc_common_measure.nd rfl rfl (by decide) rfl rfl (pa_cons (pv 1) (pa_cons (pe_op op_mod (pv 0) (pv 1)) pa_nil)) (by rfl))))
      (pss_one (ps_ret (pv 0))))), ?_⟩
  rintro B Q ds d rfl hM ⟨a, b, rfl, rfl⟩ q
  refine x_seq (x_par (ea_cons (ex_abs (ex_v rfl)) (ea_cons (ex_abs (ex_v rfl)) ea_nil)) ?_)
  rw [abs_if, abs_if]
  refine x_seq (x_while (m0 := (b.natAbs : Int).toNat) (fun m ε L => ∃ x y : Int, 0 ≤ x ∧ 0 ≤ y ∧ Int.gcd x y = Int.gcd a b ∧ m = y.toNat ∧ ε = [iv x, iv y] ∧ L = []) ⟨a.natAbs, b.natAbs, by omega, by omega, by show Nat.gcd _ _ = _; simp [Int.gcd], rfl, rfl, rfl⟩ ?_)
  rintro m ε' L' ⟨x, y, hx, hy, hg, rfl, rfl, rfl⟩
  refine ⟨_, _, et_test (ex_neI (ex_v rfl) ex_cI), fun hb => ?_, fun hb => ?_⟩
  · have hy0 : y ≠ 0 := by simpa using hb
    refine x_par (ea_cons (ex_v rfl) (ea_cons (ex_mod (ex_v rfl) (ex_v rfl) (by omega)) ea_nil)) ?_
    refine x_abs ⟨(x % y).toNat, ?_, y, x % y, hy, Int.emod_nonneg _ hy0, ?_, rfl, rfl, rfl⟩ (Wk.refl _)
    · have := Int.emod_lt_of_pos x (show 0 < y by omega)
      have := Int.emod_nonneg x hy0
      omega
    · rw [gcd_step hx (by omega), hg]
  · have hy0 : y = 0 := by simpa using hb
    subst hy0
    refine x_ret (ex_v rfl) fun v F σ H r o => q v F H (hM ▸ r.nx) ?_
    rw [← hg, Int.gcd_zero_right]
    have : (x.natAbs : Int) = x := by omega
    rw [this]; exact o
def R_frac : List PyData → PyData → Prop := fun ds d => ∃ t b : Int, ds = [.int t, .int b] ∧ 0 < b ∧ d = frD t b
theorem gcd_pos {t b : Int} (h : 0 < b) : (0 : Int) < (Int.gcd t b : Int) := by
  have : 0 < Int.gcd t b := Int.gcd_pos_of_ne_zero_right t (by omega)
  omega
theorem ok_fraction_of (Fn : Fun K "fraction_of" "fraction_of" s_fraction_of f fd) (T : Bt P mg base) (C_common_measure : Df P w K mg base 41 "common_measure" ["one", "other"] (spR K R_cm)) :
    FnOk P w K mg base CX0 42 f fd ["top", "bottom"] (spR K R_frac) := by
  refine fn_data Fn sc_fraction_of (by decide) (fun ds d ⟨a, b, h, _⟩ => by rw [h]; rfl) fun cdv A outer s H E hr => ⟨_, (pss_cons (ps_set (i := 2) sc_fraction_of.nd rfl (.inl rfl) (pe_ifExp (pt_cmpR op_gt (pv 1) pe_int (nomark _)) (pe_callD C_common_measure (hr.mono (by decide)) (by rfl) (pa_cons (pv 0) (pa_cons (pv 1) pa_nil))) (pe_un un_neg (pe_callD C_common_measure (hr.mono (by decide)) (by rfl) (pa_cons (pv 0) (pa_cons (pv 1) pa_nil))))))
      (pss_one (ps_ret (pe_tup (pa_cons (pe_op (op_fdivP hr T.hpl) (pv 0) (pv 2)) (pa_cons (pe_op (op_fdivP hr T.hpl) (pv 1) (pv 2)) pa_nil)))))), ?_⟩
  rintro B Q ds d rfl hM ⟨t, b, rfl, hb, rfl⟩ q
  have hg := gcd_pos (t := t) hb
  refine x_seq (x_set (a := .d (.int (Int.gcd t b : Int))) (ex_if (et_test (ex_gt (ex_v rfl) ex_cI)) (fun _ => ex_call (ds := [.int t, .int b]) (ea_cons (ex_v rfl) (ea_cons (ex_v rfl) ea_nil)) ⟨t, b, rfl, rfl⟩) (fun h => absurd hb (by simpa using h))) ?_)
  exact x_ret (ex_tup (ds := [.int _, .int _]) (ea_cons (ex_fdivP (ex_v rfl) (ex_v rfl) hg) (ea_cons (ex_fdivP (ex_v rfl) (ex_v rfl) hg) ea_nil)) (Nat.le_of_ble_eq_true rfl)) fun v F σ H r o => q v F H (hM ▸ r.nx) o
/-! ### fractions -/
theorem frD_scale {a b k : Int} (hb : 0 < b) (hk : 0 < k) : frD (a * k) (b * k) = frD a b := by
  have e : (Int.gcd (a * k) (b * k) : Int) = (Int.gcd a b : Int) * k := by
    rw [Int.gcd_mul_right, Int.natCast_mul]
    have : (k.natAbs : Int) = k := by omega
    rw [this]
  unfold frD
  rw [e]
  have hg := gcd_pos (t := a) hb
  rw [Int.mul_ediv_mul_of_pos_left _ _ hk, Int.mul_ediv_mul_of_pos_left _ _ hk]
theorem frD_ratio {a b c d : Int} (hb : 0 < b) (hd : 0 < d) (h : a * d = c * b) : frD a b = frD c d := by
  rw [← frD_scale (a := a) hb hd, ← frD_scale (a := c) hd hb, h, Int.mul_comm d b]
theorem fr_parts (a : Int) {b : Int} (hb : 0 < b) : a = a / (Int.gcd a b : Int) * (Int.gcd a b : Int) ∧ b = b / (Int.gcd a b : Int) * (Int.gcd a b : Int) ∧ 0 < b / (Int.gcd a b : Int) := by
  have hg := gcd_pos (t := a) hb
  have e1 := Int.ediv_mul_cancel (Int.gcd_dvd_left a b)
  have e2 := Int.ediv_mul_cancel (Int.gcd_dvd_right a b)
  exact ⟨e1.symm, e2.symm, Int.pos_of_mul_pos_left (by rw [e2]; exact hb) hg⟩
def R_plus : List PyData → PyData → Prop := fun ds r => ∃ a b c d : Int, ds = [frD a b, frD c d] ∧ 0 < b ∧ 0 < d ∧ Bd 9000 a ∧ Bd 9000 b ∧ Bd 9000 c ∧ Bd 9000 d ∧ r = frD (a * d + c * b) (b * d)
def R_tim : List PyData → PyData → Prop := fun ds r => ∃ a b c d : Int, ds = [frD a b, frD c d] ∧ 0 < b ∧ 0 < d ∧ Bd 9000 a ∧ Bd 9000 b ∧ Bd 9000 c ∧ Bd 9000 d ∧ r = frD (a * c) (b * d)
theorem ok_fraction_plus (Fn : Fun K "fraction_plus" "fraction_plus" s_fraction_plus f fd) (T : Bt P mg base) (C_fraction_of : Df P w K mg base 42 "fraction_of" ["top", "bottom"] (spR K R_frac)) : FnOk P w K mg base CX0 43 f fd ["one", "other"] (spR K R_plus) := by
  refine fn_data Fn sc_fraction_plus (by decide) (fun ds d ⟨_, _, _, _, h, _⟩ => by rw [h]; rfl) fun cdv A outer s H E hr => ⟨_, (pss_one (ps_ret (pe_callD C_fraction_of (hr.mono (by decide)) (by rfl) (pa_cons (pe_op op_add (pe_op op_mulW (pe_ix (r := rIxT K) ix_tup (pv 0) pe_int (fun _ _ => rfl)) (pe_ix (r := rIxT K) ix_tup (pv 1) pe_int (fun _ _ => rfl))) (pe_op op_mulW (pe_ix (r := rIxT K) ix_tup (pv 1) pe_int (fun _ _ => rfl)) (pe_ix (r := rIxT K) ix_tup (pv 0) pe_int (fun _ _ => rfl)))) (pa_cons (pe_op op_mulW (pe_ix (r := rIxT K) ix_tup (pv 0) pe_int (fun _ _ => rfl)) (pe_ix (r := rIxT K) ix_tup (pv 1) pe_int (fun _ _ => rfl))) pa_nil))))), ?_⟩
  rintro B Q ds r rfl hM ⟨a, b, c, d, rfl, hb, hd, ha', hb', hc', hd', rfl⟩ q
  obtain ⟨ea, eb, pb⟩ := fr_parts a hb
  obtain ⟨ec, ed, pd⟩ := fr_parts c hd
  have ba : Bd 9000 (a / (Int.gcd a b : Int)) := ha'.div
  have bb : Bd 9000 (b / (Int.gcd a b : Int)) := hb'.div
  have bc : Bd 9000 (c / (Int.gcd c d : Int)) := hc'.div
  have bd : Bd 9000 (d / (Int.gcd c d : Int)) := hd'.div
  have g1 := gcd_pos (t := a) hb
  have g2 := gcd_pos (t := c) hd
  have key : frD (a * d + c * b) (b * d) = frD (a / (Int.gcd a b : Int) * (d / (Int.gcd c d : Int)) + c / (Int.gcd c d : Int) * (b / (Int.gcd a b : Int))) (b / (Int.gcd a b : Int) * (d / (Int.gcd c d : Int))) := by
    generalize a / (Int.gcd a b : Int) = a' at *
    generalize b / (Int.gcd a b : Int) = b' at *
    generalize c / (Int.gcd c d : Int) = c' at *
    generalize d / (Int.gcd c d : Int) = d' at *
    generalize (Int.gcd a b : Int) = g at *
    generalize (Int.gcd c d : Int) = h at *
    subst ea eb ec ed
    rw [← frD_scale (a := a' * d' + c' * b') (Int.mul_pos pb pd) (Int.mul_pos g1 g2)]
    congr 1
    · rw [Int.add_mul]
      congr 1 <;> simp only [Int.mul_assoc, Int.mul_left_comm, Int.mul_comm]
    · simp only [Int.mul_assoc, Int.mul_left_comm, Int.mul_comm]
  rw [key] at q
  exact x_ret (ex_call (ds := [.int _, .int _]) (ea_cons (ex_add (ex_mul (ex_ixT (ex_v rfl) ex_cI rfl) (ex_ixT (ex_v rfl) ex_cI rfl) (cmul ba bd (by decide))) (ex_mul (ex_ixT (ex_v rfl) ex_cI rfl) (ex_ixT (ex_v rfl) ex_cI rfl) (cmul bc bb (by decide)))) (ea_cons (ex_mul (ex_ixT (ex_v rfl) ex_cI rfl) (ex_ixT (ex_v rfl) ex_cI rfl) (cmul bb bd (by decide))) ea_nil)) ⟨_, _, rfl, Int.mul_pos pb pd, rfl⟩) fun v F σ H r o => q v F H (hM ▸ r.nx) o
theorem ok_fraction_times (Fn : Fun K "fraction_times" "fraction_times" s_fraction_times f fd) (T : Bt P mg base) (C_fraction_of : Df P w K mg base 42 "fraction_of" ["top", "bottom"] (spR K R_frac)) : FnOk P w K mg base CX0 43 f fd ["one", "other"] (spR K R_tim) := by
  refine fn_data Fn sc_fraction_times (by decide) (fun ds d ⟨_, _, _, _, h, _⟩ => by rw [h]; rfl) fun cdv A outer s H E hr => ⟨_, (pss_one (ps_ret (pe_callD C_fraction_of (hr.mono (by decide)) (by rfl) (pa_cons (pe_op op_mulW (pe_ix (r := rIxT K) ix_tup (pv 0) pe_int (fun _ _ => rfl)) (pe_ix (r := rIxT K) ix_tup (pv 1) pe_int (fun _ _ => rfl))) (pa_cons (pe_op op_mulW (pe_ix (r := rIxT K) ix_tup (pv 0) pe_int (fun _ _ => rfl)) (pe_ix (r := rIxT K) ix_tup (pv 1) pe_int (fun _ _ => rfl))) pa_nil))))), ?_⟩
  rintro B Q ds r rfl hM ⟨a, b, c, d, rfl, hb, hd, ha', hb', hc', hd', rfl⟩ q
  obtain ⟨ea, eb, pb⟩ := fr_parts a hb
  obtain ⟨ec, ed, pd⟩ := fr_parts c hd
  have ba : Bd 9000 (a / (Int.gcd a b : Int)) := ha'.div
  have bb : Bd 9000 (b / (Int.gcd a b : Int)) := hb'.div
  have bc : Bd 9000 (c / (Int.gcd c d : Int)) := hc'.div
  have bd : Bd 9000 (d / (Int.gcd c d : Int)) := hd'.div
  have g1 := gcd_pos (t := a) hb
  have g2 := gcd_pos (t := c) hd
  have key : frD (a * c) (b * d) = frD (a / (Int.gcd a b : Int) * (c / (Int.gcd c d : Int))) (b / (Int.gcd a b : Int) * (d / (Int.gcd c d : Int))) := by
    generalize a / (Int.gcd a b : Int) = a' at *
    generalize b / (Int.gcd a b : Int) = b' at *
    generalize c / (Int.gcd c d : Int) = c' at *
    generalize d / (Int.gcd c d : Int) = d' at *
    generalize (Int.gcd a b : Int) = g at *
    generalize (Int.gcd c d : Int) = h at *
    subst ea eb ec ed
    rw [← frD_scale (a := a' * c') (Int.mul_pos pb pd) (Int.mul_pos g1 g2)]
    congr 1 <;> simp only [Int.mul_assoc, Int.mul_left_comm, Int.mul_comm]
  rw [key] at q
  exact x_ret (ex_call (ds := [.int _, .int _]) (ea_cons (ex_mul (ex_ixT (ex_v rfl) ex_cI rfl) (ex_ixT (ex_v rfl) ex_cI rfl) (cmul ba bc (by decide))) (ea_cons (ex_mul (ex_ixT (ex_v rfl) ex_cI rfl) (ex_ixT (ex_v rfl) ex_cI rfl) (cmul bb bd (by decide))) ea_nil)) ⟨_, _, rfl, Int.mul_pos pb pd, rfl⟩) fun v F σ H r o => q v F H (hM ▸ r.nx) o
end K88

/-! ## B2 -/
set_option Elab.async false
set_option linter.all false
set_option maxRecDepth 100000
set_option maxHeartbeats 4000000
set_option autoImplicit false
namespace K88
open PySem L2 Fz K80 Ways
variable {P : Program} {w : World} {K : PySem.W.Frag} {mg : Str → Option Value} {base : Heap} {f : Addr} {fd : FuncData}
section
variable {B : Bg} {ε : Eps} {L La Lb Lc : Own} {te ta tb tc : TE} {D : Ends} {i j l : Nat} {a b : AD}
theorem x_par3N {ds : List PyData} (h : EN B te ε L ds La) (ha : ∀ p, EX B ta ε (.lst p ds :: La) a (.lst p ds :: Lb)) (hb : ∀ p, EX B tb ε (.lst p ds :: Lb) b (.lst p ds :: Lc)) (k : ∀ p, p ∉ B.M → Ho B D.nx (((ε.set i (some (.v (.ref p)))).set j (some a)).set l (some b)) (.lst p ds :: Lc)) :
    Ho B (tPar3 i j l (tCons te (tCons ta (tCons tb tNil))) D) ε L := fun F σ H r =>
  h F σ H r _ fun p F1 H1 s1 hp r1 => ha p F1 σ H1 r1 _ fun v F2 H2 s2 r2 o2 => hb p F2 σ H2 r2 _ fun w F3 H3 s3 r3 o3 => ⟨.ref p, v, w, rfl, k p hp F3 _ H3 (((r3.slot (a := .v (.ref p)) rfl).slot (o2.sub s3)).slot o3)⟩
end
/-! ### ways as data -/
def stD (x : Int × Int) : PyData := .tuple [.int x.1, .int x.2]
def wayL (v : Way) : List PyData := v.map stD
def wayD (v : Way) : PyData := .tuple (wayL v)
theorem wayL_app (a b : Way) : wayL (a ++ b) = wayL a ++ wayL b := List.map_append ..
theorem wayL_len (a : Way) : (wayL a).length = a.length := List.length_map ..
theorem lay_way : ∀ v : Way, PyData.canLayAll0 (wayL v) = true ∧ PyData.depthAll (wayL v) ≤ 1
  | [] => ⟨rfl, Nat.zero_le _⟩
  | x :: v => by
    obtain ⟨h1, h2⟩ := lay_way v
    refine ⟨?_, ?_⟩
    · show (true && PyData.canLayAll0 (wayL v)) = true
      rw [h1]; rfl
    · show max 1 (PyData.depthAll (wayL v)) ≤ 1
      omega
theorem shaped_wayL (v : Way) : SeqAt.shaped (.list (wayL v)) = true := by
  obtain ⟨h1, h2⟩ := lay_way v
  unfold SeqAt.shaped
  show (PyData.canLayAll0 (wayL v) && decide (PyData.depthAll (wayL v) + 1 ≤ 64)) = true
  rw [h1, decide_eq_true (by omega)]; rfl
theorem at_last (g : Way) (y : Int × Int) : atI (wayL (g ++ [y])) (-1) = some (stD y) := by
  rw [wayL_app]
  exact atI_last _ _
theorem way_get {v : Way} {i : Nat} {d : PyData} (h : (wayL v)[i]? = some d) : ∃ x, v[i]? = some x ∧ d = stD x := by
  unfold wayL at h
  rw [List.getElem?_map] at h
  cases e : v[i]? with
  | none => rw [e] at h; cases h
  | some x => rw [e] at h; exact ⟨x, rfl, (Option.some.inj h).symm⟩
theorem fold_take {v : Way} {i : Nat} {x : Int × Int} (h : v[i]? = some x) : redW (v.take (i + 1)) = stepW (redW (v.take i)) x := by
  unfold redW
  rw [List.take_add_one, h, List.foldl_append]; rfl
theorem ex_popW {B : Bg} {ε : Eps} {L La : Own} {to : TE} {p : Addr} {k : Nat} {g : Way} {y : Int × Int} (ho : EX B to ε L (.v (.ref p)) La) (hk : La[k]? = some (.lst p (wayL (g ++ [y])))) :
    EX B (tBM0 B.K "list" rPop to) ε L (.d (.tuple [.int y.1, .int y.2])) (La.set k (.lst p (wayL g))) := by
  have hlw : (wayL (g ++ [y])).length = g.length + 1 := by rw [wayL_len, List.length_append]; rfl
  have h := ex_pop (k := k) (ds := wayL (g ++ [y])) (d := stD y) ho hk (by
    rw [hlw, Nat.add_sub_cancel, wayL_app, List.getElem?_append_right (by rw [wayL_len]; exact Nat.le_refl _), wayL_len, Nat.sub_self]; rfl)
  have e : (wayL (g ++ [y])).dropLast = wayL g := by rw [wayL_app]; exact List.dropLast_concat
  rw [e] at h
  exact h
def R_red : List PyData → PyData → Prop := fun ds d => ∃ v : Way, ds = [wayD v] ∧ v.length ≤ 5000 ∧ d = wayD (redW v)
theorem ok_reduced_way (Fn : Fun K "reduced_way" "reduced_way" s_reduced_way f fd) (T : Bt P mg base) : FnOk P w K mg base CX0 41 f fd ["way"] (spR K R_red) := by
  refine fn_data Fn sc_reduced_way (by decide) (fun ds d ⟨_, h, _⟩ => by rw [h]; rfl) fun cdv A outer s H E hr => ⟨_, (pss_cons (ps_set (i := 1) sc_reduced_way.nd rfl (.inl rfl) (pe_lst pa_nil))
      (pss_cons (ps_for PassesOwn.never rfl (pi_tup (pv 0)) (pg_tup rfl (pgs_cons (pg_name (i := 2) sc_reduced_way.nd rfl (Or.inl rfl)) (pgs_cons (pg_name (i := 3) sc_reduced_way.nd rfl (Or.inl rfl)) pgs_nil))) (pss_cons (ps_if (PW.pt (pw_and (pt_cmpR (r := rNeD K) (op_neD hr.units) (pv 1) (pe_lst pa_nil) (nomark _)) (pw_and1 (pt_cmpR op_eq (pe_ix (r := rIxT K) ix_tup (pe_ix (r := rIxL K) ix_list (pv 1) (pe_un un_neg pe_int) (fun _ _ => rfl)) pe_int (fun _ _ => rfl)) (pv 2) (nomark _))))) (pss_one (ps_set (i := 3) sc_reduced_way.nd rfl (.inl rfl) (pe_op op_add (pv 3) (pe_ix (r := rIxT K) ix_tup (pe_bm0 PySem.F.plainAttrs_list PySem.F.slot_list_pop PySem.F.type_list_pop mt_pop (pv 1)) pe_int (fun _ _ => rfl))))) pss_nil)
      (pss_one (ps_if (pt_cmpR op_ne (pv 3) pe_int (nomark _)) (pss_one (ps_expr (pe_bm PySem.F.plainAttrs_list PySem.F.slot_list_append PySem.F.type_list_append mt_append (pv 1) (pa_cons (pe_tup (pa_cons (pv 2) (pa_cons (pv 3) pa_nil))) pa_nil)))) pss_nil))))
      (pss_one (ps_ret (pe_tupleOf (by rfl) T.n_tuple (pv 1)))))), ?_⟩
  rintro B Q ds d rfl hM ⟨v, rfl, hl, rfl⟩ q
  refine x_seq (x_setN (en_lst (ds := wayL []) ea_nil (Nat.zero_le _)) fun p hp => ?_)
  refine x_sq (x_forT (ds := wayL v) (ex_v rfl) (fun u i ε L => ε = [some (.d (wayD v)), some (.v (.ref p)), none, none] ∧ L = [.lst p (wayL (redW (v.take i))), .know u (wayD v)]) (fun u => ⟨rfl, rfl⟩) (fun u i ε' L' ⟨_, h⟩ => by rw [h]; simp [wayD]) ?_ ?_)
  · rintro u i d ε' L' hd ⟨rfl, rfl⟩
    obtain ⟨x, hx, rfl⟩ := way_get hd
    have hlen : (redW (v.take i)).length ≤ 5000 := by
      have h1 := (tot_red (v.take i)).2
      have h2 : (v.take i).length ≤ v.length := by rw [List.length_take]; omega
      omega
    refine ⟨_, gt_tup2 (d := .int x.1) (e := .int x.2), ?_⟩
    rw [fold_take hx]
    generalize redW (v.take i) = f0 at *
    obtain ⟨m, n⟩ := x
    rcases snoc_cases f0 with rfl | ⟨g, y, rfl⟩
    · refine x_seq (x_if (b := false) (et_is (et_and (b := false) (c := false) (et_test (ex_neNil (ds := wayL []) (ex_v rfl) (.o (k := 0) rfl) (shaped_wayL []))) (fun h => nomatch h) (fun _ => rfl)) rfl) (fun h => nomatch h) fun _ => ?_)
      refine x_next (nxt (x_if (et_test (ex_neI (ex_v rfl) ex_cI)) (fun hc => ?_) fun hc => ?_))
      · have hn : n ≠ 0 := by simpa using hc
        refine x_app (k := 0) (d := stD (m, n)) (ex_v rfl) (ex_tup (ds := [.int m, .int n]) (ea_cons (ex_v rfl) (ea_cons (ex_v rfl) ea_nil)) (Nat.le_of_ble_eq_true rfl)) rfl ⟨0, _, rfl⟩ (by decide) ?_
        refine x_abs (ε' := [some (.d (wayD v)), some (.v (.ref p)), none, none]) ⟨rfl, ?_⟩ ⟨.inr rfl, .inr rfl, .inl rfl, .inl rfl, trivial⟩
        rw [step_nil, if_neg hn]; rfl
      · have hn : n = 0 := by simpa using hc
        refine x_next (x_abs (ε' := [some (.d (wayD v)), some (.v (.ref p)), none, none]) ⟨rfl, ?_⟩ ⟨.inr rfl, .inr rfl, .inl rfl, .inl rfl, trivial⟩)
        rw [step_nil, if_pos hn]
    · obtain ⟨m', n'⟩ := y
      have hne : (!(wayL (g ++ [(m', n')])).isEmpty) = true := by
        rw [wayL_app]
        cases wayL g <;> rfl
      have hlw : (wayL (g ++ [(m', n')])).length = g.length + 1 := by rw [wayL_len, List.length_append]; rfl
      rw [List.length_append, List.length_singleton] at hlen
      rw [step_snoc]
      refine x_seq (x_if (b := decide (m' = m)) (L1 := [.lst p (wayL (g ++ [(m', n')])), .know u (wayD v)]) (et_is (et_and (b := true) (et_is (et_test (ex_neNil (ds := wayL (g ++ [(m', n')])) (ex_v rfl) (.o (k := 0) rfl) (shaped_wayL _))) hne) (fun _ => et_test (ex_eqI (ex_ixT (ds := [.int m', .int n']) (ex_ixL (ds := wayL (g ++ [(m', n')])) (ex_v rfl) (ex_neg ex_cI) (.o (k := 0) rfl) (at_last g (m', n'))) ex_cI rfl) (ex_v rfl))) (fun h => nomatch h)) rfl) (fun hc => ?_) fun hc => ?_)
      · have hm : m' = m := of_decide_eq_true hc
        subst hm
        rw [if_pos (show (m', n').1 = (m', n).1 from rfl)]
        refine x_set (a := .d (.int (n + n'))) (ex_add (ex_v rfl) (ex_ixT (ds := [.int m', .int n']) (ex_popW (k := 0) (y := (m', n')) (ex_v rfl) rfl) ex_cI rfl)) ?_
        refine nxt (x_if (et_test (ex_neI (ex_v rfl) ex_cI)) (fun hc => ?_) fun hc => ?_)
        · have hn : n + n' ≠ 0 := by simpa using hc
          refine x_app (k := 0) (d := stD (m', n + n')) (ex_v rfl) (ex_tup (ds := [.int m', .int (n + n')]) (ea_cons (ex_v rfl) (ea_cons (ex_v rfl) ea_nil)) (Nat.le_of_ble_eq_true rfl)) rfl ⟨0, _, rfl⟩ (by rw [wayL_len]; omega) ?_
          refine x_abs (ε' := [some (.d (wayD v)), some (.v (.ref p)), none, none]) ⟨rfl, ?_⟩ ⟨.inr rfl, .inr rfl, .inl rfl, .inl rfl, trivial⟩
          rw [if_neg (show ¬ (m', n).2 + (m', n').2 = 0 from hn), show wayL (g ++ [((m', n).1, (m', n).2 + (m', n').2)]) = wayL g ++ [stD (m', n + n')] from wayL_app _ _]; rfl
        · have hn : n + n' = 0 := by simpa using hc
          refine x_next (x_abs (ε' := [some (.d (wayD v)), some (.v (.ref p)), none, none]) ⟨rfl, ?_⟩ ⟨.inr rfl, .inr rfl, .inl rfl, .inl rfl, trivial⟩)
          rw [if_pos (show (m', n).2 + (m', n').2 = 0 from hn)]; rfl
      · have hm : ¬ m' = m := of_decide_eq_false hc
        rw [if_neg (show ¬ (m', n').1 = (m, n).1 from hm)]
        refine x_next (nxt (x_if (et_test (ex_neI (ex_v rfl) ex_cI)) (fun hc => ?_) fun hc => ?_))
        · have hn : n ≠ 0 := by simpa using hc
          refine x_app (k := 0) (d := stD (m, n)) (ex_v rfl) (ex_tup (ds := [.int m, .int n]) (ea_cons (ex_v rfl) (ea_cons (ex_v rfl) ea_nil)) (Nat.le_of_ble_eq_true rfl)) rfl ⟨0, _, rfl⟩ (by rw [wayL_len, List.length_append, List.length_singleton]; omega) ?_
          refine x_abs (ε' := [some (.d (wayD v)), some (.v (.ref p)), none, none]) ⟨rfl, ?_⟩ ⟨.inr rfl, .inr rfl, .inl rfl, .inl rfl, trivial⟩
          rw [if_neg (show ¬ (m, n).2 = 0 from hn), show wayL (g ++ [(m', n')] ++ [(m, n)]) = wayL (g ++ [(m', n')]) ++ [stD (m, n)] from wayL_app _ _]; rfl
        · have hn : n = 0 := by simpa using hc
          refine x_next (x_abs (ε' := [some (.d (wayD v)), some (.v (.ref p)), none, none]) ⟨rfl, ?_⟩ ⟨.inr rfl, .inr rfl, .inl rfl, .inl rfl, trivial⟩)
          rw [if_pos (show (m, n).2 = 0 from hn)]
  · rintro u ε' L' ⟨rfl, rfl⟩
    refine nxt (x_ret (ex_is (ex_tupL (ds := wayL (redW v)) (ex_v rfl) (.o (k := 0) (by rw [wayL_len, List.take_length]; rfl))) rfl) fun v F σ H r o => q v F H (hM ▸ r.nx) o)
end K88

/-! ## B3 -/
set_option Elab.async false
set_option linter.all false
set_option maxRecDepth 100000
set_option maxHeartbeats 4000000
set_option autoImplicit false
namespace K88
open PySem L2 Fz K80 Ways
variable {P : Program} {w : World} {K : PySem.W.Frag} {mg : Str → Option Value} {base : Heap} {f : Addr} {fd : FuncData}
theorem eqv_int (a b : Int) : PyData.eqv (.int a) (.int b) = decide (a = b) := by
  show (a == b) = decide (a = b)
  by_cases h : a = b
  · subst h; simp
  · rw [decide_eq_false h, beq_eq_false_iff_ne.mpr h]
theorem eqv_ints : ∀ a b : List Int, PyData.eqvAll (a.map PyData.int) (b.map PyData.int) = decide (a = b)
  | [], [] => by simp [PyData.eqvAll]
  | [], _ :: _ => by simp [PyData.eqvAll]
  | _ :: _, [] => by simp [PyData.eqvAll]
  | x :: a, y :: b => by
    show (PyData.eqv (.int x) (.int y) && PyData.eqvAll (a.map PyData.int) (b.map PyData.int)) = _
    rw [eqv_int, eqv_ints a b]
    by_cases h1 : x = y
    · subst h1
      by_cases h2 : a = b
      · subst h2; simp
      · simp [h2]
    · simp [h1]
theorem eqv_st (x y : Int × Int) : PyData.eqv (stD x) (stD y) = decide (x = y) := by
  obtain ⟨a, b⟩ := x
  obtain ⟨c, d⟩ := y
  show PyData.eqvAll ([a, b].map PyData.int) ([c, d].map PyData.int) = _
  rw [eqv_ints]
  simp
theorem eqv_way : ∀ a b : Way, PyData.eqv (wayD a) (wayD b) = decide (a = b)
  | [], [] => by simp [wayD, wayL, PyData.eqv, PyData.eqvAll]
  | [], _ :: _ => by simp [wayD, wayL, PyData.eqv, PyData.eqvAll]
  | _ :: _, [] => by simp [wayD, wayL, PyData.eqv, PyData.eqvAll]
  | x :: a, y :: b => by
    show (PyData.eqv (stD x) (stD y) && PyData.eqv (wayD a) (wayD b)) = _
    rw [eqv_st, eqv_way a b]
    by_cases h1 : x = y
    · subst h1
      by_cases h2 : a = b
      · subst h2; simp
      · simp [h2]
    · simp [h1]
theorem eqv_fr {a b n : Int} (hn : 0 < n) : PyData.eqv (frD a n) (frD b n) = decide (a = b) := by
  show PyData.eqvAll ([a / (Int.gcd a n : Int), n / (Int.gcd a n : Int)].map PyData.int) ([b / (Int.gcd b n : Int), n / (Int.gcd b n : Int)].map PyData.int) = _
  rw [eqv_ints]
  by_cases h : a = b
  · subst h; simp
  · rw [decide_eq_false h]
    refine decide_eq_false fun z => h ?_
    injection z with z1 z2
    injection z2 with z2 _
    obtain ⟨e1, e2, p1⟩ := fr_parts a hn
    obtain ⟨e3, e4, p2⟩ := fr_parts b hn
    have hg : (Int.gcd a n : Int) = (Int.gcd b n : Int) := by
      rw [z2] at e2
      have := e2.symm.trans e4
      exact Int.eq_of_mul_eq_mul_left (by omega) this
    rw [e1, e3, z1, hg]
theorem shaped_way (v : Way) : SeqAt.shaped (wayD v) = true := by
  obtain ⟨h1, h2⟩ := lay_way v
  unfold SeqAt.shaped
  show (PyData.canLayAll0 (wayL v) && decide (PyData.depthAll (wayL v) + 1 ≤ 64)) = true
  rw [h1, decide_eq_true (by omega)]; rfl
def R_samew : List PyData → PyData → Prop := fun ds d => ∃ u v : Way, ds = [wayD u, wayD v] ∧ u.length ≤ 5000 ∧ v.length ≤ 5000 ∧ d = .bool (decide (redW u = redW v))
theorem ok_are_same_ways (Fn : Fun K "are_same_ways" "are_same_ways" s_are_same_ways f fd) (T : Bt P mg base) (C_reduced_way : Df P w K mg base 41 "reduced_way" ["way"] (spR K R_red)) : FnOk P w K mg base CX0 42 f fd ["one", "other"] (spR K R_samew) := by
  refine fn_data Fn sc_are_same_ways (by decide) (fun ds d ⟨_, _, h, _⟩ => by rw [h]; rfl) fun cdv A outer s H E hr => ⟨_, (pss_one (ps_ret (pe_cmpR (r := rEqD K) (op_eqD hr.units) (pe_callD C_reduced_way (hr.mono (by decide)) (by rfl) (pa_cons (pv 0) pa_nil)) (pe_callD C_reduced_way (hr.mono (by decide)) (by rfl) (pa_cons (pv 1) pa_nil)) (nomark _)))), ?_⟩
  rintro B Q ds d rfl hM ⟨u, v, rfl, hu, hv, rfl⟩ q
  exact x_ret (ex_boolE (ex_eqD (ex_call (ds := [wayD u]) (d := wayD (redW u)) (ea_cons (ex_v rfl) ea_nil) ⟨u, rfl, hu, rfl⟩) (ex_call (ds := [wayD v]) (d := wayD (redW v)) (ea_cons (ex_v rfl) ea_nil) ⟨v, rfl, hv, rfl⟩) (shaped_way _) (shaped_way _)) (eqv_way _ _)) fun v F σ H r o => q v F H (hM ▸ r.nx) o
/-! ### shares of a stride -/
theorem frD_one : frD 1 (fac 0 : Int) = .tuple [.int 1, .int 1] := by
  unfold frD
  have e : (Int.gcd 1 ((fac 0 : Nat) : Int) : Int) = 1 := by decide
  rw [e]; rfl
def shareL (s : Int) (n : Nat) : List PyData := (List.range n).map fun j => frD (s ^ j) (fac j : Int)
def R_shares : List PyData → PyData → Prop := fun ds d => ∃ (s : Int) (m : Nat), ds = [.int s, .int m] ∧ m ≤ 40 ∧ Bd 60 s ∧ d = .list (shareL s (m + 1))
theorem ok_stride_shares (Fn : Fun K "stride_shares" "stride_shares" s_stride_shares f fd) (T : Bt P mg base) (C_fraction_of : Df P w K mg base 42 "fraction_of" ["top", "bottom"] (spR K R_frac)) : FnOk P w K mg base CX0 43 f fd ["length", "many"] (spR K R_shares) := by
  refine fn_data Fn sc_stride_shares (by decide) (fun ds d ⟨_, _, h, _⟩ => by rw [h]; rfl) fun cdv A outer s H E hr => ⟨_, (pss_cons (ps_par3 (i := 2) (j := 3) (l := 4) (by rfl) sc_stride_shares.nd rfl rfl rfl (by decide) (by decide) (by decide) rfl rfl rfl (pa_cons (pe_lst (pa_cons (pe_tup (pa_cons pe_int (pa_cons pe_int pa_nil))) pa_nil)) (pa_cons pe_int (pa_cons pe_int pa_nil))) (by rfl))
      (pss_cons (ps_for PassesOwn.never rfl (pi_range1 (by rfl) T.n_range (pa_cons (pv 1) pa_nil)) (pg_name (i := 5) sc_stride_shares.nd rfl (Or.inl rfl)) (pss_cons (ps_par (i := 3) (j := 4) (by rfl) sc_stride_shares.nd rfl rfl (by decide) rfl rfl (pa_cons (pe_op op_mulW (pv 3) (pv 0)) (pa_cons (pe_op op_mulW (pv 4) (pe_op op_add (pv 5) pe_int)) pa_nil)) (by rfl))
      (pss_one (ps_expr (pe_bm PySem.F.plainAttrs_list PySem.F.slot_list_append PySem.F.type_list_append mt_append (pv 2) (pa_cons (pe_callD C_fraction_of (hr.mono (by decide)) (by rfl) (pa_cons (pv 3) (pa_cons (pv 4) pa_nil))) pa_nil))))))
      (pss_one (ps_ret (pv 2))))), ?_⟩
  rintro B Q ds d rfl hM ⟨s, m, rfl, hm, hs, rfl⟩ q
  refine x_seq (x_par3N (ds := shareL s 1) (en_is (en_lst (ds := [.tuple [.int 1, .int 1]]) (ea_cons (ex_tup (ds := [.int 1, .int 1]) (ea_cons ex_cI (ea_cons ex_cI ea_nil)) (Nat.le_of_ble_eq_true rfl)) ea_nil) (Nat.le_of_ble_eq_true rfl)) (by show _ = [frD (s ^ 0) (fac 0 : Int)]; rw [Int.pow_zero, frD_one])) (fun p => ex_cI) (fun p => ex_cI) fun p hp => ?_)
  refine x_sq (x_forR1 (n := m) (ea_cons (ex_v rfl) ea_nil) (by omega) (fun i ε L => ε = [iv s, iv m, some (.v (.ref p)), iv (s ^ i), iv (fac i : Int), none] ∧ L = [.lst p (shareL s (i + 1))]) ⟨by rw [Int.pow_zero]; rfl, rfl⟩ ?_ ?_)
  · rintro i ε' L' hi ⟨rfl, rfl⟩
    have hpb : Bd 2500 (s ^ i) := (hs.pow i).mono (by omega)
    refine x_seq (x_par (a := .d (.int (s ^ (i + 1)))) (b := .d (.int (fac (i + 1) : Nat))) (ea_cons (ex_int (ex_mul (ex_v rfl) (ex_v rfl) (cmul hpb hs (by decide))) (by rw [Int.pow_succ])) (ea_cons (ex_int (ex_mul (ex_v rfl) (ex_add (ex_v rfl) ex_cI) (cmul (fac_bd' (by omega)) (Bd.of (k := 7) (n := 128) (by omega) (by omega) (by decide)) (by decide))) (by rw [fac_succ, Int.natCast_mul]; rfl)) ea_nil)) ?_)
    refine nxt (x_app (k := 0) (d := frD (s ^ (i + 1)) (fac (i + 1) : Nat)) (ex_v rfl) (ex_call (ds := [.int (s ^ (i + 1)), .int (fac (i + 1) : Nat)]) (ea_cons (ex_v rfl) (ea_cons (ex_v rfl) ea_nil)) ⟨_, _, rfl, by have := fac_pos (i + 1); omega, rfl⟩) rfl ⟨0, _, rfl⟩ (by unfold shareL; rw [List.length_map, List.length_range]; omega) ?_)
    refine x_abs ⟨rfl, ?_⟩ ⟨.inr rfl, .inr rfl, .inr rfl, .inr rfl, .inr rfl, .inl rfl, trivial⟩
    show [MO.lst p _] = [MO.lst p _]
    unfold shareL
    rw [List.range_succ (n := i + 1), List.map_append]; rfl
  · rintro ε' L' ⟨rfl, rfl⟩
    refine nxt (x_ret (L1 := []) (ex_frzV (k := 0) rfl rfl hp) fun v F σ H r o => q v F H (hM ▸ r.nx) ?_)
    rw [Int.toNat_natCast] at o
    exact o
end K88

/-! ## B4 -/
set_option Elab.async false
set_option linter.all false
set_option maxRecDepth 100000
set_option maxHeartbeats 4000000
set_option autoImplicit false
namespace K88
open PySem L2 Fz K80 Ways
variable {P : Program} {w : World} {K : PySem.W.Frag} {mg : Str → Option Value} {base : Heap} {f : Addr} {fd : FuncData}
theorem en_rep {B : Bg} {ε : Eps} {L La Lb : Own} {ta tb : TE} {x : AD} {ds : List PyData} {n : Nat} (ha : EX B ta ε L x La) (hb : EX B tb ε La (.d (.int n)) Lb) (hx : IsM Lb x ds) (hl : ds.length * n ≤ 100000) (hn : n ≤ 100000) : EN B (tOp rRep ta tb) ε L (List.replicate n ds).flatten Lb := en_op ha hb fun F σ H v w rp hv hw Q q => by
  obtain ⟨p, vs, rfl, g1, g2⟩ := hx.get rp hv
  refine ⟨p, n, vs, rfl, int_inv hw, g1, by omega, by omega, Evl.sz_of (by rw [dpa_len g2, Int.toNat_natCast]; exact hl), fun p' hp' => q p' F _ (Sub.rfl' F) (rp.newM hp') (rp.alloc hp' rfl ⟨_, upd_same, ?_⟩)⟩
  rw [Int.toNat_natCast]
  have : ∀ m : Nat, DqAll B.K F (List.replicate m vs).flatten (List.replicate m ds).flatten := fun m => by
    induction m with
    | zero => exact .nil
    | succ m ih => rw [List.replicate_succ, List.replicate_succ, List.flatten_cons, List.flatten_cons]; exact dpa_app g2 ih
  exact this n
def frL (A : Nat → Int) (n : Nat) : List PyData := (List.range n).map fun p => frD (A p) (fac p : Int)
theorem frL_len (A : Nat → Int) (n : Nat) : (frL A n).length = n := by unfold frL; rw [List.length_map, List.length_range]
theorem frL_get (A : Nat → Int) {n p : Nat} (h : p < n) : (frL A n)[p]? = some (frD (A p) (fac p : Int)) := by
  unfold frL; rw [List.getElem?_map, List.getElem?_range h]; rfl
theorem frL_congr {A A' : Nat → Int} {n : Nat} (h : ∀ p, p < n → A p = A' p) : frL A n = frL A' n := by
  unfold frL
  exact List.map_congr_left fun p hp => by rw [h p (List.mem_range.mp hp)]
theorem frL_set (A : Nat → Int) {n k : Nat} (z : Int) (hk : k < n) : (frL A n).set k (frD z (fac k : Int)) = frL (fun p => if p = k then z else A p) n := by
  refine List.ext_getElem? fun i => ?_
  rw [List.getElem?_set]
  by_cases hi : i < n
  · rw [frL_get (fun p => if p = k then z else A p) hi, frL_len]
    by_cases c : k = i
    · subst c; rw [if_pos rfl, if_pos hi, if_pos rfl]
    · rw [if_neg c, frL_get A hi, if_neg (fun e => c e.symm)]
  · rw [List.getElem?_eq_none (by rw [frL_len]; omega), List.getElem?_eq_none (by rw [frL_len]; omega)]
    split
    · rw [frL_len, if_neg (by omega)]
    · rfl
theorem frD_zero {n : Int} (h : 0 < n) : frD 0 n = .tuple [.int 0, .int 1] := by
  unfold frD
  have e : (Int.gcd 0 n : Int) = n := by rw [Int.gcd_zero_left]; omega
  rw [e, Int.zero_ediv, Int.ediv_self (by omega)]
theorem frL_e0 (n : Nat) : frL e0 (n + 1) = [.tuple [.int 1, .int 1]] ++ (List.replicate n [PyData.tuple [.int 0, .int 1]]).flatten := by
  induction n with
  | zero =>
    show [frD (e0 0) (fac 0 : Int)] = _
    rw [show e0 0 = 1 from rfl, frD_one]; rfl
  | succ n ih =>
    have h1 : frL e0 (n + 1 + 1) = frL e0 (n + 1) ++ [frD (e0 (n + 1)) (fac (n + 1) : Nat)] := by unfold frL; rw [List.range_succ, List.map_append]; rfl
    have h2 : e0 (n + 1) = 0 := by unfold e0; rw [if_neg (by omega)]
    rw [h1, ih, h2, frD_zero (by have := fac_pos (n + 1); omega), List.replicate_succ', List.flatten_append, List.append_assoc]; rfl
theorem share_get (s : Int) {n j : Nat} (h : j < n) : (shareL s n)[j]? = some (frD (s ^ j) (fac j : Int)) := by
  unfold shareL; rw [List.getElem?_map, List.getElem?_range h]; rfl
theorem div_zero_iff {a b : Int} (hb : 0 < b) : a / (Int.gcd a b : Int) = 0 ↔ a = 0 := by
  obtain ⟨e1, _, _⟩ := fr_parts a hb
  constructor
  · intro h; rw [e1, h]; simp
  · intro h; rw [h]; simp
/-- a share laid on what is there -/
theorem plus_run {A x S C F1 F2 FE : Int} (h1 : 0 < F1) (h2 : 0 < F2) (hE : FE = C * (F1 * F2)) (hp : 0 < FE) : frD (A * (F1 * F2) + (x * S) * FE) (FE * (F1 * F2)) = frD (A + C * S * x) FE := by
  have h12 := Int.mul_pos h1 h2
  refine frD_ratio (Int.mul_pos hp h12) hp ?_
  subst hE
  generalize F1 * F2 = G at *
  rw [Int.add_mul, Int.add_mul]
  congr 1 <;> simp only [Int.mul_assoc, Int.mul_left_comm, Int.mul_comm]
def R_wsum : List PyData → PyData → Prop := fun ds d => ∃ (v : Way) (word : List Int), ds = [wayD v, ti word] ∧ word.length ≤ 40 ∧ v.length ≤ 5000 ∧ tot v < 2 ^ 50 ∧ d = frD (rowF word v word.length) (fac word.length : Int)
theorem tot_take (v : Way) (i : Nat) : tot (v.take i) ≤ tot v := by
  have h := tot_app (v.take i) (v.drop i)
  rw [List.take_append_drop] at h
  omega
theorem tot_mem {v : Way} {i : Nat} {x : Int × Int} (h : v[i]? = some x) : tot (v.take i) + x.2.natAbs ≤ tot v := by
  have h1 := tot_take v (i + 1)
  rw [List.take_add_one, h, tot_app] at h1
  have e : tot ((some x).toList : Way) = x.2.natAbs := by show x.2.natAbs + 0 = _; omega
  omega
theorem bd_pow {x : Int} {t p : Nat} (h : x.natAbs ≤ t ^ p) (ht : t < 2 ^ 50) (hp : p ≤ 40) : Bd 2001 x := by
  unfold Bd
  refine Nat.lt_of_le_of_lt h ?_
  have h1 : t ^ p ≤ (2 ^ 50) ^ p := Nat.pow_le_pow_left (by omega) p
  have h2 : (2 ^ 50) ^ p ≤ (2 ^ 50) ^ 40 := Nat.pow_le_pow_right (by decide) hp
  have h3 : (2 ^ 50) ^ 40 < 2 ^ 2001 := by decide +kernel
  omega
theorem rows_snoc' (word : List Int) {v : Way} {i : Nat} {x : Int × Int} (h : v[i]? = some x) : rowF word (v.take (i + 1)) = opT word x.1 x.2 (rowF word (v.take i)) := by
  unfold rowF
  rw [List.take_add_one, h, row_app]; rfl
end K88

/-! ## B5 -/
set_option Elab.async false
set_option linter.all false
set_option maxRecDepth 100000
set_option maxHeartbeats 4000000
set_option autoImplicit false
namespace K88
open PySem L2 Fz K80 Ways
variable {P : Program} {w : World} {K : PySem.W.Frag} {mg : Str → Option Value} {base : Heap} {f : Addr} {fd : FuncData}
def runT (word : List Int) (l s : Int) (r : Nat → Int) (b j p : Nat) : Int := partT word l s r b p + (if b < p ∧ p ≤ b + j then wt word l s p (p - b) * r b else 0)
theorem ok_way_sum (Fn : Fun K "way_sum" "way_sum" s_way_sum f fd) (T : Bt P mg base) (C_stride_shares : Df P w K mg base 43 "stride_shares" ["length", "many"] (spR K R_shares)) (C_fraction_plus : Df P w K mg base 43 "fraction_plus" ["one", "other"] (spR K R_plus))
    (C_fraction_times : Df P w K mg base 43 "fraction_times" ["one", "other"] (spR K R_tim)) : FnOk P w K mg base CX0 44 f fd ["way", "word"] (spR K R_wsum) := by
  refine fn_data Fn sc_way_sum (by decide) (fun ds d ⟨_, _, h, _⟩ => by rw [h]; rfl) fun cdv A outer s H E hr => ⟨_, (pss_cons (ps_set (i := 2) sc_way_sum.nd rfl (.inl rfl) (pe_op op_cat (pe_lst (pa_cons (pe_tup (pa_cons pe_int (pa_cons pe_int pa_nil))) pa_nil)) (pe_op op_rep (pe_lst (pa_cons (pe_tup (pa_cons pe_int (pa_cons pe_int pa_nil))) pa_nil)) (pe_callB (r := Evl.rLenS K) call_len_seq (by rfl) T.n_len (by decide +kernel) (pa_cons (pv 1) pa_nil)))))
      (pss_cons (ps_for PassesOwn.never rfl (pi_tup (pv 0)) (pg_tup rfl (pgs_cons (pg_name (i := 3) sc_way_sum.nd rfl (Or.inl rfl)) (pgs_cons (pg_name (i := 4) sc_way_sum.nd rfl (Or.inl rfl)) pgs_nil))) (pss_cons (ps_par (i := 5) (j := 6) (by rfl) sc_way_sum.nd rfl rfl (by decide) rfl rfl (pa_cons (pe_callD C_stride_shares (hr.mono (by decide)) (by rfl) (pa_cons (pv 4) (pa_cons (pe_callB (r := Evl.rLenS K) call_len_seq (by rfl) T.n_len (by decide +kernel) (pa_cons (pv 1) pa_nil)) pa_nil))) (pa_cons (pe_callTy (r := rListOf K) call_list_of (by rfl) T.n_list (by decide +kernel) (pa_cons (pv 2) pa_nil)) pa_nil)) (by rfl))
      (pss_cons (ps_for PassesOwn.never rfl (pi_enum (by rfl) T.n_enumerate (pa_cons (pv 2) pa_nil)) (pg_tup rfl (pgs_cons (pg_name (i := 7) sc_way_sum.nd rfl (Or.inl rfl)) (pgs_cons (pg_name (i := 8) sc_way_sum.nd rfl (Or.inl rfl)) pgs_nil))) (pss_cons (ps_set (i := 9) sc_way_sum.nd rfl (.inl rfl) (pv 7))
      (pss_one (ps_while PassesOwn.never (PW.pt (pw_and (pt_cmpR op_ne (pe_ix (r := rIxT K) ix_tup (pv 8) pe_int (fun _ _ => rfl)) pe_int (nomark _)) (pw_and (pt_cmpR op_lt (pv 9) (pe_callB (r := Evl.rLenS K) call_len_seq (by rfl) T.n_len (by decide +kernel) (pa_cons (pv 1) pa_nil)) (nomark _)) (pw_and1 (pt_cmpR op_eq (pe_ix (r := rIxT K) ix_tup (pv 1) (pv 9) (fun _ _ => rfl)) (pv 3) (nomark _)))))) (pss_cons (ps_set (i := 9) sc_way_sum.nd rfl (.inl rfl) (pe_op op_add (pv 9) pe_int))
      (pss_one (ps_asg (pe_callD C_fraction_plus (hr.mono (by decide)) (by rfl) (pa_cons (pe_ix (r := rIxL K) ix_list (pv 6) (pv 9) (fun _ _ => rfl)) (pa_cons (pe_callD C_fraction_times (hr.mono (by decide)) (by rfl) (pa_cons (pv 8) (pa_cons (pe_ix (r := rIxL K) ix_list (pv 5) (pe_op op_sub (pv 9) (pv 7)) (fun _ _ => rfl)) pa_nil))) pa_nil))) (pg_sub (pv 6) (pv 9) set_list))))))))
      (pss_one (ps_set (i := 2) sc_way_sum.nd rfl (.inl rfl) (pe_callTy (r := rListOf K) call_list_of (by rfl) T.n_list (by decide +kernel) (pa_cons (pv 6) pa_nil)))))))
      (pss_one (ps_ret (pe_ix (r := rIxL K) ix_list (pv 2) (pe_un un_neg pe_int) (fun _ _ => rfl)))))), ?_⟩
  rintro B Q ds d rfl hM ⟨v, word, rfl, hn, hvl, htot, rfl⟩ q
  generalize hwn : word.length = n at *
  have hlen : ((word.map PyData.int).length : Int) = (n : Int) := by rw [List.length_map, hwn]
  have hf : ∀ p, (0 : Int) < (fac p : Int) := fun p => by have := fac_pos p; omega
  refine x_seq (x_set (a := .d (.list (frL e0 (n + 1)))) (ex_is (ex_frz (en_cat (ds := [.tuple [.int 1, .int 1]]) (es := (List.replicate n [PyData.tuple [.int 0, .int 1]]).flatten) (ex_frz (en_lst (ds := [.tuple [.int 1, .int 1]]) (ea_cons (ex_tup (ds := [.int 1, .int 1]) (ea_cons ex_cI (ea_cons ex_cI ea_nil)) (Nat.le_of_ble_eq_true rfl)) ea_nil) (Nat.le_of_ble_eq_true rfl)))
    (ex_frz (en_rep (n := n) (ds := [.tuple [.int 0, .int 1]]) (ex_frz (en_lst (ds := [.tuple [.int 0, .int 1]]) (ea_cons (ex_tup (ds := [.int 0, .int 1]) (ea_cons ex_cI (ea_cons ex_cI ea_nil)) (Nat.le_of_ble_eq_true rfl)) ea_nil) (Nat.le_of_ble_eq_true rfl))) (ex_int (ex_lenT (ds := word.map PyData.int) (ex_v rfl) rfl) hlen) .d (by show 1 * n ≤ 100000; omega) (by omega))) .d .d ?_)) (by rw [frL_e0])) ?_)
  · rw [List.length_flatten, List.map_replicate, List.sum_replicate_nat]
    show 1 + n * 1 ≤ 100000
    omega
  refine x_sq (x_forT (ds := wayL v) (ex_v rfl) (fun u i ε L => ε = [some (.d (wayD v)), some (.d (ti word)), some (.d (.list (frL (rowF word (v.take i)) (n + 1)))), none, none, none, none, none, none, none] ∧ L = [.know u (wayD v)]) (fun u => ⟨rfl, rfl⟩) (fun u i ε' L' ⟨_, h⟩ => by rw [h]; simp [wayD]) ?_ ?_)
  · rintro u i d ε' L' hd ⟨rfl, rfl⟩
    obtain ⟨x, hx, rfl⟩ := way_get hd
    have hrow := rowF_le word (v.take i)
    have htm := tot_mem hx
    rw [rows_snoc' word hx]
    generalize rowF word (v.take i) = r at *
    obtain ⟨l, s⟩ := x
    have hts : tot (v.take i) + s.natAbs < 2 ^ 50 := by
      have : tot (v.take i) + s.natAbs ≤ tot v := htm
      omega
    have hrb : ∀ p, p ≤ 40 → Bd 2001 (r p) := fun p hp => bd_pow (hrow p) (by omega) hp
    have hpb : ∀ b p, p ≤ 40 → Bd 2001 (partT word l s r b p) := fun b p hp => bd_pow (part_le hrow b p) hts hp
    have hsb : Bd 60 s := by
      unfold Bd
      have : (2 : Nat) ^ 50 ≤ 2 ^ 60 := by decide
      omega
    refine ⟨_, gt_tup2 (d := .int l) (e := .int s), ?_⟩
    refine x_seq (x_parN (a := .d (.list (shareL s (n + 1)))) (ex_call (ds := [.int s, .int n]) (ea_cons (ex_v rfl) (ea_cons (ex_int (ex_lenT (ds := word.map PyData.int) (ex_v rfl) rfl) hlen) ea_nil)) ⟨s, n, rfl, hn, hsb, rfl⟩) (en_list (ds := frL r (n + 1)) (ex_v rfl) .d) fun pl hpl => ?_)
    refine x_sq (x_forE (ds := frL r (n + 1)) (ea_cons (ex_v rfl) ea_nil) (fun u2 b ε L => ε = [some (.d (wayD v)), some (.d (ti word)), some (.d (.list (frL r (n + 1)))), iv l, iv s, some (.d (.list (shareL s (n + 1)))), some (.v (.ref pl)), none, none, none] ∧ L = [.lst pl (frL (partT word l s r b) (n + 1)), .know u (wayD v), .know u2 (.list (frL r (n + 1)))])
      (fun u2 => ⟨rfl, by rw [frL_congr (A := partT word l s r 0) (A' := r) fun p _ => part_zero word l s r p]; rfl⟩) (fun u2 b ε' L' ⟨_, h⟩ => by rw [h]; simp) ?_ ?_)
    · rintro u2 b d ε' L' hd ⟨rfl, rfl⟩
      have hb : b < n + 1 := by
        have := (List.getElem?_eq_some_iff.mp hd).1
        rw [frL_len] at this
        exact this
      rw [frL_get r hb] at hd
      cases hd
      refine ⟨_, gt_tup2 (d := .int (b : Int)) (e := frD (r b) (fac b : Int)), ?_⟩
      refine x_seq (x_set (ex_v rfl) ?_)
      have hd0 := div_zero_iff (a := r b) (hf b)
      refine nxt (x_while (m0 := n - b) (fun m ε L => ∃ j : Nat, b + j ≤ n ∧ m = n - (b + j) ∧ runs word l (b + j) j = true ∧ (j = 0 ∨ r b ≠ 0) ∧ ε = [some (.d (wayD v)), some (.d (ti word)), some (.d (.list (frL r (n + 1)))), iv l, iv s, some (.d (.list (shareL s (n + 1)))), some (.v (.ref pl)), iv b, some (.d (frD (r b) (fac b : Int))), iv ((b + j : Nat) : Int)] ∧ L = [.lst pl (frL (runT word l s r b j) (n + 1)), .know u (wayD v), .know u2 (.list (frL r (n + 1)))])
        ⟨0, by omega, by omega, rfl, .inl rfl, rfl, ?_⟩ ?_)
      · have e : frL (runT word l s r b 0) (n + 1) = frL (partT word l s r b) (n + 1) := frL_congr fun p _ => by
          unfold runT
          rw [if_neg (by omega)]; omega
        rw [e]
      · rintro m ε' L' ⟨j, hj, rfl, hrun, hj0, rfl, rfl⟩
        refine ⟨_, _, et_and (et_test (ex_neI (ex_ixT (ds := [.int (r b / (Int.gcd (r b) (fac b : Int) : Int)), .int ((fac b : Int) / (Int.gcd (r b) (fac b : Int) : Int))]) (ex_v rfl) ex_cI rfl) ex_cI)) (fun _ => et_and (et_test (ex_lt (ex_v rfl) (ex_int (ex_lenT (ds := word.map PyData.int) (ex_v rfl) rfl) hlen))) (fun h2 => et_test (ex_eqI (ex_ixT (ds := word.map PyData.int) (d := .int (word.getD (b + j) 0)) (ex_v rfl) (ex_v rfl) (at_ints (by have := of_decide_eq_true h2; omega))) (ex_v rfl))) (fun _ => rfl)) (fun _ => rfl), fun hc => ?_, fun hc => ?_⟩
        · rw [Bool.and_eq_true, Bool.and_eq_true] at hc
          obtain ⟨c1, c2, c3⟩ := hc
          have hr0 : r b ≠ 0 := fun z => by
            rw [hd0.mpr z] at c1
            exact absurd c1 (by decide)
          have hlt : b + j < n := by have := of_decide_eq_true c2; omega
          have hlet : word.getD (b + j) 0 = l := of_decide_eq_true c3
          have hrun' := runs_grow hrun hlet
          refine x_seq (x_set (a := .d (.int ((b + (j + 1) : Nat) : Int))) (ex_int (ex_add (ex_v rfl) ex_cI) (by omega)) ?_)
          have hF : (fac (b + (j + 1)) : Int) = (ch (b + (j + 1)) (j + 1) : Int) * ((fac b : Int) * (fac (j + 1) : Int)) := by
            rw [← Int.natCast_mul, ← Int.natCast_mul, ch_fac]
          have hrunE : runT word l s r b j (b + (j + 1)) = partT word l s r b (b + (j + 1)) := by
            unfold runT
            rw [if_neg (by omega)]; omega
          have hval : frD (runT word l s r b j (b + (j + 1)) * ((fac b : Int) * (fac (j + 1) : Int)) + (r b * s ^ (j + 1)) * (fac (b + (j + 1)) : Int)) ((fac (b + (j + 1)) : Int) * ((fac b : Int) * (fac (j + 1) : Int))) = frD (runT word l s r b (j + 1) (b + (j + 1))) (fac (b + (j + 1)) : Int) := by
            rw [plus_run (hf b) (hf (j + 1)) hF (hf _), hrunE]
            congr 1
            unfold runT
            have e : b + (j + 1) - b = j + 1 := by omega
            rw [if_pos (by omega), e]
            unfold wt
            rw [if_pos hrun']
          have bf : ∀ p, p ≤ 40 → Bd 400 (fac p : Int) := fun p hp => fac_bd' (by omega)
          have bsj : Bd 2401 (s ^ (j + 1)) := (hsb.pow (j + 1)).mono (by omega)
          refine nxt (x_setIx (k := 0) (j := b + (j + 1)) (ds := frL (runT word l s r b j) (n + 1)) (d := frD (runT word l s r b (j + 1) (b + (j + 1))) (fac (b + (j + 1)) : Int)) (ex_is (ex_call (ds := [frD (runT word l s r b j (b + (j + 1))) (fac (b + (j + 1)) : Int), frD (r b * s ^ (j + 1)) ((fac b : Int) * (fac (j + 1) : Int))]) (ea_cons (ex_ixL (ds := frL (runT word l s r b j) (n + 1)) (ex_v rfl) (ex_v rfl) (.o (k := 0) rfl) (atI_nat (frL_get _ (by omega)))) (ea_cons (ex_call (ds := [frD (r b) (fac b : Int), frD (s ^ (j + 1)) (fac (j + 1) : Int)]) (ea_cons (ex_v rfl) (ea_cons (ex_ixL (ds := shareL s (n + 1)) (ex_v rfl) (ex_int (k := ((j + 1 : Nat) : Int)) (ex_sub (ex_v rfl) (ex_v rfl)) (by omega)) .d (atI_nat (share_get s (by omega)))) ea_nil))
            ⟨r b, _, s ^ (j + 1), _, rfl, hf b, hf (j + 1), (hrb b (by omega)).mono (by decide), (bf b (by omega)).mono (by decide), bsj.mono (by decide), (bf (j + 1) (by omega)).mono (by decide), rfl⟩) ea_nil)) ⟨_, _, _, _, rfl, hf _, Int.mul_pos (hf b) (hf (j + 1)), by rw [hrunE]; exact (hpb b _ (by omega)).mono (by decide), (bf _ (by omega)).mono (by decide), ?_, ((bf b (by omega)).mul (bf (j + 1) (by omega))).mono (by decide), rfl⟩) (by rw [hval])) (ex_v rfl) (ex_v rfl) rfl ?_ ?_)
          · exact ((hrb b (by omega)).mul bsj).mono (by decide)
          · rw [frL_len]
            unfold ixN
            rw [if_pos (by omega), if_pos (by omega), Int.toNat_natCast]
          · refine x_abs ⟨n - (b + (j + 1)), by omega, j + 1, by omega, rfl, hrun', .inr hr0, rfl, ?_⟩ (Wk.refl _)
            have e : (frL (runT word l s r b j) (n + 1)).set (b + (j + 1)) (frD (runT word l s r b (j + 1) (b + (j + 1))) (fac (b + (j + 1)) : Int)) = frL (runT word l s r b (j + 1)) (n + 1) := by
              rw [frL_set _ _ (by omega)]
              refine frL_congr fun p hp => ?_
              by_cases c : p = b + (j + 1)
              · rw [if_pos c, c]
              · rw [if_neg c]
                unfold runT
                by_cases c4 : b < p ∧ p ≤ b + j
                · rw [if_pos c4, if_pos (by omega)]
                · rw [if_neg c4, if_neg (by omega)]
            rw [e]; rfl
        · have efin : frL (runT word l s r b j) (n + 1) = frL (partT word l s r (b + 1)) (n + 1) := by
            refine frL_congr fun p hp => ?_
            rw [part_succ]
            unfold runT
            by_cases c4 : b < p ∧ p ≤ b + j
            · rw [if_pos c4, if_pos c4.1]
            · rw [if_neg c4]
              by_cases c5 : b < p
              · rw [if_pos c5]
                have hz : wt word l s p (p - b) * r b = 0 := by
                  by_cases c6 : r b = 0
                  · rw [c6, Int.mul_zero]
                  · have c1 : (!decide (r b / (Int.gcd (r b) (fac b : Int) : Int) = 0)) = true := by
                      rw [decide_eq_false fun z => c6 (hd0.mp z)]; rfl
                    have c2 : decide (((b + j : Nat) : Int) < (n : Int)) = true := decide_eq_true (by omega)
                    rw [c1, c2, Bool.true_and, Bool.true_and] at hc
                    have hne : word.getD (b + j) 0 ≠ l := of_decide_eq_false hc
                    unfold wt
                    rw [runs_end (e := b + j) (by omega) (by omega) hne]
                    simp
                rw [hz]
              · rw [if_neg c5]
          refine x_abs ⟨rfl, ?_⟩ ⟨.inr rfl, .inr rfl, .inr rfl, .inr rfl, .inr rfl, .inr rfl, .inr rfl, .inl rfl, .inl rfl, .inl rfl, trivial⟩
          rw [efin]
    · rintro u2 ε' L' ⟨rfl, rfl⟩
      have efin : frL (partT word l s r ((frL r (n + 1)).length)) (n + 1) = frL (opT word l s r) (n + 1) := by
        rw [frL_len]
        exact frL_congr fun p hp => part_full word l s r (by omega)
      rw [efin]
      refine x_set (a := .d (.list (frL (opT word l s r) (n + 1)))) (ex_frz (en_list (ds := frL (opT word l s r) (n + 1)) (ex_v rfl) (.o (k := 0) rfl))) ?_
      refine ho_drop (k := 0) (ho_drop (k := 1) (x_abs ⟨rfl, rfl⟩ ⟨.inr rfl, .inr rfl, .inr rfl, .inl rfl, .inl rfl, .inl rfl, .inl rfl, .inr rfl, .inr rfl, .inr rfl, trivial⟩) rfl (fun x hx => nomatch hx)) rfl (fun x hx => by rw [List.mem_singleton.mp hx]; exact hpl)
  · rintro u ε' L' ⟨rfl, rfl⟩
    have ev : v.take (wayL v).length = v := by rw [wayL_len, List.take_length]
    rw [ev]
    have el : frL (rowF word v) (n + 1) = frL (rowF word v) n ++ [frD (rowF word v n) (fac n : Int)] := by unfold frL; rw [List.range_succ, List.map_append]; rfl
    refine nxt (x_ret (ex_ixL (ds := frL (rowF word v) (n + 1)) (d := frD (rowF word v n) (fac n : Int)) (ex_v rfl) (ex_neg ex_cI) .d (by rw [el]; exact atI_last _ _)) fun v F σ H r o => q v F H (hM ▸ r.nx) o)
end K88

/-! ## B6 -/
set_option Elab.async false
set_option linter.all false
set_option maxRecDepth 100000
set_option maxHeartbeats 4000000
set_option autoImplicit false
namespace K88
open PySem L2 Fz K80 Ways
variable {P : Program} {w : World} {K : PySem.W.Frag} {mg : Str → Option Value} {base : Heap} {f : Addr} {fd : FuncData}
theorem small_div {n : Int} (h : 0 < n) (hn : n.natAbs < 2 ^ 8000) (i : Int) : CDivW i n := wide_div (b := 8000) h hn (by decide) (by decide)
theorem last_get {r : List Int} {c : Int} : (r.reverse ++ [c])[(r.reverse ++ [c]).length - 1]? = some c := by
  rw [List.length_append, List.length_singleton, Nat.add_sub_cancel, List.getElem?_append_right (Nat.le_refl _), Nat.sub_self]; rfl
theorem ok_law_draw (Fn : Fun K "_law_draw" "_law_draw" s_law_draw f fd) (T : Bt P mg base) : FnOk P w K mg base CX0 41 f fd ["bag", "below"] (spB K R_draw) := by
  refine fn_bag Fn sc_law_draw (by decide) (fun b ds d b' ⟨_, _, _, h, _⟩ => by rw [h]; rfl) fun cdv A outer s H E hr => ⟨_, (pss_cons (ps_while PassesOwn.never (PW.pt (pw_and (pt_cmpR op_eq (pe_ix (r := rIxL K) ix_list (pv 0) pe_int (fun _ _ => rfl)) pe_int (nomark _)) (pw_and1 (pt_cmpR (r := rNeD K) (op_neD hr.units) (pe_ix (r := rIxL K) ix_list (pv 0) pe_int (fun _ _ => rfl)) (pe_lst pa_nil) (nomark _))))) (pss_cons (ps_set (i := 3) sc_law_draw.nd rfl (.inl rfl) (pe_bm0 PySem.F.plainAttrs_list PySem.F.slot_list_pop PySem.F.type_list_pop mt_pop (pe_ix (r := rIxL K) ix_list (pv 0) pe_int (fun _ _ => rfl))))
      (pss_one (ps_asg (pe_ifExp (pt_cmpR op_gt (pv 3) (pe_op op_pow pe_int pe_int) (nomark _)) (pv 3) pe_int) (pg_sub (pv 0) pe_int set_list)))))
      (pss_cons (ps_if (pt_cmpR op_gt (pe_ix (r := rIxL K) ix_list (pv 0) pe_int (fun _ _ => rfl)) pe_int (nomark _)) (pss_cons (ps_set (i := 4) sc_law_draw.nd rfl (.inl rfl) (pe_op op_mod (pe_callTy call_int1 (by rfl) T.n_int (by decide +kernel) (pa_cons (pe_ix (r := rIxL K) ix_list (pv 0) pe_int (fun _ _ => rfl)) pa_nil)) (pv 1)))
      (pss_cons (ps_asg (pe_op op_fdivW (pe_ix (r := rIxL K) ix_list (pv 0) pe_int (fun _ _ => rfl)) (pv 1)) (pg_sub (pv 0) pe_int set_list))
      (pss_one (ps_ret (pv 4))))) pss_nil)
      (pss_cons (ps_asg (pe_op op_mod (pe_callTy call_int1 (by rfl) T.n_int (by decide +kernel) (pa_cons (pe_op op_add (pe_op op_mulW (pe_ix (r := rIxL K) ix_list (pv 0) pe_int (fun _ _ => rfl)) pe_int) pe_int) pa_nil)) pe_int) (pg_sub (pv 0) pe_int set_list))
      (pss_cons (ps_set (i := 2) sc_law_draw.nd rfl (.inl rfl) (pe_op op_mod (pe_callTy call_int1 (by rfl) T.n_int (by decide +kernel) (pa_cons (pe_op op_mulW (pe_ix (r := rIxL K) ix_list (pv 0) pe_int (fun _ _ => rfl)) (pe_ix (r := rIxL K) ix_list (pv 0) pe_int (fun _ _ => rfl))) pa_nil)) pe_int))
      (pss_one (ps_ret (pe_op op_mod (pe_callTy call_int1 (by rfl) T.n_int (by decide +kernel) (pa_cons (pe_op op_fdivW (pv 2) pe_int) pa_nil)) (pv 1)))))))), ?_⟩
  rintro B Q pb pc b ds d b' rfl hM ⟨n, hn, hz, rfl, rfl, rfl⟩ q
  refine x_seq (x_while (m0 := b.cells.length) (fun m ε L => ∃ (r : List Int) (u : Int), m = r.length ∧ fetchR r u = fetchR b.cells.reverse b.cur ∧ 0 ≤ u ∧ (∀ c ∈ r, 0 ≤ c) ∧ ε = [some (.v (.ref pb)), iv n, none, none, none] ∧ L = [.bag pb pc r.reverse u b.mix])
    ⟨b.cells.reverse, b.cur, by rw [List.length_reverse], rfl, b.ok.2.2.1, fun c hc => b.ok.2.2.2 c (List.mem_reverse.mp hc), rfl, by rw [List.reverse_reverse]; rfl⟩ ?_)
  rintro m ε' L' ⟨r, u, rfl, hf, hu, hr0, rfl, rfl⟩
  refine ⟨_, _, et_and (et_test (ex_eqI (ex_bag1 (k := 0) (ex_v rfl) ex_cI rfl) ex_cI)) (fun _ => et_test (ex_bagFull (k := 0) (ex_bag0 (k := 0) (ex_v rfl) ex_cI rfl) rfl)) (fun _ => rfl), fun hb => ?_, fun hb => ?_⟩
  · rw [Bool.and_eq_true] at hb
    have hu0 : u = 0 := of_decide_eq_true hb.1
    match r, hf, hr0, hb with
    | [], _, _, hb => exact absurd hb.2 (by decide)
    | c :: r, hf, hr0, hb =>
      have hc0 := hr0 c List.mem_cons_self
      refine x_seq (x_set (a := .d (.int c)) (ex_popBag (k := 0) (ex_bag0 (k := 0) (ex_v rfl) ex_cI rfl) rfl (by rw [List.reverse_cons]; exact last_get)) ?_)
      refine nxt (x_bag1 (k := 0) (ex_ifI (et_test (ex_gt (ex_v rfl) (ex_int (k := 1000000000) (ex_pow ex_cI ex_cI ⟨by decide, by decide, by decide⟩) (by decide +kernel)))) (fun _ => ex_v rfl) (fun _ => ex_cI)) (ex_v rfl) ex_cI rfl ?_)
      refine x_abs (ε' := [some (.v (.ref pb)), iv n, none, none, none]) ⟨r.length, Nat.lt_succ_self _, r, (if 1000000000 < c then c else 0), rfl, ?_, ?_, fun x hx => hr0 x (List.mem_cons_of_mem _ hx), rfl, ?_⟩ ⟨.inr rfl, .inr rfl, .inr rfl, .inl rfl, .inr rfl, trivial⟩
      · rw [← hf, hu0]
        show _ = if (0 : Int) = 0 then _ else _
        rw [if_pos rfl]
      · split
        · exact hc0
        · exact Int.le_refl 0
      · show [MO.bag pb pc _ _ _] = [MO.bag pb pc _ _ _]
        rw [List.reverse_cons, List.dropLast_concat]
        simp only [decide_eq_true_eq]
  · have hdone : fetchR r u = (r, u) := by
      match r, hb with
      | [], _ => rfl
      | c :: r, hb =>
        have hu1 : u ≠ 0 := fun e => by
          subst e
          rw [List.reverse_cons] at hb
          simp at hb
        show (if u = 0 then _ else _) = _
        rw [if_neg hu1]
    rw [hdone] at hf
    have e1 : fetchC b = r := by unfold fetchC; rw [← hf]
    have e2 : fetchU b = u := by unfold fetchU; rw [← hf]
    refine nxt (x_seq (x_if (et_test (ex_gt (ex_bag1 (k := 0) (ex_v rfl) ex_cI rfl) ex_cI)) (fun hc => ?_) fun hc => ?_))
    · have hu1 : 0 < u := of_decide_eq_true hc
      obtain ⟨d1, d2, d3⟩ := drawB_pos hn (b := b) (by rw [e2]; exact hu1)
      refine x_seq (x_set (ex_mod (ex_int1 (ex_bag1 (k := 0) (ex_v rfl) ex_cI rfl)) (ex_v rfl) hn) ?_)
      refine x_sq (x_bag1 (k := 0) (ex_fdiv (ex_bag1 (k := 0) (ex_v rfl) ex_cI rfl) (ex_v rfl) (small_div hn hz u)) (ex_v rfl) ex_cI rfl ?_)
      refine nxt (x_ret (ex_v rfl) fun v F σ H rp o => q v F H (hM ▸ rp.nx) ?_ ?_)
      · rw [d1, d2, d3, e1, e2]; exact rp.bag List.mem_cons_self
      · unfold drawV; rw [e2, if_pos hu1]; exact o
    · have hu1 : ¬ 0 < u := of_decide_eq_false hc
      obtain ⟨d1, d2, d3⟩ := drawB_zero hn (b := b) (by rw [e2]; exact hu1)
      have m1 := b.ok.1
      have m2 := b.ok.2.1
      have n1 := nextM_ok b.mix
      refine x_next (x_sq (x_bag2 (k := 0) (ex_mod (ex_int1 (ex_add (ex_mul (ex_bag2 (k := 0) (ex_v rfl) ex_cI rfl) ex_cI (cmul (Bd.of (k := 32) (n := 2147483648) (by omega) (by omega) (by decide)) (Bd.of (k := 16) (n := 48272) (by decide) (by decide) (by decide)) (by decide))) ex_cI)) ex_cI (by decide)) (ex_v rfl) ex_cI rfl ?_))
      refine x_sq (x_set (ex_mod (ex_int1 (ex_mul (ex_bag2 (k := 0) (ex_v rfl) ex_cI rfl) (ex_bag2 (k := 0) (ex_v rfl) ex_cI rfl) ?_)) ex_cI (by decide)) ?_)
      rotate_left
      · refine nxt (x_ret (ex_mod (ex_int1 (ex_fdiv (ex_v rfl) ex_cI (cdiv (b := 3) (by decide) (by unfold Bd; decide) (by decide)))) (ex_v rfl) hn) fun v F σ H rp o => q v F H (hM ▸ rp.nx) ?_ ?_)
        · rw [d1, d2, d3, e1, e2]; exact rp.bag List.mem_cons_self
        · unfold drawV; rw [e2, if_neg hu1]; exact o
      · have hb : Bd 32 (nextM b.mix) := Bd.of (k := 32) (n := 2147483648) (by omega) (by omega) (by decide)
        exact cmul hb hb (by decide)
theorem ok_law_pick (Fn : Fun K "_law_pick" "_law_pick" s_law_pick f fd) (T : Bt P mg base) (C_law_draw : Df P w K mg base 41 "_law_draw" ["bag", "below"] (spB K R_draw)) : FnOk P w K mg base CX0 42 f fd ["bag", "some"] (spB K R_pickQ) := by
  refine fn_bag Fn sc_law_pick (by decide) (fun b ds d b' ⟨_, _, _, _, h, _⟩ => by rw [h]; rfl) fun cdv A outer s H E hr => ⟨_, (pss_one (ps_ret (pe_ix (r := rIx K) ix_seq (pv 1) (pe_callD C_law_draw (hr.mono (by decide)) (by rfl) (pa_cons (pv 0) (pa_cons (pe_callB (r := Evl.rLenS K) call_len_seq (by rfl) T.n_len (by decide +kernel) (pa_cons (pv 1) pa_nil)) pa_nil))) (fun _ _ => rfl)))), ?_⟩
  rintro B Q pb pc b ds d b' rfl hM ⟨qq, xs, hx, hz, rfl, rfl, rfl⟩ q
  have hl : 0 < (xs.length : Int) := by
    have := List.length_pos_iff.mpr hx
    omega
  have hv := drawV_ok b hl
  have hat : atI xs (drawV b xs.length) = some (xs.getD (drawV b xs.length).toNat .none) := by
    have e : drawV b xs.length = (((drawV b xs.length).toNat : Nat) : Int) := by omega
    rw [e]
    refine atI_nat ?_
    have hlt : (drawV b xs.length).toNat < xs.length := by omega
    rw [Int.toNat_natCast, List.getElem?_eq_getElem hlt, List.getD_eq_getElem?_getD, List.getElem?_eq_getElem hlt]; rfl
  have hsz : (xs.length : Int).natAbs < 2 ^ 8000 := by
    have e : (xs.length : Int).natAbs < 2 ^ 20 := by omega
    exact Nat.lt_of_lt_of_le e (Nat.pow_le_pow_right (by decide) (by decide))
  cases qq with
  | false =>
    exact x_ret (ex_ixQL (ds := xs) (x := .d (.list xs)) (ex_v rfl) (ex_callB (k := 0) (ds := [.int (xs.length : Int)]) (ea_cons (ex_v rfl) (ea_cons (ex_lenL (x := .d (.list xs)) (ex_v rfl) .d rfl) ea_nil)) rfl ⟨xs.length, hl, hsz, rfl, rfl, rfl⟩) .d hat) fun v F σ H rp o => q v F H (hM ▸ rp.nx) (rp.bag List.mem_cons_self) o
  | true =>
    exact x_ret (ex_ixQT (ds := xs) (ex_v rfl) (ex_callB (k := 0) (ds := [.int (xs.length : Int)]) (ea_cons (ex_v rfl) (ea_cons (ex_lenT (ds := xs) (ex_v rfl) rfl) ea_nil)) rfl ⟨xs.length, hl, hsz, rfl, rfl, rfl⟩) hat) fun v F σ H rp o => q v F H (hM ▸ rp.nx) (rp.bag List.mem_cons_self) o
theorem ok_law_least (Fn : Fun K "_law_least" "_law_least" s_law_least f fd) (T : Bt P mg base) : FnOk P w K mg base CX0 41 f fd ["upper", "lower"] (spR K R_frac) := by
  refine fn_data Fn sc_law_least (by decide) (fun ds d ⟨a, b, h, _⟩ => by rw [h]; rfl) fun cdv A outer s H E hr => ⟨_, (pss_cons (ps_par (i := 2) (j := 3) (by rfl) sc_law_least.nd rfl rfl (by decide) rfl rfl (pa_cons (pe_callB call_abs (by rfl) T.n_abs (by decide +kernel) (pa_cons (pv 0) pa_nil)) (pa_cons (pv 1) pa_nil)) (by rfl))
      (pss_cons (ps_while PassesOwn.never (pt_cmpR op_gt (pv 3) pe_int (nomark _)) (pss_one (ps_par (i := 2) (j := 3) (by rfl) sc_law_least.nd rfl rfl (by decide) rfl rfl (pa_cons (pv 3) (pa_cons (pe_op op_mod (pe_callTy call_int1 (by rfl) T.n_int (by decide +kernel) (pa_cons (pv 2) pa_nil)) (pv 3)) pa_nil)) (by rfl))))
      (pss_one (ps_ret (pe_tup (pa_cons (pe_op (op_fdivP hr T.hpl) (pv 0) (pv 2)) (pa_cons (pe_op (op_fdivP hr T.hpl) (pv 1) (pv 2)) pa_nil))))))), ?_⟩
  rintro B Q ds d rfl hM ⟨a, b, rfl, hb0, rfl⟩ q
  refine x_seq (x_par (ea_cons (ex_abs (ex_v rfl)) (ea_cons (ex_v rfl) ea_nil)) ?_)
  rw [abs_if]
  refine x_sq (x_while (m0 := b.toNat) (fun m ε L => ∃ x y : Int, 0 ≤ x ∧ 0 ≤ y ∧ Int.gcd x y = Int.gcd a b ∧ m = y.toNat ∧ ε = [iv a, iv b, iv x, iv y] ∧ L = []) ⟨a.natAbs, b, by omega, by omega, by show Nat.gcd _ _ = _; simp [Int.gcd], rfl, rfl, rfl⟩ ?_)
  rintro m ε' L' ⟨x, y, hx, hy, hg, rfl, rfl, rfl⟩
  refine ⟨_, _, et_test (ex_gt (ex_v rfl) ex_cI), fun hb => ?_, fun hb => ?_⟩
  · have hy0 : 0 < y := of_decide_eq_true hb
    refine x_par (ea_cons (ex_v rfl) (ea_cons (ex_mod (ex_int1 (ex_v rfl)) (ex_v rfl) hy0) ea_nil)) ?_
    have h1 := Int.emod_lt_of_pos x hy0
    have h2 := Int.emod_nonneg x (show y ≠ 0 by omega)
    exact x_abs ⟨(x % y).toNat, by omega, y, x % y, hy, h2, by rw [gcd_step hx hy0, hg], rfl, rfl, rfl⟩ (Wk.refl _)
  · have hy0 : y = 0 := by have := of_decide_eq_false hb; omega
    subst hy0
    have hgp := gcd_pos (t := a) hb0
    have hxg : x = (Int.gcd a b : Int) := by
      rw [← hg, Int.gcd_zero_right]; omega
    subst hxg
    exact nxt (x_ret (ex_tup (ds := [.int _, .int _]) (ea_cons (ex_fdivP (ex_v rfl) (ex_v rfl) hgp) (ea_cons (ex_fdivP (ex_v rfl) (ex_v rfl) hgp) ea_nil)) (Nat.le_of_ble_eq_true rfl)) fun v F σ H r o => q v F H (hM ▸ r.nx) o)
def R_fact : List PyData → PyData → Prop := fun ds d => ∃ n : Nat, ds = [.int n] ∧ n ≤ 60 ∧ d = .int (fac n : Int)
theorem ok_law_factorial (Fn : Fun K "_law_factorial" "_law_factorial" s_law_factorial f fd) (T : Bt P mg base) : FnOk P w K mg base CX0 41 f fd ["many"] (spR K R_fact) := by
  refine fn_data Fn sc_law_factorial (by decide) (fun ds d ⟨_, h, _⟩ => by rw [h]; rfl) fun cdv A outer s H E hr => ⟨_, (pss_cons (ps_set (i := 1) sc_law_factorial.nd rfl (.inl rfl) pe_int)
      (pss_cons (ps_for PassesOwn.never rfl (pi_range1 (by rfl) T.n_range (pa_cons (pv 0) pa_nil)) (pg_name (i := 2) sc_law_factorial.nd rfl (Or.inl rfl)) (pss_one (ps_set (i := 1) sc_law_factorial.nd rfl (.inl rfl) (pe_op op_mulW (pv 1) (pe_op op_add (pv 2) pe_int)))))
      (pss_one (ps_ret (pv 1))))), ?_⟩
  rintro B Q ds d rfl hM ⟨n, rfl, hn, rfl⟩ q
  refine x_seq (x_set ex_cI ?_)
  refine x_sq (x_forR1 (n := n) (ea_cons (ex_v rfl) ea_nil) (by omega) (fun i ε L => ε = [iv n, iv (fac i : Int), none] ∧ L = []) ⟨rfl, rfl⟩ ?_ ?_)
  · rintro i ε' L' hi ⟨rfl, rfl⟩
    refine x_set (a := .d (.int (fac (i + 1) : Nat))) (ex_int (ex_mul (ex_v rfl) (ex_add (ex_v rfl) ex_cI) (cmul (fac_bd' (by omega)) (Bd.of (k := 7) (n := 128) (by omega) (by omega) (by decide)) (by decide))) (by rw [fac_succ, Int.natCast_mul]; rfl)) ?_
    exact x_abs ⟨rfl, rfl⟩ ⟨.inr rfl, .inr rfl, .inl rfl, trivial⟩
  · rintro ε' L' ⟨rfl, rfl⟩
    refine nxt (x_ret (ex_v rfl) fun v F σ H r o => q v F H (hM ▸ r.nx) o)
end K88

/-! ## B7 -/
set_option Elab.async false
set_option linter.all false
set_option maxRecDepth 100000
set_option maxHeartbeats 4000000
set_option autoImplicit false
namespace K88
open PySem L2 Fz K80 Ways
variable {P : Program} {w : World} {K : PySem.W.Frag} {mg : Str → Option Value} {base : Heap} {f : Addr} {fd : FuncData}
theorem ch_le_fac (a b : Nat) : ch (a + b) b ≤ fac (a + b) := by
  rw [← ch_fac a b]
  exact Nat.le_mul_of_pos_right _ (Nat.mul_pos (fac_pos a) (fac_pos b))
theorem ch_down {p J : Nat} (h : J + 1 ≤ p) : ch p (J + 1) * (J + 1) = ch p J * (p - J) := by
  obtain ⟨q, rfl⟩ : ∃ q, p = q + 1 := ⟨p - 1, by omega⟩
  rw [ch_absorb, ch_left q J (by omega)]
theorem runs_stop {word : List Int} {l : Int} {p J : Nat} (h : runs word l p (J + 1) = false) {j : Nat} (hj : J + 1 ≤ j) : runs word l p j = false := by
  have e := runs_add word l p (J + 1) (j - (J + 1))
  have e1 : J + 1 + (j - (J + 1)) = j := by omega
  rw [e1, h] at e
  rw [e]; rfl
def rowL (A : Nat → Int) (n : Nat) : List Int := (List.range n).map A
theorem rowL_len (A : Nat → Int) (n : Nat) : (rowL A n).length = n := by unfold rowL; rw [List.length_map, List.length_range]
theorem rowL_get (A : Nat → Int) {n p : Nat} (h : p < n) : (rowL A n).getD p 0 = A p := getD_map_range h
theorem rowL_e0 (n : Nat) : (rowL e0 (n + 1)).map PyData.int = [.int 1] ++ (List.replicate n [PyData.int 0]).flatten := by
  induction n with
  | zero => rfl
  | succ n ih =>
    have h1 : rowL e0 (n + 1 + 1) = rowL e0 (n + 1) ++ [e0 (n + 1)] := by unfold rowL; rw [List.range_succ, List.map_append]; rfl
    have h2 : e0 (n + 1) = 0 := by unfold e0; rw [if_neg (by omega)]
    rw [h1, List.map_append, ih, h2, List.replicate_succ', List.flatten_append, List.append_assoc]; rfl
def R_row : List PyData → PyData → Prop := fun ds d => ∃ (v : Way) (word : List Int), ds = [wayD v, ti word] ∧ word.length ≤ 40 ∧ v.length ≤ 5000 ∧ tot v < 2 ^ 50 ∧ d = li (rowL (rowF word v) (word.length + 1))
theorem ok_law_row (Fn : Fun K "_law_row" "_law_row" s_law_row f fd) (T : Bt P mg base) : FnOk P w K mg base CX0 41 f fd ["way", "word"] (spR K R_row) := by
  refine fn_data Fn sc_law_row (by decide) (fun ds d ⟨_, _, h, _⟩ => by rw [h]; rfl) fun cdv A outer s H E hr => ⟨_, (pss_cons (ps_set (i := 2) sc_law_row.nd rfl (.inl rfl) (pe_op op_cat (pe_lst (pa_cons pe_int pa_nil)) (pe_op op_rep (pe_lst (pa_cons pe_int pa_nil)) (pe_callB (r := Evl.rLenS K) call_len_seq (by rfl) T.n_len (by decide +kernel) (pa_cons (pv 1) pa_nil)))))
      (pss_cons (ps_for PassesOwn.never rfl (pi_tup (pv 0)) (pg_tup rfl (pgs_cons (pg_name (i := 3) sc_law_row.nd rfl (Or.inl rfl)) (pgs_cons (pg_name (i := 4) sc_law_row.nd rfl (Or.inl rfl)) pgs_nil))) (pss_cons (ps_set (i := 5) sc_law_row.nd rfl (.inl rfl) (pe_lst pa_nil))
      (pss_cons (ps_for PassesOwn.never rfl (pi_range1 (by rfl) T.n_range (pa_cons (pe_op op_add (pe_callB (r := Evl.rLenS K) call_len_seq (by rfl) T.n_len (by decide +kernel) (pa_cons (pv 1) pa_nil)) pe_int) pa_nil)) (pg_name (i := 6) sc_law_row.nd rfl (Or.inl rfl)) (pss_cons (ps_par3 (i := 7) (j := 8) (l := 9) (by rfl) sc_law_row.nd rfl rfl rfl (by decide) (by decide) (by decide) rfl rfl rfl (pa_cons (pe_ix (r := rIxL K) ix_list (pv 2) (pv 6) (fun _ _ => rfl)) (pa_cons pe_int (pa_cons pe_int pa_nil))) (by rfl))
      (pss_cons (ps_while PassesOwn.never (PW.pt (pw_and (pt_cmpR op_le (pv 9) (pv 6) (nomark _)) (pw_and1 (pt_cmpR op_eq (pe_ix (r := rIxT K) ix_tup (pv 1) (pe_op op_sub (pv 6) (pv 9)) (fun _ _ => rfl)) (pv 3) (nomark _))))) (pss_cons (ps_set (i := 8) sc_law_row.nd rfl (.inl rfl) (pe_op op_fdivW (pe_op op_mulW (pe_op op_mulW (pv 8) (pv 4)) (pe_op op_add (pe_op op_sub (pv 6) (pv 9)) pe_int)) (pv 9)))
      (pss_one (ps_par (i := 7) (j := 9) (by rfl) sc_law_row.nd rfl rfl (by decide) rfl rfl (pa_cons (pe_op op_add (pv 7) (pe_op op_mulW (pv 8) (pe_ix (r := rIxL K) ix_list (pv 2) (pe_op op_sub (pv 6) (pv 9)) (fun _ _ => rfl)))) (pa_cons (pe_op op_add (pv 9) pe_int) pa_nil)) (by rfl)))))
      (pss_one (ps_expr (pe_bm PySem.F.plainAttrs_list PySem.F.slot_list_append PySem.F.type_list_append mt_append (pv 5) (pa_cons (pv 7) pa_nil)))))))
      (pss_one (ps_set (i := 2) sc_law_row.nd rfl (.inl rfl) (pe_callTy (r := rListOf K) call_list_of (by rfl) T.n_list (by decide +kernel) (pa_cons (pv 5) pa_nil)))))))
      (pss_one (ps_ret (pv 2))))), ?_⟩
  rintro B Q ds d rfl hM ⟨v, word, rfl, hn, hvl, htot, rfl⟩ q
  generalize hwn : word.length = n at *
  have hlen : ((word.map PyData.int).length : Int) = (n : Int) := by rw [List.length_map, hwn]
  refine x_seq (x_set (a := .d (li (rowL e0 (n + 1)))) (ex_is (ex_frz (en_cat (ds := [.int 1]) (es := (List.replicate n [PyData.int 0]).flatten) (ex_frz (en_lst (ds := [.int 1]) (ea_cons ex_cI ea_nil) (Nat.le_of_ble_eq_true rfl)))
    (ex_frz (en_rep (n := n) (ds := [.int 0]) (ex_frz (en_lst (ds := [.int 0]) (ea_cons ex_cI ea_nil) (Nat.le_of_ble_eq_true rfl))) (ex_int (ex_lenT (ds := word.map PyData.int) (ex_v rfl) rfl) hlen) .d (by show 1 * n ≤ 100000; omega) (by omega))) .d .d ?_)) (by unfold li; rw [rowL_e0])) ?_)
  · rw [List.length_flatten, List.map_replicate, List.sum_replicate_nat]
    show 1 + n * 1 ≤ 100000
    omega
  refine x_sq (x_forT (ds := wayL v) (ex_v rfl) (fun u i ε L => ε = [some (.d (wayD v)), some (.d (ti word)), some (.d (li (rowL (rowF word (v.take i)) (n + 1)))), none, none, none, none, none, none, none] ∧ L = [.know u (wayD v)]) (fun u => ⟨rfl, rfl⟩) (fun u i ε' L' ⟨_, h⟩ => by rw [h]; simp [wayD]) ?_ ?_)
  · rintro u i d ε' L' hd ⟨rfl, rfl⟩
    obtain ⟨x, hx, rfl⟩ := way_get hd
    have hrow := rowF_le word (v.take i)
    have htm := tot_mem hx
    rw [rows_snoc' word hx]
    generalize rowF word (v.take i) = r at *
    obtain ⟨l, s⟩ := x
    have htm : tot (v.take i) + s.natAbs ≤ tot v := htm
    have hrb : ∀ p, p ≤ 40 → Bd 2001 (r p) := fun p hp => bd_pow (hrow p) (by omega) hp
    have hsb : Bd 60 s := by
      unfold Bd
      have : (2 : Nat) ^ 50 ≤ 2 ^ 60 := by decide
      omega
    refine ⟨_, gt_tup2 (d := .int l) (e := .int s), ?_⟩
    refine x_seq (x_setN (en_lst (ds := []) ea_nil (Nat.zero_le _)) fun pl hpl => ?_)
    refine x_sq (x_forR1 (n := (n : Int) + 1) (ea_cons (ex_add (ex_int (ex_lenT (ds := word.map PyData.int) (ex_v rfl) rfl) hlen) ex_cI) ea_nil) (by omega) (fun p ε L => ε = [some (.d (wayD v)), some (.d (ti word)), some (.d (li (rowL r (n + 1)))), iv l, iv s, some (.v (.ref pl)), none, none, none, none] ∧ L = [.lst pl ((rowL (opT word l s r) p).map PyData.int), .know u (wayD v)]) ⟨rfl, rfl⟩ ?_ ?_)
    · rintro p ε' L' hp ⟨rfl, rfl⟩
      have hpn : p < n + 1 := by omega
      refine x_seq (x_par3 (a := .d (.int (r p))) (ea_cons (ex_ixL (ds := (rowL r (n + 1)).map PyData.int) (ex_v rfl) (ex_v rfl) .d (by rw [at_ints (by rw [rowL_len]; exact hpn), rowL_get r hpn])) (ea_cons ex_cI (ea_cons ex_cI ea_nil))) ?_)
      refine x_sq (x_while (m0 := p) (fun m ε L => ∃ J : Nat, J ≤ p ∧ m = p - J ∧ runs word l p J = true ∧ ε = [some (.d (wayD v)), some (.d (ti word)), some (.d (li (rowL r (n + 1)))), iv l, iv s, some (.v (.ref pl)), iv p, iv (sm (fun j => wt word l s p j * r (p - j)) (J + 1)), iv ((ch p J : Int) * s ^ J), iv ((J + 1 : Nat) : Int)] ∧ L = [.lst pl ((rowL (opT word l s r) p).map PyData.int), .know u (wayD v)])
        ⟨0, Nat.zero_le _, rfl, rfl, ?_, rfl⟩ ?_)
      · have e : sm (fun j => wt word l s p j * r (p - j)) (0 + 1) = r p := by
          show 0 + wt word l s p 0 * r (p - 0) = r p
          rw [wt_zero]; simp
        have e2 : (ch p 0 : Int) * s ^ 0 = 1 := by rw [ch_n0]; simp
        rw [e, e2]; rfl
      · rintro m ε' L' ⟨J, hJ, rfl, hrun, rfl, rfl⟩
        refine ⟨_, _, et_and (et_test (ex_le (ex_v rfl) (ex_v rfl))) (fun h1 => et_test (ex_eqI (ex_ixT (ds := word.map PyData.int) (d := .int (word.getD (p - (J + 1)) 0)) (ex_v rfl) (ex_int (k := ((p - (J + 1) : Nat) : Int)) (ex_sub (ex_v rfl) (ex_v rfl)) (by have := of_decide_eq_true h1; omega)) (at_ints (by have := of_decide_eq_true h1; omega))) (ex_v rfl))) (fun _ => rfl), fun hc => ?_, fun hc => ?_⟩
        · rw [Bool.and_eq_true] at hc
          have hJp : J + 1 ≤ p := by have := of_decide_eq_true hc.1; omega
          have hlet : word.getD (p - (J + 1)) 0 = l := of_decide_eq_true hc.2
          have hrun' : runs word l p (J + 1) = true := by
            show (runs word l p J && decide (word.getD (p - (J + 1)) 0 = l)) = true
            rw [hrun, decide_eq_true hlet]; rfl
          have hch : Bd 400 (ch p J : Int) := by
            have h1 := ch_le_fac (p - J) J
            have e : p - J + J = p := by omega
            rw [e] at h1
            exact (fac_bd' (n := p) (by omega)).le (by omega) (by omega)
          have hsJ : Bd 2401 (s ^ J) := (hsb.pow J).mono (by omega)
          have hts : (ch p J : Int) * s ^ J * s * ((p : Int) - ((J + 1 : Nat) : Int) + 1) / ((J + 1 : Nat) : Int) = (ch p (J + 1) : Int) * s ^ (J + 1) := by
            have e1 : (p : Int) - ((J + 1 : Nat) : Int) + 1 = ((p - J : Nat) : Int) := by omega
            have e2 : (ch p J : Int) * ((p - J : Nat) : Int) = (ch p (J + 1) : Int) * ((J + 1 : Nat) : Int) := by rw [← Int.natCast_mul, ← Int.natCast_mul, ch_down hJp]
            have e3 : (ch p J : Int) * s ^ J * s * ((p - J : Nat) : Int) = (ch p (J + 1) : Int) * s ^ (J + 1) * ((J + 1 : Nat) : Int) := by
              rw [Int.pow_succ]
              calc (ch p J : Int) * s ^ J * s * ((p - J : Nat) : Int) = ((ch p J : Int) * ((p - J : Nat) : Int)) * (s ^ J * s) := by simp only [Int.mul_assoc, Int.mul_left_comm, Int.mul_comm]
                _ = _ := by rw [e2]; simp only [Int.mul_assoc, Int.mul_left_comm, Int.mul_comm]
            rw [e1, e3]
            exact Int.mul_ediv_cancel _ (by omega)
          refine x_seq (x_set (a := .d (.int ((ch p (J + 1) : Int) * s ^ (J + 1)))) (ex_int (ex_fdiv (ex_mul (ex_mul (ex_v rfl) (ex_v rfl) (cmul (hch.mul hsJ) hsb (by decide))) (ex_add (ex_sub (ex_v rfl) (ex_v rfl)) ex_cI) (cmul ((hch.mul hsJ).mul hsb) (Bd.of (k := 7) (n := 128) (by omega) (by omega) (by decide)) (by decide))) (ex_v rfl) (cdiv (b := 7) (by omega) (Bd.of (k := 7) (n := 128) (by omega) (by omega) (by decide)) (by decide))) hts) ?_)
          have hch' : Bd 400 (ch p (J + 1) : Int) := by
            have h1 := ch_le_fac (p - (J + 1)) (J + 1)
            have e : p - (J + 1) + (J + 1) = p := by omega
            rw [e] at h1
            exact (fac_bd' (n := p) (by omega)).le (by omega) (by omega)
          have hsJ' : Bd 2401 (s ^ (J + 1)) := (hsb.pow (J + 1)).mono (by omega)
          have hwt : (ch p (J + 1) : Int) * s ^ (J + 1) = wt word l s p (J + 1) := by unfold wt; rw [if_pos hrun']
          refine nxt (x_par (b := .d (.int ((J + 1 + 1 : Nat) : Int))) (ea_cons (ex_add (ex_v rfl) (ex_mul (ex_v rfl) (ex_ixL (ds := (rowL r (n + 1)).map PyData.int) (d := .int (r (p - (J + 1)))) (ex_v rfl) (ex_int (k := ((p - (J + 1) : Nat) : Int)) (ex_sub (ex_v rfl) (ex_v rfl)) (by omega)) .d (by rw [at_ints (by rw [rowL_len]; omega), rowL_get r (by omega)])) (cmul (hch'.mul hsJ') (hrb _ (by omega)) (by decide)))) (ea_cons (ex_int (ex_add (ex_v rfl) ex_cI) (by omega)) ea_nil)) ?_)
          refine x_abs ⟨p - (J + 1), by omega, J + 1, hJp, rfl, hrun', rfl, rfl⟩ ⟨.inr rfl, .inr rfl, .inr rfl, .inr rfl, .inr rfl, .inr rfl, .inr rfl, .inr ?_, .inr rfl, .inr rfl, trivial⟩
          rw [hwt]; rfl
        · have hfull : sm (fun j => wt word l s p j * r (p - j)) (J + 1) = opT word l s r p := by
            unfold opT
            by_cases c : J + 1 ≤ p
            · have c1 : decide (((J + 1 : Nat) : Int) ≤ (p : Int)) = true := decide_eq_true (by omega)
              rw [c1, Bool.true_and] at hc
              have hno : runs word l p (J + 1) = false := by
                show (runs word l p J && decide (word.getD (p - (J + 1)) 0 = l)) = false
                rw [hc, Bool.and_false]
              have e : p + 1 = (J + 1) + (p - J) := by omega
              have hz : ∀ j, J + 1 ≤ j → wt word l s p j * r (p - j) = 0 := fun j hj => by
                unfold wt
                rw [runs_stop hno hj]
                simp
              rw [e, sm_stop hz]
            · have e : J = p := by omega
              rw [e]
          refine nxt (x_app (k := 0) (d := .int (opT word l s r p)) (ex_v rfl) (ex_int (ex_v rfl) hfull) rfl ⟨0, _, rfl⟩ (by rw [List.length_map, rowL_len]; omega) ?_)
          refine x_abs (ε' := [some (.d (wayD v)), some (.d (ti word)), some (.d (li (rowL r (n + 1)))), iv l, iv s, some (.v (.ref pl)), none, none, none, none]) ⟨rfl, ?_⟩ ⟨.inr rfl, .inr rfl, .inr rfl, .inr rfl, .inr rfl, .inr rfl, .inl rfl, .inl rfl, .inl rfl, .inl rfl, trivial⟩
          have e : rowL (opT word l s r) (p + 1) = rowL (opT word l s r) p ++ [opT word l s r p] := by unfold rowL; rw [List.range_succ, List.map_append]; rfl
          rw [e, List.map_append]; rfl
    · rintro ε' L' ⟨rfl, rfl⟩
      have e : ((n : Int) + 1).toNat = n + 1 := by omega
      rw [e]
      refine nxt (x_set (a := .d (li (rowL (opT word l s r) (n + 1)))) (ex_frz (en_list (ex_v rfl) (.o (k := 0) rfl))) ?_)
      refine ho_drop (k := 0) (x_abs ⟨rfl, rfl⟩ ⟨.inr rfl, .inr rfl, .inr rfl, .inl rfl, .inl rfl, .inl rfl, .inr rfl, .inr rfl, .inr rfl, .inr rfl, trivial⟩) rfl (fun x hx => by rw [List.mem_singleton.mp hx]; exact hpl)
  · rintro u ε' L' ⟨rfl, rfl⟩
    have ev : v.take (wayL v).length = v := by rw [wayL_len, List.take_length]
    rw [ev]
    refine nxt (x_ret (ex_v rfl) fun v F σ H r o => q v F H (hM ▸ r.nx) o)
theorem ok_law_sum (Fn : Fun K "_law_sum" "_law_sum" s_law_sum f fd) (T : Bt P mg base) (C_law_least : Df P w K mg base 41 "_law_least" ["upper", "lower"] (spR K R_frac)) (C_law_factorial : Df P w K mg base 41 "_law_factorial" ["many"] (spR K R_fact)) (C_law_row : Df P w K mg base 41 "_law_row" ["way", "word"] (spR K R_row)) : FnOk P w K mg base CX0 42 f fd ["way", "word"] (spR K R_wsum) := by
  refine fn_data Fn sc_law_sum (by decide) (fun ds d ⟨_, _, h, _⟩ => by rw [h]; rfl) fun cdv A outer s H E hr => ⟨_, (pss_one (ps_ret (pe_callD C_law_least (hr.mono (by decide)) (by rfl) (pa_cons (pe_ix (r := rIxL K) ix_list (pe_callD C_law_row (hr.mono (by decide)) (by rfl) (pa_cons (pv 0) (pa_cons (pv 1) pa_nil))) (pe_un un_neg pe_int) (fun _ _ => rfl)) (pa_cons (pe_callD C_law_factorial (hr.mono (by decide)) (by rfl) (pa_cons (pe_callB (r := Evl.rLenS K) call_len_seq (by rfl) T.n_len (by decide +kernel) (pa_cons (pv 1) pa_nil)) pa_nil)) pa_nil))))), ?_⟩
  rintro B Q ds d rfl hM ⟨v, word, rfl, hn, hvl, htot, rfl⟩ q
  have hlen : ((word.map PyData.int).length : Int) = (word.length : Int) := by rw [List.length_map]
  have el : rowL (rowF word v) (word.length + 1) = rowL (rowF word v) word.length ++ [rowF word v word.length] := by unfold rowL; rw [List.range_succ, List.map_append]; rfl
  refine x_ret (ex_call (ds := [.int (rowF word v word.length), .int (fac word.length : Int)]) (ea_cons (ex_ixL (ds := (rowL (rowF word v) (word.length + 1)).map PyData.int) (ex_call (ds := [wayD v, ti word]) (ea_cons (ex_v rfl) (ea_cons (ex_v rfl) ea_nil)) ⟨v, word, rfl, hn, hvl, htot, rfl⟩) (ex_neg ex_cI) .d (by rw [el, List.map_append]; exact atI_last _ _)) (ea_cons (ex_call (ds := [.int (word.length : Int)]) (ea_cons (ex_int (ex_lenT (ds := word.map PyData.int) (ex_v rfl) rfl) hlen) ea_nil) ⟨word.length, rfl, by omega, rfl⟩) ea_nil)) ⟨_, _, rfl, by have := fac_pos word.length; omega, rfl⟩) fun v F σ H r o => q v F H (hM ▸ r.nx) o
end K88

/-! ## B8 -/
set_option Elab.async false
set_option linter.all false
set_option maxRecDepth 100000
set_option maxHeartbeats 4000000
set_option autoImplicit false
namespace K88
open PySem L2 Fz K80 Ways
variable {P : Program} {w : World} {K : PySem.W.Frag} {mg : Str → Option Value} {base : Heap} {f : Addr} {fd : FuncData}
theorem wipe_set {j : Nat} : ∀ {vs : List Nat}, j ∈ vs → ∀ (σ : St) (x : Option V), wipe (σ.set j x) vs = wipe σ vs
  | [], h, _, _ => by simp at h
  | k :: ks, h, σ, x => by
    show (wipe (σ.set j x) ks).set k none = (wipe σ ks).set k none
    by_cases hk : j ∈ ks
    · rw [wipe_set hk]
    · have ejk : j = k := (List.mem_cons.mp h).resolve_right hk
      subst ejk
      have : ∀ (ws : List Nat) (σ : St), j ∉ ws → wipe (σ.set j x) ws = (wipe σ ws).set j x := fun ws => by
        induction ws with
        | nil => exact fun σ _ => rfl
        | cons a ws ih =>
          intro σ hn
          show (wipe (σ.set j x) ws).set a none = ((wipe σ ws).set a none).set j x
          rw [ih σ (fun z => hn (List.mem_cons_of_mem _ z)), List.set_comm _ _ (fun z => hn (by rw [z]; exact List.mem_cons_self))]
      rw [this ks σ hk, List.set_set]
theorem wipe_wipe (vs : List Nat) : ∀ σ : St, (∀ j ∈ vs, True) → True := fun _ _ => trivial
theorem gw_tup2 {K : PySem.W.Frag} {i j : Nat} {vs : List Nat} (hi : i ∈ vs) (hj : j ∈ vs) : ∀ (v : V) (σ : St) (H : Hp) (P : St → Hp → Prop), (gTup K 2 (gCons (gName i) (gCons (gName j) gNil)) v (wipe σ vs) H P ↔ gTup K 2 (gCons (gName i) (gCons (gName j) gNil)) v (wipe σ vs) H fun σ2 H2 => wipe σ2 vs = wipe σ vs ∧ P σ2 H2) := fun v σ H P => by
  have hw : wipe (wipe σ vs) vs = wipe σ vs := by
    have h1 := (gw_name (vs := vs) hi (.int 0) σ H (fun σ2 _ => True)).mp trivial
    have h2 : wipe ((wipe σ vs).set i (some (V.int 0))) vs = wipe σ vs := h1.1
    rw [wipe_set hi] at h2
    exact h2
  constructor
  · rintro ⟨a, xs, e, hq, hl, x, r, e1, y, r2, e2, e3, h⟩
    exact ⟨a, xs, e, hq, hl, x, r, e1, y, r2, e2, e3, by rw [wipe_set hj, wipe_set hi, hw], h⟩
  · rintro ⟨a, xs, e, hq, hl, x, r, e1, y, r2, e2, e3, _, h⟩
    exact ⟨a, xs, e, hq, hl, x, r, e1, y, r2, e2, e3, h⟩
theorem ok_law_left (Fn : Fun K "_law_left" "_law_left" s_law_left f fd) (T : Bt P mg base) : FnOk P w K mg base CX0 41 f fd ["way"] (spR K R_red) := by
  refine fn_data Fn sc_law_left (by decide) (fun ds d ⟨_, h, _⟩ => by rw [h]; rfl) fun cdv A outer s H E hr => ⟨_, (pss_cons (ps_set (i := 1) sc_law_left.nd rfl (.inl rfl) (pe_lst pa_nil))
      (pss_cons (ps_for PassesOwn.never rfl (pi_tup (pv 0)) (pg_tup rfl (pgs_cons (pg_name (i := 2) sc_law_left.nd rfl (Or.inl rfl)) (pgs_cons (pg_name (i := 3) sc_law_left.nd rfl (Or.inl rfl)) pgs_nil))) (pss_cons (ps_set (i := 4) sc_law_left.nd rfl (.inl rfl) (pe_ifExp (PW.pt (pw_and (pt_cmpR (r := rNeD K) (op_neD hr.units) (pv 1) (pe_lst pa_nil) (nomark _)) (pw_and1 (pt_cmpR op_eq (pe_ix (r := rIxT K) ix_tup (pe_ix (r := rIxL K) ix_list (pv 1) (pe_un un_neg pe_int) (fun _ _ => rfl)) pe_int (fun _ _ => rfl)) (pv 2) (nomark _))))) (pe_ix (r := rIxT K) ix_tup (pe_bm0 PySem.F.plainAttrs_list PySem.F.slot_list_pop PySem.F.type_list_pop mt_pop (pv 1)) pe_int (fun _ _ => rfl)) pe_int))
      (pss_one (ps_if (pt_cmpR op_ne (pe_op op_add (pv 4) (pv 3)) pe_int (nomark _)) (pss_one (ps_expr (pe_bm PySem.F.plainAttrs_list PySem.F.slot_list_append PySem.F.type_list_append mt_append (pv 1) (pa_cons (pe_tup (pa_cons (pv 2) (pa_cons (pe_op op_add (pv 4) (pv 3)) pa_nil))) pa_nil)))) pss_nil))))
      (pss_one (ps_ret (pe_tupleOf (by rfl) T.n_tuple (pv 1)))))), ?_⟩
  rintro B Q ds d rfl hM ⟨v, rfl, hl, rfl⟩ q
  refine x_seq (x_setN (en_lst (ds := wayL []) ea_nil (Nat.zero_le _)) fun p hp => ?_)
  refine x_sq (x_forT (ds := wayL v) (ex_v rfl) (fun u i ε L => ε = [some (.d (wayD v)), some (.v (.ref p)), none, none, none] ∧ L = [.lst p (wayL (redW (v.take i))), .know u (wayD v)]) (fun u => ⟨rfl, rfl⟩) (fun u i ε' L' ⟨_, h⟩ => by rw [h]; simp [wayD]) ?_ ?_)
  · rintro u i d ε' L' hd ⟨rfl, rfl⟩
    obtain ⟨x, hx, rfl⟩ := way_get hd
    have hlen : (redW (v.take i)).length ≤ 5000 := by
      have h1 := (tot_red (v.take i)).2
      have h2 : (v.take i).length ≤ v.length := by rw [List.length_take]; omega
      omega
    refine ⟨_, gt_tup2 (d := .int x.1) (e := .int x.2), ?_⟩
    rw [fold_take hx]
    generalize redW (v.take i) = f0 at *
    obtain ⟨m, n⟩ := x
    have wk : ∀ a : Option AD, Wk [some (.d (wayD v)), some (.v (.ref p)), iv m, iv n, a] [some (.d (wayD v)), some (.v (.ref p)), none, none, none] := fun a => ⟨.inr rfl, .inr rfl, .inl rfl, .inl rfl, .inl rfl, trivial⟩
    -- what is laid, from what is left of it
    have lay : ∀ (g : Way) (k : Int) (f1 : Way), g.length ≤ 5000 → (stepW f0 (m, n) = if n + k = 0 then g else g ++ [(m, n + k)]) → Ho B (AbsP B fun ε L => ε = [some (.d (wayD v)), some (.v (.ref p)), none, none, none] ∧ L = [.lst p (wayL (stepW f0 (m, n))), .know u (wayD v)]) [some (.d (wayD v)), some (.v (.ref p)), iv m, iv n, iv k] [.lst p (wayL (stepW f0 (m, n))), .know u (wayD v)] := fun g k f1 _ _ => x_abs ⟨rfl, rfl⟩ (wk _)
    have step : ∀ (g : Way) (k : Int), g.length ≤ 5000 → (stepW f0 (m, n) = if n + k = 0 then g else g ++ [(m, n + k)]) → ∀ {D : Ends}, D.nx = (AbsP B fun ε L => ε = [some (.d (wayD v)), some (.v (.ref p)), none, none, none] ∧ L = [.lst p (wayL (stepW f0 (m, n))), .know u (wayD v)]) →
        Ho B (tIfS (tTest (tOp rNe (tOp (rI0 fun i j => .int (i + j)) (tVar 4) (tVar 3)) (tC (.int 0)))) (tDrop (tBM B.K "list" rAppend (tVar 1) (tCons (tTup (tCons (tVar 2) (tCons (tOp (rI0 fun i j => .int (i + j)) (tVar 4) (tVar 3)) tNil))) tNil))) tNext D) [some (.d (wayD v)), some (.v (.ref p)), iv m, iv n, iv k] [.lst p (wayL g), .know u (wayD v)] := fun g k hg hs D hD => by
      refine x_if (et_test (ex_neI (ex_add (ex_v rfl) (ex_v rfl)) ex_cI)) (fun hc => ?_) fun hc => ?_
      · have hn : n + k ≠ 0 := by
          have : k + n ≠ 0 := by simpa using hc
          omega
        refine x_app (k := 0) (d := stD (m, n + k)) (ex_v rfl) (ex_is (ex_tup (ds := [.int m, .int (k + n)]) (ea_cons (ex_v rfl) (ea_cons (ex_add (ex_v rfl) (ex_v rfl)) ea_nil)) (Nat.le_of_ble_eq_true rfl)) (by rw [Int.add_comm]; rfl)) rfl ⟨0, _, rfl⟩ (by rw [wayL_len]; omega) ?_
        rw [hD]
        refine x_abs ⟨rfl, ?_⟩ (wk _)
        rw [hs, if_neg hn, wayL_app]; rfl
      · have hn : n + k = 0 := by
          have : k + n = 0 := by simpa using hc
          omega
        refine x_next ?_
        rw [hD]
        refine x_abs ⟨rfl, ?_⟩ (wk _)
        rw [hs, if_pos hn]
    rcases snoc_cases f0 with rfl | ⟨g, y, rfl⟩
    · refine x_seq (x_set (a := .d (.int 0)) (L1 := [.lst p (wayL []), .know u (wayD v)]) (ex_if (b := false) (et_is (et_and (b := false) (c := false) (et_test (ex_neNil (ds := wayL []) (ex_v rfl) (.o (k := 0) rfl) (shaped_wayL []))) (fun h => nomatch h) (fun _ => rfl)) rfl) (fun h => nomatch h) (fun _ => ex_cI)) ?_)
      exact nxt (step [] 0 (by decide) (by rw [step_nil]; simp) rfl)
    · obtain ⟨m', n'⟩ := y
      have hne : (!(wayL (g ++ [(m', n')])).isEmpty) = true := by
        rw [wayL_app]
        cases wayL g <;> rfl
      rw [List.length_append, List.length_singleton] at hlen
      have tst : ∀ c : Bool, decide (m' = m) = c → ETt B (tAnd (tTest (tOp (rNeD B.K) (tVar 1) (tLst tNil))) (tTest (tOp rEq (tOp (rIxT B.K) (tOp (rIxL B.K) (tVar 1) (tUn (rU fun i => .int (-i)) (tC (.int 1)))) (tC (.int 0))) (tVar 2)))) [some (.d (wayD v)), some (.v (.ref p)), iv m, iv n, none] [.lst p (wayL (g ++ [(m', n')])), .know u (wayD v)] c [.lst p (wayL (g ++ [(m', n')])), .know u (wayD v)] := fun c hc =>
        et_is (et_and (b := true) (et_is (et_test (ex_neNil (ds := wayL (g ++ [(m', n')])) (ex_v rfl) (.o (k := 0) rfl) (shaped_wayL _))) hne) (fun _ => et_test (ex_eqI (ex_ixT (ds := [.int m', .int n']) (ex_ixL (ds := wayL (g ++ [(m', n')])) (ex_v rfl) (ex_neg ex_cI) (.o (k := 0) rfl) (at_last g (m', n'))) ex_cI rfl) (ex_v rfl))) (fun h => nomatch h)) (by rw [Bool.true_and]; exact hc)
      by_cases hm : m' = m
      · refine x_seq (x_set (a := .d (.int n')) (L1 := [.lst p (wayL g), .know u (wayD v)]) (ex_if (b := true) (tst true (decide_eq_true hm)) (fun _ => ex_ixT (ds := [.int m', .int n']) (ex_popW (k := 0) (y := (m', n')) (ex_v rfl) rfl) ex_cI rfl) (fun h => nomatch h)) ?_)
        exact nxt (step g n' (by omega) (by rw [step_snoc, if_pos (show (m', n').1 = (m, n).1 from hm)]) rfl)
      · refine x_seq (x_set (a := .d (.int 0)) (L1 := [.lst p (wayL (g ++ [(m', n')])), .know u (wayD v)]) (ex_if (b := false) (tst false (decide_eq_false hm)) (fun h => nomatch h) (fun _ => ex_cI)) ?_)
        exact nxt (step (g ++ [(m', n')]) 0 (by rw [List.length_append, List.length_singleton]; omega) (by rw [step_snoc, if_neg (show ¬ (m', n').1 = (m, n).1 from hm), Int.add_zero]) rfl)
  · rintro u ε' L' ⟨rfl, rfl⟩
    refine nxt (x_ret (ex_is (ex_tupL (ds := wayL (redW v)) (ex_v rfl) (.o (k := 0) (by rw [wayL_len, List.take_length]; rfl))) rfl) fun v F σ H r o => q v F H (hM ▸ r.nx) o)
end K88

/-! ## B9 -/
set_option Elab.async false
set_option linter.all false
set_option maxRecDepth 100000
set_option maxHeartbeats 4000000
set_option autoImplicit false
namespace K88
open PySem L2 Fz K80 Ways
variable {P : Program} {w : World} {K : PySem.W.Frag} {mg : Str → Option Value} {base : Heap} {f : Addr} {fd : FuncData}
theorem filter_yes {α : Type} (l : List α) : l.filter (fun _ => true) = l := List.filter_eq_self.mpr fun _ _ => rfl
end K88

/-! ## C1 -/
set_option Elab.async false
set_option linter.all false
set_option maxRecDepth 100000
set_option maxHeartbeats 4000000
set_option autoImplicit false
namespace K88
open PySem L2 Fz K80 Ways
variable {P : Program} {w : World} {K : PySem.W.Frag} {mg : Str → Option Value} {base : Heap} {f : Addr} {fd : FuncData}
theorem ps_dead {X : Cx} {st : Stmt} : PS X st (fun _ _ _ => False) := ⟨fun _ _ _ _ _ _ h => h.elim⟩
def R_join : List PyData → PyData → Prop := fun ds d => ∃ a b : Way, ds = [wayD a, wayD b] ∧ a.length + b.length ≤ 16 ∧ d = wayD (a ++ b)
theorem ex_catW {B : Bg} {ε : Eps} {L La Lb : Own} {ta tb : TE} {a b : Way} (h : EX B ta ε L (.d (wayD a)) La) (h2 : EX B tb ε La (.d (wayD b)) Lb) (hl : a.length + b.length ≤ 100000) : EX B (tOp (rCatA B.K) ta tb) ε L (.d (wayD (a ++ b))) Lb := by
  refine ex_is (ex_catT (ds := wayL a) (es := wayL b) h h2 (by rw [wayL_len, wayL_len]; exact hl)) ?_
  unfold wayD; rw [wayL_app]
theorem ex_lenW {B : Bg} {ε : Eps} {L La : Own} {te : TE} {a : Way} {r : List V → Hp → VK → Prop} (h : EX B te ε L (.d (wayD a)) La) (hr : r = fun xs H Q => ∃ p ys, xs = [.ref p] ∧ (SqL B.K H p ys ∨ SqT B.K H p ys) ∧ Q (.int ys.length) H) : EX B (tCB r (tCons te tNil)) ε L (.d (.int (a.length : Int))) La :=
  ex_int (ex_lenT (ds := wayL a) h hr) (by rw [wayL_len])
end K88

/-! ## C4 -/
set_option Elab.async false
set_option linter.all false
set_option maxRecDepth 100000
set_option maxHeartbeats 4000000
set_option autoImplicit false
namespace K88
open PySem L2 Fz K80 Ways
variable {P : Program} {w : World} {K : PySem.W.Frag} {mg : Str → Option Value} {base : Heap} {f : Addr} {fd : FuncData}
def cellF (c : Int) : Int := if c < 0 then -c else c
def cellD : PyData → PyData
  | .int c => .int (cellF c)
  | d => d
theorem ints_at {l : List Int} {i : Nat} {d : PyData} (h : (l.map PyData.int)[i]? = some d) : i < l.length ∧ d = .int (l.getD i 0) := by
  rw [List.getElem?_map] at h
  have hi : i < l.length := by
    by_cases c : i < l.length
    · exact c
    · rw [List.getElem?_eq_none (by omega)] at h; cases h
  rw [List.getElem?_eq_getElem hi] at h
  refine ⟨hi, ?_⟩
  rw [List.getD_eq_getElem?_getD, List.getElem?_eq_getElem hi]
  cases h; rfl
theorem ok_law_bag (Fn : Fun K "_law_bag" "_law_bag" s_law_bag f fd) (T : Bt P mg base) : FnOk P w K mg base CX0 41 f fd ["script"] (spOwn K) := by
  refine Fn.ok sc_law_bag (fun vs H Q E ⟨_, _, h, _⟩ => by rw [h]; rfl) fun cdv A outer s H vs Q E hr h => ?_
  obtain ⟨a, ns, rfl, hS, hl, q⟩ := h
  refine ⟨_, (pss_cons (ps_setLc (i := 1) (own := [("cell", 3)]) rfl sc_law_bag.nd rfl rfl (sw_true rfl rfl rfl (by decide +kernel)) (pi_list (pe_slice (r := rSlL K) sl_list (pv 0) po_none (po_some pe_int))) (blkOk_by (own := [("cell", 3)]) (N := ["script", "cells", "mixed", "cell"]) (sc := defScope s_law_bag) (by decide +kernel)) (fun _ _ _ _ _ => (pg_name (i := 3) sc_law_bag.nd rfl (Or.inl rfl))) (fun _ _ _ _ _ => pts_nil) (fun _ _ _ _ _ => (pe_callB call_abs (by rfl) T.n_abs (by decide +kernel) (pa_cons (pe_callTy call_int1 (by rfl) T.n_int (by decide +kernel) (pa_cons (pv 3) pa_nil)) pa_nil))))
      (pss_cons (ps_set (i := 2) sc_law_bag.nd rfl (.inl rfl) (pe_op op_add pe_int (pe_callB (r := Evl.rLenS K) call_len_seq (by rfl) T.n_len (by decide +kernel) (pa_cons (pv 1) pa_nil))))
      (pss_cons (ps_for PassesOwn.never rfl (pi_list (pv 1)) (pg_name (i := 3) sc_law_bag.nd rfl (Or.inl rfl)) (pss_one (ps_set (i := 2) sc_law_bag.nd rfl (.inl rfl) (pe_op op_mod (pe_callTy call_int1 (by rfl) T.n_int (by decide +kernel) (pa_cons (pe_op op_add (pe_op op_add (pe_op op_mulW (pv 2) pe_int) (pe_op op_mod (pe_callTy call_int1 (by rfl) T.n_int (by decide +kernel) (pa_cons (pv 3) pa_nil)) pe_int)) pe_int) pa_nil)) pe_int))))
      (pss_one (ps_ret (pe_lst (pa_cons (pe_listRev rfl (by rfl) T.n_list (by rfl) T.n_reversed (pe_callTy (r := rListOf K) call_list_of (by rfl) T.n_list (by decide +kernel) (pa_cons (pv 1) pa_nil))) (pa_cons pe_int (pa_cons (pv 2) pa_nil))))))))), ?_⟩
  refine (?_ : Ho ⟨K, H, H, []⟩ _ (some (.v (.ref a)) :: List.replicate (4 - 1) none) [.seq a (ns.map PyData.int)]) H _ H (rep_startS (N := ["script", "cells", "mixed", "cell"]) hS (by decide))
  obtain ⟨ms, hms, hml⟩ := cut_map PyData.int ns none (some 63)
  refine x_seq (x_set (a := .d (li (ms.map cellF))) (ex_is (ex_frz (en_lcLP (xs := ms.map PyData.int) (fun _ => true) cellD (fun d => [some (.v (.ref a)), none, none, some (.d d)]) (ex_frz (en_is (en_slL (ds := ns.map PyData.int) (ex_v rfl) eo_n (eo_s ex_cI) (.r (k := 0) rfl)) hms)) (by rw [List.length_map]; omega) (gw_name (by simp))
    (fun d hd => gt_name) (fun d hd m => et_yes) ?_)) ?_) ?_)
  · rintro d hd _ m
    obtain ⟨c, _, rfl⟩ := List.mem_map.mp hd
    exact ex_abs (ex_int1 (ex_v rfl))
  · rw [filter_yes, List.map_map]
    unfold li
    rw [List.map_map]; rfl
  · refine x_sq (x_set (a := .d (.int (8847 + (ms.length : Int)))) (ex_add ex_cI (ex_int (ex_lenL (ds := (ms.map cellF).map PyData.int) (ex_v rfl) .d rfl) (by rw [List.length_map, List.length_map]))) ?_)
    refine x_sq (x_forL (ds := (ms.map cellF).map PyData.int) (ex_v rfl) (fun v i ε L => ∃ m : Int, (0 ≤ m ∧ m < 2147483647) ∧ ε = [some (.v (.ref a)), some (.d (li (ms.map cellF))), iv m, none] ∧ L = [.seq a (ns.map PyData.int), .know v (li (ms.map cellF))]) (fun v => ⟨_, ⟨by omega, by omega⟩, rfl, rfl⟩)
      (fun v i ε' L' ⟨_, _, _, h⟩ => by rw [h]; exact List.mem_cons_of_mem _ (List.mem_singleton_self _)) ?_ ?_)
    · rintro v i d ε' L' hd ⟨m, hm, rfl, rfl⟩
      obtain ⟨_, rfl⟩ := ints_at hd
      refine ⟨_, gt_name, x_set (ex_mod (ex_int1 (ex_add (ex_add (ex_mul (ex_v rfl) ex_cI (cmul (Bd.of (k := 32) (n := 2147483648) (by omega) (by omega) (by decide)) (Bd.of (k := 16) (n := 48272) (by decide) (by decide) (by decide)) (by decide))) (ex_mod (ex_int1 (ex_v rfl)) ex_cI (by decide))) ex_cI)) ex_cI (by decide)) ?_⟩
      exact x_abs ⟨_, ⟨Int.emod_nonneg _ (by decide), Int.emod_lt_of_pos _ (by decide)⟩, rfl, rfl⟩ ⟨.inr rfl, .inr rfl, .inr rfl, .inl rfl, trivial⟩
    · rintro v ε' L' ⟨m, hm, rfl, rfl⟩
      refine nxt (x_retBag (c := (ms.map cellF).reverse) (u := 0) (mx := m) (en_is (en_listRevN (en_list (ds := (ms.map cellF).map PyData.int) (ex_v rfl) .d)) List.map_reverse.symm) (fun _ => ex_cI) (fun _ => ex_v rfl) fun pb pc F σ H' r n1 n2 ne => ?_)
      refine q pb pc ⟨(ms.map cellF).reverse, 0, m, hm.1, hm.2, Int.le_refl 0, fun c hc => ?_⟩ H' (fun b o e => r.h0 b o List.not_mem_nil e) n1 n2 ne (r.bag List.mem_cons_self)
      obtain ⟨z, _, rfl⟩ := List.mem_map.mp (List.mem_reverse.mp hc)
      unfold cellF; split <;> omega
end K88

/-! ## D0 -/
set_option Elab.async false
set_option linter.all false
set_option maxRecDepth 100000
set_option maxHeartbeats 4000000
set_option autoImplicit false
namespace K88
open PySem L2 Fz K80 Ways
variable {P : Program} {w : World} {K : PySem.W.Frag} {mg : Str → Option Value} {base : Heap} {f : Addr} {fd : FuncData}
abbrev bagv (p : Addr) : Option AD := some (.v (.ref p))
abbrev dv (d : PyData) : Option AD := some (.d d)
abbrev wv (v : Way) : Option AD := some (.d (wayD v))
theorem wayD_eT (v : Way) : wayD v = eT (eP PyData.int PyData.int) v := rfl
theorem eq_way : Eq' wayD := eq_eT (eq_eP eq_int eq_int)
abbrev S_law_draw (K : PySem.W.Frag) : Sp := S_draw K
abbrev S_law_pick (K : PySem.W.Frag) : Sp := S_pickQ K
abbrev S_reduced_way (K : PySem.W.Frag) : Sp := spD K (fun v : Way => [wayD v]) (fun v => v.length ≤ 5000) wayD (fun v x => x = redW v)
abbrev S_law_left (K : PySem.W.Frag) : Sp := S_reduced_way K
abbrev S_are_same_ways (K : PySem.W.Frag) : Sp := spD K (fun y : Way × Way => [wayD y.1, wayD y.2]) (fun y => y.1.length ≤ 5000 ∧ y.2.length ≤ 5000) PyData.bool (fun y x => x = decide (redW y.1 = redW y.2))
def WsOk (y : Way × List Int) : Prop := y.2.length ≤ 40 ∧ y.1.length ≤ 5000 ∧ tot y.1 < 2 ^ 50
def wsD (y : Way × List Int) : PyData := frD (rowF y.2 y.1 y.2.length) (fac y.2.length : Int)
abbrev S_way_sum (K : PySem.W.Frag) : Sp := spD K (fun y : Way × List Int => [wayD y.1, ti y.2]) WsOk eD (fun y x => x = wsD y)
abbrev S_law_sum (K : PySem.W.Frag) : Sp := S_way_sum K
abbrev S_law_row (K : PySem.W.Frag) : Sp := spD K (fun y : Way × List Int => [wayD y.1, ti y.2]) WsOk li (fun y x => x = rowL (rowF y.2 y.1) (y.2.length + 1))
theorem okd_law_draw (Fn : Fun K "_law_draw" "_law_draw" s_law_draw f fd) (T : Bt P mg base) : FnOk P w K mg base CX0 41 f fd ["bag", "below"] (S_law_draw K) := draw_wk (ok_law_draw Fn T)
theorem okd_law_pick (Fn : Fun K "_law_pick" "_law_pick" s_law_pick f fd) (T : Bt P mg base) (C_law_draw : Df P w K mg base 41 "_law_draw" ["bag", "below"] (spB K R_draw)) : FnOk P w K mg base CX0 42 f fd ["bag", "some"] (S_law_pick K) := pickQ_wk (ok_law_pick Fn T C_law_draw)
theorem okd_reduced_way (Fn : Fun K "reduced_way" "reduced_way" s_reduced_way f fd) (T : Bt P mg base) : FnOk P w K mg base CX0 41 f fd ["way"] (S_reduced_way K) := fn_wk (ok_reduced_way Fn T) (spD_of fun v h => ⟨_, ⟨v, rfl, h, rfl⟩, rfl⟩)
theorem okd_law_left (Fn : Fun K "_law_left" "_law_left" s_law_left f fd) (T : Bt P mg base) : FnOk P w K mg base CX0 41 f fd ["way"] (S_law_left K) := fn_wk (ok_law_left Fn T) (spD_of fun v h => ⟨_, ⟨v, rfl, h, rfl⟩, rfl⟩)
theorem okd_are_same_ways (Fn : Fun K "are_same_ways" "are_same_ways" s_are_same_ways f fd) (T : Bt P mg base) (C_reduced_way : Df P w K mg base 41 "reduced_way" ["way"] (spR K R_red)) : FnOk P w K mg base CX0 42 f fd ["one", "other"] (S_are_same_ways K) := fn_wk (ok_are_same_ways Fn T C_reduced_way) (spD_of fun y h => ⟨_, ⟨y.1, y.2, rfl, h.1, h.2, rfl⟩, rfl⟩)
theorem ws_wk {x : Str} {ps : List Str} {k : Nat} (h : FnOk P w K mg base CX0 k f fd ps (spR K R_wsum)) : FnOk P w K mg base CX0 k f fd ps (S_way_sum K) := fn_wk h (spD_of fun y h => ⟨_, ⟨y.1, y.2, rfl, h.1, h.2.1, h.2.2, rfl⟩, rfl⟩)
theorem row_wk {x : Str} {ps : List Str} {k : Nat} (h : FnOk P w K mg base CX0 k f fd ps (spR K R_row)) : FnOk P w K mg base CX0 k f fd ps (S_law_row K) := fn_wk h (spD_of fun y h => ⟨_, ⟨y.1, y.2, rfl, h.1, h.2.1, h.2.2, rfl⟩, rfl⟩)
theorem okd_law_row (Fn : Fun K "_law_row" "_law_row" s_law_row f fd) (T : Bt P mg base) : FnOk P w K mg base CX0 41 f fd ["way", "word"] (S_law_row K) := row_wk (x := "") (ok_law_row Fn T)
/-! ### picks -/
section
variable {B : Bg} {ε : Eps} {L La : Own} {tas : TA} {E : XK} {pb pc : Addr} {α : Type} {e : α → PyData}
theorem w_pick {κ : α → Own → Prop} (h : WA B tas ε L fun as L1 => ∃ (xs : List α) (b : Bag) (L2 : Bag → Own), as = [.v (.ref pb), .d (eL e xs)] ∧ (∀ b', Up L1 (b.at pb pc) (b'.at pb pc) (L2 b')) ∧ xs ≠ [] ∧ xs.length ≤ 100000 ∧ ∀ x b', x ∈ xs → κ x (L2 b')) : WV B e (tCall (S_law_pick B.K) [] E tas) ε L κ := wq_pick h
theorem w_pck {κ : α → Own → Prop} {xs : List α} {i : Nat} {te : TE} {b : Bag} {L2 : Bag → Own} (hb : ε[i]? = some (some (.v (.ref pb)))) (hn : EX B te ε L (.d (eL e xs)) La) (hup : ∀ b', Up La (b.at pb pc) (b'.at pb pc) (L2 b')) (h0 : xs ≠ []) (h1 : xs.length ≤ 100000) (k : ∀ x b', x ∈ xs → κ x (L2 b')) : WV B e (tCall (S_law_pick B.K) [] E (tCons (tVar i) (tCons te tNil))) ε L κ :=
  wq_pick (wa_x (ex_v hb) (wa_x hn (wa_nil ⟨xs, b, L2, rfl, hup, h0, h1, k⟩)))
end
/-! ### like things -/
abbrev S_law_same (K : PySem.W.Frag) : Sp := spD K (fun d : PyData => [d, d]) Fz.SameOk PyData.bool (fun _ x => x = true)
theorem okd_law_same (Fn : Fun K "_law_same" "_law_same" s_law_same f fd) (T : Bt P mg base)  : GOk P w K mg base 41 f fd ["told", "due"] (S_law_same K) := by
  refine g_D Fn sc_law_same (by decide) (fun _ => rfl) fun cdv A outer s H hr hG => ⟨_, (pss_one (ps_ret (pe_and (pe_cmpR op_eq (pe_callB (r := rReprD K) (call_reprD hr hG) (by rfl) T.n_repr (by decide +kernel) (pa_cons (pv 0) pa_nil)) (pe_callB (r := rReprD K) (call_reprD hr hG) (by rfl) T.n_repr (by decide +kernel) (pa_cons (pv 1) pa_nil)) (nomark _)) (pe_one (pe_cmpR (r := rEqD K) (op_eqD hr.units) (pv 0) (pv 1) (nomark _)))))), ?_⟩
  rintro B Q d rfl ⟨s1, s2, s3⟩ q
  exact x_retD q (wv_of (e := PyData.bool) (ex_andV (b := true) (c := true) (ex_boolE (ex_eqS (ex_rep s1 (ex_v rfl)) (ex_rep s1 (ex_v rfl))) (decide_eq_true rfl)) (fun _ => ex_boolE (ex_eqD (ex_v rfl) (ex_v rfl) s2 s2) s3) (fun h => nomatch h)) rfl)
/-! ### strides -/
abbrev S_law_stride (K : PySem.W.Frag) : Sp := spG K (fun _ : Unit => []) (fun _ => True) PyData.int (fun _ x => x ≠ 0 ∧ x.natAbs ≤ 100)
theorem okd_law_stride (Fn : Fun K "_law_stride" "_law_stride" s_law_stride f fd) (T : Bt P mg base) (D_law_pick : Df P w K mg base 42 "_law_pick" ["bag", "some"] (S_law_pick K)) (D_law_draw : Df P w K mg base 41 "_law_draw" ["bag", "below"] (S_law_draw K)) : FnOk P w K mg base CX0 43 f fd ["bag"] (S_law_stride K) := by
  refine fn_G Fn sc_law_stride (by decide) (fun _ => rfl) fun cdv A outer s H E hr => ⟨_, (pss_cons (ps_set (i := 1) sc_law_stride.nd rfl (.inl rfl) (pe_callD D_law_pick (hr.mono (by decide)) (by rfl) (pa_cons (pv 0) (pa_cons (pe_lst (pa_cons pe_int (pa_cons pe_int (pa_cons pe_int (pa_cons pe_int (pa_cons pe_int pa_nil)))))) pa_nil))))
      (pss_cons (ps_set (i := 2) sc_law_stride.nd rfl (.inl rfl) (pe_ifExp (pt_cmpR op_eq (pe_callD D_law_draw (hr.mono (by decide)) (by rfl) (pa_cons (pv 0) (pa_cons pe_int pa_nil))) pe_int (nomark _)) pe_int (pe_op op_add pe_int (pe_callD D_law_draw (hr.mono (by decide)) (by rfl) (pa_cons (pv 0) (pa_cons (pv 1) pa_nil))))))
      (pss_one (ps_ret (pe_ifExp (pt_cmpR op_eq (pe_callD D_law_draw (hr.mono (by decide)) (by rfl) (pa_cons (pv 0) (pa_cons pe_int pa_nil))) pe_int (nomark _)) (pv 2) (pe_un un_neg (pv 2))))))), ?_⟩
  rintro B Q pb pc b _ rfl _ q
  refine x_seq (x_setV (w_pck (e := PyData.int) (xs := [1, 2, 5, 100, 100]) rfl (ex_frz (en_lst (ds := [.int 1, .int 2, .int 5, .int 100, .int 100]) (ea_cons ex_cI (ea_cons ex_cI (ea_cons ex_cI (ea_cons ex_cI (ea_cons ex_cI ea_nil))))) (Nat.le_of_ble_eq_true rfl))) (fun b' => .z) (by decide) (by decide) fun x b' hx => ?_) (fun x => .s .z))
  have hr : 1 ≤ x ∧ x ≤ 100 := by
    simp only [List.mem_cons, List.not_mem_nil, or_false] at hx
    omega
  refine x_sq (x_setV (w_if (e := PyData.int) (wt_test (w_eq (w_drw rfl ex_cI (fun b' => .z) (by decide) fun y b1 h0 h1 => wv_of ex_cI ⟨fun _ => wv_of ex_cI ?_, fun _ => w_add (wv_of ex_cI (w_drw rfl (ex_v rfl) (fun b' => .z) (by omega) fun z b2 h2 h3 => ?_))⟩)))) (fun x => .s (.s .z)))
  · refine nxt (x_retG q (w_if (wt_test (w_eq (w_drw rfl ex_cI (fun b' => .z) (by decide) fun y b1 h0 h1 => wv_of ex_cI ⟨fun _ => wv_of (ex_v rfl) ⟨by omega, _, List.mem_cons_self⟩, fun _ => wv_of (ex_neg (ex_v rfl)) ⟨by omega, _, List.mem_cons_self⟩⟩)))))
  · refine nxt (x_retG q (w_if (wt_test (w_eq (w_drw rfl ex_cI (fun b' => .z) (by decide) fun y b1 h0 h1 => wv_of ex_cI ⟨fun _ => wv_of (ex_v rfl) ⟨by omega, _, List.mem_cons_self⟩, fun _ => wv_of (ex_neg (ex_v rfl)) ⟨by omega, _, List.mem_cons_self⟩⟩)))))
end K88

/-! ## E1 -/
set_option Elab.async false
set_option linter.all false
set_option maxRecDepth 100000
set_option maxHeartbeats 4000000
set_option autoImplicit false
namespace K88
open PySem L2 Fz K80 Ways
variable {P : Program} {w : World} {K : PySem.W.Frag} {mg : Str → Option Value} {base : Heap} {f : Addr} {fd : FuncData}
/-! ### ways within bounds -/
variable {lb : Int}
def StW (lb : Int) (c : Nat) (x : Int × Int) : Prop := 0 ≤ x.1 ∧ x.1 < lb ∧ x.2.natAbs ≤ c ∧ x.2 ≠ 0
def GW (lb : Int) (n c : Nat) (v : Way) : Prop := v.length ≤ n ∧ ∀ x ∈ v, StW lb c x
theorem GW.lift {a b : Int} {n c : Nat} {v : Way} (h : GW a n c v) (e : a ≤ b) : GW b n c v := ⟨h.1, fun x hx => ⟨(h.2 x hx).1, Int.lt_of_lt_of_le (h.2 x hx).2.1 e, (h.2 x hx).2.2⟩⟩
theorem StW.mono {c d : Nat} {x : Int × Int} (h : StW lb c x) (hd : c ≤ d) : StW lb d x := ⟨h.1, h.2.1, Nat.le_trans h.2.2.1 hd, h.2.2.2⟩
theorem gw_nil {n c : Nat} : GW lb n c [] := ⟨Nat.zero_le _, fun _ h => nomatch h⟩
theorem GW.mono {n m c d : Nat} {v : Way} (h : GW lb n c v) (hn : n ≤ m) (hc : c ≤ d) : GW lb m d v := ⟨Nat.le_trans h.1 hn, fun x hx => (h.2 x hx).mono hc⟩
theorem GW.app {n m c : Nat} {a b : Way} (h : GW lb n c a) (h2 : GW lb m c b) : GW lb (n + m) c (a ++ b) := ⟨by rw [List.length_append]; exact Nat.add_le_add h.1 h2.1, fun x hx => (List.mem_append.mp hx).elim (h.2 x) (h2.2 x)⟩
theorem gw_one {c : Nat} {x : Int × Int} (h : StW lb c x) : GW lb 1 c [x] := ⟨Nat.le_refl _, fun y hy => by rw [List.mem_singleton.mp hy]; exact h⟩
theorem gw_two {c : Nat} {x y : Int × Int} (h : StW lb c x) (h2 : StW lb c y) : GW lb 2 c [x, y] := (gw_one h).app (gw_one h2)
theorem GW.len {n m c : Nat} {v : Way} (h : GW lb n c v) (hm : v.length ≤ m) : GW lb m c v := ⟨hm, h.2⟩
theorem GW.take {n c : Nat} {v : Way} (h : GW lb n c v) (k : Nat) : GW lb n c (v.take k) := ⟨by have := h.1; rw [List.length_take]; omega, fun x hx => h.2 x (List.mem_of_mem_take hx)⟩
theorem GW.drop {n c : Nat} {v : Way} (h : GW lb n c v) (k : Nat) : GW lb n c (v.drop k) := ⟨by have := h.1; rw [List.length_drop]; omega, fun x hx => h.2 x (List.mem_of_mem_drop hx)⟩
theorem GW.rev {n c : Nat} {v : Way} (h : GW lb n c v) : GW lb n c v.reverse := ⟨by rw [List.length_reverse]; exact h.1, fun x hx => h.2 x (List.mem_reverse.mp hx)⟩
theorem GW.back {n c : Nat} {v : Way} (h : GW lb n c v) : GW lb n c (backW v) := ⟨by unfold backW; rw [List.length_reverse, List.length_map]; exact h.1, fun x hx => by
  unfold backW at hx
  obtain ⟨y, hy, rfl⟩ := List.mem_map.mp (List.mem_reverse.mp hx)
  have := h.2 y hy
  exact ⟨this.1, this.2.1, by show (-y.2).natAbs ≤ c; rw [Int.natAbs_neg]; exact this.2.2.1, by show -y.2 ≠ 0; have := this.2.2.2; omega⟩⟩
theorem GW.at {n c k : Nat} {v : Way} {x : Int × Int} (h : GW lb n c v) (hk : v[k]? = some x) : StW lb c x := h.2 x (List.mem_of_getElem? hk)
theorem tot_le {c : Nat} : ∀ {v : Way}, (∀ x ∈ v, StW lb c x) → tot v ≤ v.length * c
  | [], _ => Nat.zero_le _
  | x :: v, h => by
    have h1 := tot_le (v := v) fun y hy => h y (List.mem_cons_of_mem _ hy)
    have h2 := (h x List.mem_cons_self).2.2.1
    show x.2.natAbs + tot v ≤ (v.length + 1) * c
    rw [Nat.add_mul, Nat.one_mul]
    omega
theorem GW.tot {n c : Nat} {v : Way} (h : GW lb n c v) : tot v ≤ n * c := Nat.le_trans (tot_le h.2) (Nat.mul_le_mul_right _ h.1)
theorem step_from (S : Int × Int → Prop) {f : Way} (hf : ∀ x ∈ f, ∃ y, S y ∧ y.1 = x.1) {x : Int × Int} (hx : S x) : ∀ z ∈ stepW f x, ∃ y, S y ∧ y.1 = z.1 := by
  rcases snoc_cases f with rfl | ⟨g, y, rfl⟩
  · rw [step_nil]
    intro z hz
    split at hz
    · exact nomatch hz
    · rw [List.mem_singleton.mp hz]; exact ⟨x, hx, rfl⟩
  · rw [step_snoc]
    have hg : ∀ z ∈ g, ∃ y, S y ∧ y.1 = z.1 := fun z hz => hf z (List.mem_append_left _ hz)
    intro z hz
    split at hz
    · split at hz
      · exact hg z hz
      · rcases List.mem_append.mp hz with h | h
        · exact hg z h
        · rw [List.mem_singleton.mp h]; exact ⟨x, hx, rfl⟩
    · split at hz
      · exact hf z hz
      · rcases List.mem_append.mp hz with h | h
        · exact hf z h
        · rw [List.mem_singleton.mp h]; exact ⟨x, hx, rfl⟩
theorem red_from (v : Way) : ∀ z ∈ redW v, ∃ y ∈ v, y.1 = z.1 := by
  have : ∀ (u f : Way), (∀ x ∈ u, x ∈ v) → (∀ x ∈ f, ∃ y, y ∈ v ∧ y.1 = x.1) → ∀ z ∈ u.foldl stepW f, ∃ y, y ∈ v ∧ y.1 = z.1 := fun u => by
    induction u with
    | nil => exact fun f _ h => h
    | cons x u ih => exact fun f hu h => ih _ (fun y hy => hu y (List.mem_cons_of_mem _ hy)) (step_from (· ∈ v) h (hu x List.mem_cons_self))
  exact this v [] (fun _ h => h) (fun _ h => nomatch h)
theorem tot_ge {v : Way} {x : Int × Int} (h : x ∈ v) : x.2.natAbs ≤ tot v := by
  obtain ⟨i, hi⟩ := List.mem_iff_getElem?.mp h
  have := tot_mem hi
  omega
theorem _root_.Ways.Red.nz {f : Way} (h : Red f) : ∀ {z : Int × Int}, z ∈ f → z.2 ≠ 0 := by
  induction h with
  | nil => exact fun h => nomatch h
  | one h => intro z hz; rw [List.mem_singleton.mp hz]; exact h
  | snoc _ h2 _ ih =>
    intro z hz
    rcases List.mem_append.mp hz with q | q
    · exact ih q
    · rw [List.mem_singleton.mp q]; exact h2
theorem GW.red {n c : Nat} {v : Way} (h : GW lb n c v) : GW lb n (n * c) (redW v) := by
  have h1 := tot_red v
  refine ⟨Nat.le_trans h1.2 h.1, fun z hz => ?_⟩
  obtain ⟨y, hy, e⟩ := red_from v z hz
  have h2 := h.2 y hy
  exact ⟨by rw [← e]; exact h2.1, by rw [← e]; exact h2.2.1, Nat.le_trans (tot_ge hz) (Nat.le_trans h1.1 h.tot), (red_red v).nz hz⟩
theorem GW.nice {n c : Nat} {v : Way} (h : GW 4 n c v) (hc : c ≤ 2 ^ 60) : Nice 2 (n * 3) (wayD v) := by
  refine nice_eT (e := stD) (k := 1) (m := 2) (fun x hx => ?_) h.1
  obtain ⟨h1, h2, h3, _⟩ := h.2 x hx
  refine nice_ints (l := [x.1, x.2]) (fun z hz => ?_) (by show 2 ≤ 2; exact Nat.le_refl _)
  have big : (2 : Nat) ^ 61 ≤ 2 ^ 1920 := Nat.pow_le_pow_right (by decide) (by decide)
  simp only [List.mem_cons, List.not_mem_nil, or_false] at hz
  unfold Bd
  rcases hz with e | e <;> rw [e] <;> omega
/-! ### turned about -/
abbrev S_turned_way (K : PySem.W.Frag) : Sp := spD K (fun v : Way => [wayD v]) (fun v => v.length ≤ 5000) wayD (fun v x => x = backW v)
abbrev S_law_back (K : PySem.W.Frag) : Sp := S_turned_way K
def negD : PyData → PyData
  | .tuple [.int x, .int y] => .tuple [.int x, .int (-y)]
  | d => d
theorem map_negD (v : Way) : (wayL v).map negD = wayL (v.map negW) := by
  unfold wayL
  rw [List.map_map, List.map_map]; rfl
theorem okd_turned_way (Fn : Fun K "turned_way" "turned_way" s_turned_way f fd) (T : Bt P mg base)  : FnOk P w K mg base CX0 41 f fd ["way"] (S_turned_way K) := by
  refine fn_D Fn sc_turned_way (by decide) (fun _ => rfl) fun cdv A outer s H E hr => ⟨_, (pss_one (ps_ret (pe_tupleOf (by rfl) T.n_tuple (pe_lc (g := gTup K 2 (gCons (gName 1) (gCons (gName 2) gNil))) (own := [("letter", 1), ("length", 2)]) rfl sc_turned_way.nd (pi_tup (pe_revT0 (pv 0))) (blkOk_by (own := [("letter", 1), ("length", 2)]) (N := ["way", "letter", "length"]) (sc := defScope s_turned_way) (by decide +kernel)) (fun _ _ _ _ _ => (pg_tup rfl (pgs_cons (pg_name (i := 1) sc_turned_way.nd rfl (Or.inl rfl)) (pgs_cons (pg_name (i := 2) sc_turned_way.nd rfl (Or.inl rfl)) pgs_nil)))) (fun _ _ _ _ _ => pts_nil) (fun _ _ _ _ _ => (pe_tup (pa_cons (pv 1) (pa_cons (pe_un un_neg (pv 2)) pa_nil)))))))), ?_⟩
  rintro B Q v rfl hv q
  refine x_retD q (wv_of (x := backW v) (ex_is (ex_tupL (ds := (wayL v).reverse.map negD) (ex_is (ex_frz (en_lcTP (xs := (wayL v).reverse) (fun _ => true) negD (fun d => match d with | .tuple [x, y] => [some (.d (wayD v)), some (.d x), some (.d y)] | _ => []) (ex_revT0 (ds := wayL v) (ex_v rfl)) (by rw [List.length_reverse, wayL_len]; omega) (gw_tup2 (by simp) (by simp)) (fun d hd => ?_) (fun d hd m => et_yes) (fun d hd _ m => ?_))) (by rw [filter_yes])) .d) ?_) rfl)
  · obtain ⟨x, _, rfl⟩ := List.mem_map.mp (List.mem_reverse.mp hd)
    exact gt_tup2 (d := .int x.1) (e := .int x.2)
  · obtain ⟨x, _, rfl⟩ := List.mem_map.mp (List.mem_reverse.mp hd)
    exact ex_tup (ds := [.int x.1, .int (-x.2)]) (ea_cons (ex_v rfl) (ea_cons (ex_neg (ex_v rfl)) ea_nil)) (Nat.le_of_ble_eq_true rfl)
  · rw [List.map_reverse, map_negD]
    unfold wayD backW wayL
    rw [List.map_reverse]
theorem okd_law_back (Fn : Fun K "_law_back" "_law_back" s_law_back f fd) (T : Bt P mg base)  : FnOk P w K mg base CX0 41 f fd ["way"] (S_law_back K) := by
  refine fn_D Fn sc_law_back (by decide) (fun _ => rfl) fun cdv A outer s H E hr => ⟨_, (pss_one (ps_ret (RT.pe_tupRev rfl (by rfl) T.n_tuple (by rfl) T.n_reversed (pe_callTy (r := rListOf K) call_list_of (by rfl) T.n_list (by decide +kernel) (pa_cons (pe_lc (g := gTup K 2 (gCons (gName 1) (gCons (gName 2) gNil))) (own := [("letter", 1), ("stride", 2)]) rfl sc_law_back.nd (pi_tup (pv 0)) (blkOk_by (own := [("letter", 1), ("stride", 2)]) (N := ["way", "letter", "stride"]) (sc := defScope s_law_back) (by decide +kernel)) (fun _ _ _ _ _ => (pg_tup rfl (pgs_cons (pg_name (i := 1) sc_law_back.nd rfl (Or.inl rfl)) (pgs_cons (pg_name (i := 2) sc_law_back.nd rfl (Or.inl rfl)) pgs_nil)))) (fun _ _ _ _ _ => pts_nil) (fun _ _ _ _ _ => (pe_tup (pa_cons (pv 1) (pa_cons (pe_un un_neg (pv 2)) pa_nil))))) pa_nil))))), ?_⟩
  rintro B Q v rfl hv q
  refine x_retD q (wv_of (x := backW v) (ex_is (ex_tupRev (ds := (wayL v).map negD) (ex_frz (en_list (ds := (wayL v).map negD) (ex_is (ex_frz (en_lcTP (xs := wayL v) (fun _ => true) negD (fun d => match d with | .tuple [x, y] => [some (.d (wayD v)), some (.d x), some (.d y)] | _ => []) (ex_v rfl) (by rw [wayL_len]; omega) (gw_tup2 (by simp) (by simp)) (fun d hd => ?_) (fun d hd m => et_yes) (fun d hd _ m => ?_))) (by rw [filter_yes])) .d)) .d) ?_) rfl)
  · obtain ⟨x, _, rfl⟩ := List.mem_map.mp hd
    exact gt_tup2 (d := .int x.1) (e := .int x.2)
  · obtain ⟨x, _, rfl⟩ := List.mem_map.mp hd
    exact ex_tup (ds := [.int x.1, .int (-x.2)]) (ea_cons (ex_v rfl) (ea_cons (ex_neg (ex_v rfl)) ea_nil)) (Nat.le_of_ble_eq_true rfl)
  · rw [map_negD]
    unfold wayD backW wayL
    rw [List.map_reverse]
/-! ### drawn ways -/
abbrev S_law_own_way (K : PySem.W.Frag) : Sp := spG K (fun y : Int × Int => [.int y.1, .int y.2]) (fun y => (1 ≤ y.1 ∧ y.1 ≤ 4) ∧ 0 ≤ y.2 ∧ y.2 ≤ 100) wayD (fun y v => GW y.1 y.2.toNat 100 v)
theorem w_stride {B : Bg} {ε : Eps} {L : Own} {E : XK} {pb pc : Addr} {i : Nat} {b : Bag} {L2 : Bag → Own} {κ : Int → Own → Prop} (hb : ε[i]? = some (some (.v (.ref pb)))) (hup : ∀ b', Up L (b.at pb pc) (b'.at pb pc) (L2 b')) (k : ∀ (x : Int) b', x ≠ 0 → x.natAbs ≤ 100 → κ x (L2 b')) : WV B PyData.int (tCall (S_law_stride B.K) [] E (tCons (tVar i) tNil)) ε L κ :=
  w_callG (pb := pb) (pc := pc) (wa_x (ex_v hb) (wa_nil ⟨(), b, L2, rfl, hup, trivial, fun x b' hx => k x b' hx.1 hx.2⟩))
theorem okd_law_own_way (Fn : Fun K "_law_own_way" "_law_own_way" s_law_own_way f fd) (T : Bt P mg base) (D_law_pick : Df P w K mg base 42 "_law_pick" ["bag", "some"] (S_law_pick K)) (D_law_draw : Df P w K mg base 41 "_law_draw" ["bag", "below"] (S_law_draw K)) (D_law_stride : Df P w K mg base 43 "_law_stride" ["bag"] (S_law_stride K)) : FnOk P w K mg base CX0 44 f fd ["bag", "k", "most"] (S_law_own_way K) := by
  refine fn_G Fn sc_law_own_way (by decide) (fun _ => rfl) fun cdv A outer s H E hr => ⟨_, (pss_cons (ps_par3 (i := 3) (j := 4) (l := 5) (by rfl) sc_law_own_way.nd rfl rfl rfl (by decide) (by decide) (by decide) rfl rfl rfl (pa_cons (pe_callD D_law_pick (hr.mono (by decide)) (by rfl) (pa_cons (pv 0) (pa_cons (pe_lst (pa_cons (pv 2) (pa_cons (pe_callD D_law_draw (hr.mono (by decide)) (by rfl) (pa_cons (pv 0) (pa_cons (pe_op op_add (pv 2) pe_int) pa_nil))) pa_nil))) pa_nil))) (pa_cons (pe_lst pa_nil) (pa_cons (pe_callD D_law_draw (hr.mono (by decide)) (by rfl) (pa_cons (pv 0) (pa_cons pe_int pa_nil))) pa_nil))) (by rfl))
      (pss_cons (ps_for PassesOwn.never rfl (pi_range1 (by rfl) T.n_range (pa_cons (pv 3) pa_nil)) (pg_name (i := 6) sc_law_own_way.nd rfl (Or.inl rfl)) (pss_one (ps_if (PW.pt (pw_and (pt_cmpR (r := rNeD K) (op_neD hr.units) (pv 4) (pe_lst pa_nil) (nomark _)) (pw_and1 (pt_cmpR op_lt (pe_callD D_law_draw (hr.mono (by decide)) (by rfl) (pa_cons (pv 0) (pa_cons pe_int pa_nil))) (pv 5) (nomark _))))) (pss_one (ps_expr (pe_bm PySem.F.plainAttrs_list PySem.F.slot_list_append PySem.F.type_list_append mt_append (pv 4) (pa_cons (pe_tup (pa_cons (pe_ix (r := rIxT K) ix_tup (pe_ix (r := rIxL K) ix_list (pv 4) (pe_un un_neg pe_int) (fun _ _ => rfl)) pe_int (fun _ _ => rfl)) (pa_cons (pe_callD D_law_pick (hr.mono (by decide)) (by rfl) (pa_cons (pv 0) (pa_cons (pe_lst (pa_cons (pe_un un_neg (pe_ix (r := rIxT K) ix_tup (pe_ix (r := rIxL K) ix_list (pv 4) (pe_un un_neg pe_int) (fun _ _ => rfl)) pe_int (fun _ _ => rfl))) (pa_cons (pe_callD D_law_stride (hr.mono (by decide)) (by rfl) (pa_cons (pv 0) pa_nil)) pa_nil))) pa_nil))) pa_nil))) pa_nil)))) (pss_one (ps_expr (pe_bm PySem.F.plainAttrs_list PySem.F.slot_list_append PySem.F.type_list_append mt_append (pv 4) (pa_cons (pe_tup (pa_cons (pe_callD D_law_draw (hr.mono (by decide)) (by rfl) (pa_cons (pv 0) (pa_cons (pv 1) pa_nil))) (pa_cons (pe_callD D_law_stride (hr.mono (by decide)) (by rfl) (pa_cons (pv 0) pa_nil)) pa_nil))) pa_nil)))))))
      (pss_one (ps_ret (pe_tupleOf (by rfl) T.n_tuple (pv 4)))))), ?_⟩
  rintro B Q pb pc b ⟨k, most⟩ rfl ⟨⟨hk1, hk4⟩, hm0, hm1⟩ q
  dsimp only at hk1 hk4 hm0 hm1
  refine x_seq (x_par3W (wa_v (e := PyData.int) (w_pick (pb := pb) (pc := pc) (wa_x (ex_v rfl) (wa_v (w_dispL (e := PyData.int) (wa_x (ex_v rfl) (wa_v (e := PyData.int) (w_drw (pb := pb) (pc := pc) rfl (ex_add (ex_v rfl) ex_cI) (fun b' => .z) (by omega) fun x b1 h0 h1 => wa_nil ⟨[most, x], rfl, by show 2 ≤ 100000; decide, wa_nil ⟨_, b1, _, rfl, fun b' => .z, List.cons_ne_nil _ _, by show 2 ≤ 100000; decide, fun many b2 hmany => ?_⟩⟩)))))))))
  have hm : 0 ≤ many ∧ many ≤ most := by
    simp only [List.mem_cons, List.not_mem_nil, or_false] at hmany
    omega
  clear hmany
  refine wa_cons (wx_r (wr_of (ds := []) (en_lst ea_nil (Nat.zero_le _)) fun p hp => wa_v (e := PyData.int) (w_drw (pb := pb) (pc := pc) rfl ex_cI (fun b' => .s .z) (by decide) fun near b3 h2 h3 => wa_nil ⟨_, _, _, rfl, ?_⟩)))
  refine x_sq (x_forR1 (n := many) (ea_cons (ex_v rfl) ea_nil) (by omega) (fun i ε L => ∃ (v : Way) (b : Bag), GW k i 100 v ∧ v.length = i ∧ ε = [bagv pb, iv k, iv most, iv many, bagv p, iv near, none] ∧ L = [.lst p (wayL v), b.at pb pc]) ⟨[], b3, gw_nil, rfl, rfl, rfl⟩ ?_ ?_)
  · rintro i ε' L' hi ⟨v, b, hv, hvl, rfl, rfl⟩
    refine x_ifJ (J := fun L1 => ∃ b : Bag, L1 = [.lst p (wayL v), b.at pb pc]) (wt_and (wt_of (et_test (ex_neNil (ds := wayL v) (ex_v rfl) (.o (k := 0) rfl) (shaped_wayL v))) ⟨fun hne => ?_, fun _ => ⟨(fun h => nomatch h), fun _ => ⟨b, rfl⟩⟩⟩)) ?_
    · refine wt_test (w_lt (w_drw (pb := pb) (pc := pc) rfl ex_cI (fun b' => .s .z) (by decide) fun x b1 h0 h1 => wv_of (ex_v rfl) ⟨fun _ => ?_, fun _ => ⟨b1, rfl⟩⟩))
      rcases snoc_cases v with rfl | ⟨g, y, rfl⟩
      · exact nomatch hne
      have hy := hv.2 y (List.mem_append_right _ List.mem_cons_self)
      have lasty : ∀ {L : Own}, L[0]? = some (.lst p (wayL (g ++ [y]))) → EX B (tOp (rIxL B.K) (tVar 4) (tUn (rU fun i => .int (-i)) (tC (.int 1)))) [bagv pb, iv k, iv most, iv many, bagv p, iv near, iv i] L (.d (.tuple [.int y.1, .int y.2])) L := fun h => ex_ixL (ds := wayL (g ++ [y])) (ex_v rfl) (ex_neg ex_cI) (.o (k := 0) h) (at_last g y)
      refine x_appW (e := stD) (ex_v rfl) ⟨_, _, .z⟩ (w_pair (e := PyData.int) (f := PyData.int) (wv_of (ex_ixT (lasty rfl) ex_cI rfl) (w_pick (pb := pb) (pc := pc) (wa_x (ex_v rfl) (wa_v (w_dispL (e := PyData.int) (wa_x (ex_neg (ex_ixT (lasty rfl) ex_cI rfl)) (wa_v (e := PyData.int) (w_stride (pb := pb) (pc := pc) rfl (fun b' => .s .z) fun s b4 h4 h5 => wa_nil ⟨[-y.2, s], rfl, by show 2 ≤ 100000; decide, wa_nil ⟨_, b4, _, rfl, fun b' => .s .z, List.cons_ne_nil _ _, by show 2 ≤ 100000; decide, fun z b5 hz => ⟨_, _, .z, by rw [wayL_len]; omega, nxt (x_end ⟨(g ++ [y]) ++ [(y.1, z)], b5, hv.app (gw_one ⟨hy.1, hy.2.1, ?_⟩), by rw [List.length_append, hvl]; rfl, rfl, by rw [wayL_app (g ++ [y])]; rfl⟩)⟩⟩⟩)))))))))
      have := hy.2.2
      simp only [List.mem_cons, List.not_mem_nil, or_false] at hz
      show z.natAbs ≤ 100 ∧ z ≠ 0
      omega
    · rintro L1 ⟨b1, rfl⟩
      refine x_appW (e := stD) (ex_v rfl) ⟨_, _, .z⟩ (w_pair (e := PyData.int) (f := PyData.int) (w_drw (pb := pb) (pc := pc) rfl (ex_v rfl) (fun b' => .s .z) (by omega) fun x b2 h0 h1 => w_stride (pb := pb) (pc := pc) rfl (fun b' => .s .z) fun s b4 h4 h5 => ⟨_, _, .z, by rw [wayL_len]; omega, nxt (x_end ⟨v ++ [(x, s)], b4, hv.app (gw_one ⟨h0, by show x < k; omega, h5, h4⟩), by rw [List.length_append, hvl]; rfl, rfl, by rw [wayL_app v]; rfl⟩)⟩))
  · rintro ε' L' ⟨v, b, hv, hvl, rfl, rfl⟩
    exact nxt (x_retG q (wv_of (x := v) (ex_tupL (ds := wayL v) (ex_v rfl) (.o (k := 0) rfl)) ⟨hv.mono (by show many.toNat ≤ most.toNat; omega) (Nat.le_refl _), b, by simp⟩))
end K88

/-! ## E2 -/
set_option Elab.async false
set_option linter.all false
set_option maxRecDepth 100000
set_option maxHeartbeats 4000000
set_option autoImplicit false
namespace K88
open PySem L2 Fz K80 Ways
variable {P : Program} {w : World} {K : PySem.W.Frag} {mg : Str → Option Value} {base : Heap} {f : Addr} {fd : FuncData}
theorem step_two {f : Way} (h : Red f) (l a b : Int) : stepW (stepW f (l, a)) (l, b) = stepW f (l, a + b) := by
  rcases snoc_cases f with rfl | ⟨g, y, rfl⟩
  · rw [step_nil, step_nil]
    by_cases ca : a = 0
    · rw [if_pos (show (l, a).2 = 0 from ca), step_nil, ca, Int.zero_add]
    · rw [if_neg (show ¬ (l, a).2 = 0 from ca)]
      have := step_snoc [] (l, a) (l, b)
      rw [List.nil_append] at this
      rw [this, if_pos rfl, Int.add_comm a b]; rfl
  · obtain ⟨m, k⟩ := y
    by_cases e : m = l
    · subst e
      have last : ∀ b : Int, stepW g (m, b) = if b = 0 then g else g ++ [(m, b)] := fun b => by
        rcases snoc_cases g with rfl | ⟨g', z, rfl⟩
        · rw [step_nil]; rfl
        · rw [step_snoc, if_neg (show ¬ z.1 = (m, b).1 from h.apart)]
      rw [step_snoc, step_snoc, if_pos rfl, if_pos rfl]
      by_cases c : a + k = 0
      · rw [if_pos (show (m, a).2 + (m, k).2 = 0 from c), last]
        have e2 : (m, a + b).2 + (m, k).2 = b := by show a + b + k = b; omega
        rw [e2]
      · rw [if_neg (show ¬ (m, a).2 + (m, k).2 = 0 from c), step_snoc, if_pos rfl]
        have e2 : (m, b).2 + ((m, a).1, (m, a).2 + (m, k).2).2 = (m, a + b).2 + (m, k).2 := by show b + (a + k) = a + b + k; omega
        rw [e2]
    · rw [step_snoc, step_snoc, if_neg (show ¬ (m, k).1 = (l, a).1 from e), if_neg (show ¬ (m, k).1 = (l, a + b).1 from e)]
      by_cases ca : a = 0
      · rw [if_pos (show (l, a).2 = 0 from ca), step_snoc, if_neg (show ¬ (m, k).1 = (l, b).1 from e), ca, Int.zero_add]
      · rw [if_neg (show ¬ (l, a).2 = 0 from ca), step_snoc, if_pos rfl]
        have e2 : (l, b).2 + (l, a).2 = (l, a + b).2 := by show b + a = a + b; omega
        rw [e2]
theorem red_put (a b : Way) (l s : Int) : redW (a ++ [(l, s), (l, -s)] ++ b) = redW (a ++ b) := by
  rw [red_app, red_app, red_app]
  congr 1
  show stepW (stepW (redW a) (l, s)) (l, -s) = redW a
  have := step_back (red_red a) (l, -s)
  have e : negW (l, -s) = (l, s) := by unfold negW; simp
  rw [e] at this
  exact this
theorem red_part (a b : Way) (l s t : Int) : redW (a ++ [(l, t), (l, s - t)] ++ b) = redW (a ++ [(l, s)] ++ b) := by
  rw [red_app, red_app, red_app, red_app]
  congr 1
  show stepW (stepW (redW a) (l, t)) (l, s - t) = stepW (redW a) (l, s)
  rw [step_two (red_red a)]
  have e : t + (s - t) = s := by omega
  rw [e]
theorem split_at {v : Way} {n : Nat} {x : Int × Int} (h : v[n]? = some x) : v = v.take n ++ [x] ++ v.drop (n + 1) := by
  have h1 : v.take (n + 1) = v.take n ++ [x] := by rw [List.take_add_one, h]; rfl
  rw [← h1, List.take_append_drop]
abbrev S_law_longer (K : PySem.W.Frag) : Sp := spG K (fun y : Int × Way × Int => [.int y.1, wayD y.2.1, .int y.2.2]) (fun y => (1 ≤ y.1 ∧ y.1 ≤ 4) ∧ y.2.2 ≤ 100 ∧ GW y.1 100 100 y.2.1) wayD (fun y v => GW y.1 (max y.2.2.toNat y.2.1.length) 100 v ∧ redW v = redW y.2.1)
theorem okd_law_longer (Fn : Fun K "_law_longer" "_law_longer" s_law_longer f fd) (T : Bt P mg base) (D_law_draw : Df P w K mg base 41 "_law_draw" ["bag", "below"] (S_law_draw K)) (D_law_stride : Df P w K mg base 43 "_law_stride" ["bag"] (S_law_stride K)) : FnOk P w K mg base CX0 44 f fd ["bag", "k", "way", "most"] (S_law_longer K) := by
  refine fn_G Fn sc_law_longer (by decide) (fun _ => rfl) fun cdv A outer s H E hr => ⟨_, (pss_cons (ps_set (i := 4) sc_law_longer.nd rfl (.inl rfl) (pv 2))
      (pss_cons (ps_for PassesOwn.never rfl (pi_range1 (by rfl) T.n_range (pa_cons pe_int pa_nil)) (pg_name (i := 5) sc_law_longer.nd rfl (Or.inl rfl)) (pss_cons (ps_set (i := 6) sc_law_longer.nd rfl (.inl rfl) (pe_callD D_law_draw (hr.mono (by decide)) (by rfl) (pa_cons (pv 0) (pa_cons (pe_op op_add (pe_callB (r := Evl.rLenS K) call_len_seq (by rfl) T.n_len (by decide +kernel) (pa_cons (pv 4) pa_nil)) pe_int) pa_nil))))
      (pss_one (ps_if (PW.pt (pw_and (pt_cmpR op_le (pe_op op_add (pe_callB (r := Evl.rLenS K) call_len_seq (by rfl) T.n_len (by decide +kernel) (pa_cons (pv 4) pa_nil)) pe_int) (pv 3) (nomark _)) (pw_and1 (pt_cmpR op_eq (pe_callD D_law_draw (hr.mono (by decide)) (by rfl) (pa_cons (pv 0) (pa_cons pe_int pa_nil))) pe_int (nomark _))))) (pss_cons (ps_par (i := 7) (j := 8) (by rfl) sc_law_longer.nd rfl rfl (by decide) rfl rfl (pa_cons (pe_callD D_law_draw (hr.mono (by decide)) (by rfl) (pa_cons (pv 0) (pa_cons (pv 1) pa_nil))) (pa_cons (pe_callD D_law_stride (hr.mono (by decide)) (by rfl) (pa_cons (pv 0) pa_nil)) pa_nil)) (by rfl))
      (pss_one (ps_set (i := 4) sc_law_longer.nd rfl (.inl rfl) (pe_op (r := rCatA K) op_catA (pe_op (r := rCatA K) op_catA (pe_slice (r := rSlA K) sl_tupA (pv 4) po_none (po_some (pv 6))) (pe_tup (pa_cons (pe_tup (pa_cons (pv 7) (pa_cons (pv 8) pa_nil))) (pa_cons (pe_tup (pa_cons (pv 7) (pa_cons (pe_un un_neg (pv 8)) pa_nil))) pa_nil)))) (pe_slice (r := rSlA K) sl_tupA (pv 4) (po_some (pv 6)) po_none))))) (pss_one (ps_if (PW.pt (pw_and (pt_chain op_lt op_lt (pv 6) (pe_callB (r := Evl.rLenS K) call_len_seq (by rfl) T.n_len (by decide +kernel) (pa_cons (pv 4) pa_nil)) (pv 3)) (pw_and1 (pt_cmpR op_le (pe_callB call_abs (by rfl) T.n_abs (by decide +kernel) (pa_cons (pe_ix (r := rIxT K) ix_tup (pe_ix (r := rIxT K) ix_tup (pv 4) (pv 6) (fun _ _ => rfl)) pe_int (fun _ _ => rfl)) pa_nil)) pe_int (nomark _))))) (pss_cons (ps_asg (pe_ix (r := rIxT K) ix_tup (pv 4) (pv 6) (fun _ _ => rfl)) (pg_tup rfl (pgs_cons (pg_name (i := 7) sc_law_longer.nd rfl (Or.inl rfl)) (pgs_cons (pg_name (i := 8) sc_law_longer.nd rfl (Or.inl rfl)) pgs_nil))))
      (pss_cons (ps_set (i := 9) sc_law_longer.nd rfl (.inl rfl) (pe_callD D_law_stride (hr.mono (by decide)) (by rfl) (pa_cons (pv 0) pa_nil)))
      (pss_one (ps_if (PW.pt (pw_and (pt_cmpR op_ne (pv 9) (pv 8) (nomark _)) (pw_and1 (pt_cmpR op_le (pe_callB call_abs (by rfl) T.n_abs (by decide +kernel) (pa_cons (pe_op op_sub (pv 8) (pv 9)) pa_nil)) pe_int (nomark _))))) (pss_one (ps_set (i := 4) sc_law_longer.nd rfl (.inl rfl) (pe_op (r := rCatA K) op_catA (pe_op (r := rCatA K) op_catA (pe_slice (r := rSlA K) sl_tupA (pv 4) po_none (po_some (pv 6))) (pe_tup (pa_cons (pe_tup (pa_cons (pv 7) (pa_cons (pv 9) pa_nil))) (pa_cons (pe_tup (pa_cons (pv 7) (pa_cons (pe_op op_sub (pv 8) (pv 9)) pa_nil))) pa_nil)))) (pe_slice (r := rSlA K) sl_tupA (pv 4) (po_some (pe_op op_add (pv 6) pe_int)) po_none)))) pss_nil)))) pss_nil))))))
      (pss_one (ps_ret (pv 4))))), ?_⟩
  rintro B Q pb pc b ⟨k, v0, most⟩ rfl ⟨⟨hk1, hk4⟩, hm1, hg0⟩ q
  dsimp only at hk1 hk4 hm1 hg0 q
  have hl0 : v0.length ≤ max most.toNat v0.length := Nat.le_max_right _ _
  have hmM : most.toNat ≤ max most.toNat v0.length := Nat.le_max_left _ _
  have hM100 : max most.toNat v0.length ≤ 100 := Nat.max_le.mpr ⟨by omega, hg0.1⟩
  generalize max most.toNat v0.length = M at *
  refine x_seq (x_set (a := .d (wayD v0)) (ex_v rfl) ?_)
  refine x_sq (x_forR1 (n := 8) (ea_cons ex_cI ea_nil) (by decide) (fun i ε L => ∃ (v : Way) (b : Bag), v.length ≤ M ∧ GW k 100 100 v ∧ redW v = redW v0 ∧ ε = [bagv pb, iv k, wv v0, iv most, wv v, none, none, none, none, none] ∧ L = [b.at pb pc]) ⟨v0, b, hl0, hg0, rfl, rfl, rfl⟩ ?_ ?_)
  · rintro i ε' L' hi ⟨v, b, hl, hv, hr, rfl, rfl⟩
    refine x_seq (x_setV (w_drw (pb := pb) (pc := pc) rfl (ex_add (ex_lenW (ex_v rfl) rfl) ex_cI) (fun b' => .z) (by omega) fun at0 b1 h0 h1 => ?_) (fun x => .s (.s (.s (.s (.s (.s .z)))))))
    have ht : (v.take at0.toNat).length = at0.toNat := by rw [List.length_take]; omega
    have hd : (v.drop at0.toNat).length = v.length - at0.toNat := by rw [List.length_drop]
    refine nxt (x_ifJ (J := fun L1 => ∃ b : Bag, L1 = [b.at pb pc]) (wt_and (wt_of (et_test (ex_le (ex_add (ex_lenW (ex_v rfl) rfl) ex_cI) (ex_v rfl))) ⟨fun hc => ?_, fun _ => ⟨(fun h => nomatch h), fun _ => ⟨b1, rfl⟩⟩⟩)) ?_)
    · have hc : (v.length : Int) + 2 ≤ most := of_decide_eq_true hc
      refine wt_test (w_eq (w_drw (pb := pb) (pc := pc) rfl ex_cI (fun b' => .z) (by decide) fun x b2 h2 h3 => wv_of ex_cI ⟨fun _ => ?_, fun _ => ⟨b2, rfl⟩⟩))
      refine x_seq (x_parW (wa_v (w_drw (pb := pb) (pc := pc) rfl (ex_v rfl) (fun b' => .z) (by omega) fun l b3 h4 h5 => wa_v (w_stride (pb := pb) (pc := pc) rfl (fun b' => .z) fun s b4 h6 h7 => wa_nil ⟨_, _, rfl, ?_⟩))))
      refine nxt (x_set (a := .d (wayD (v.take at0.toNat ++ [(l, s), (l, -s)] ++ v.drop at0.toNat))) (ex_is (ex_cat (e := stD) (ex_cat (e := stD) (ex_take (e := stD) (xs := v) (ex_v rfl) (ex_v rfl) h0) (ex_tup (ds := [stD (l, s), stD (l, -s)]) (ea_cons (ex_tup (ds := [.int l, .int s]) (ea_cons (ex_v rfl) (ea_cons (ex_v rfl) ea_nil)) (Nat.le_of_ble_eq_true rfl)) (ea_cons (ex_tup (ds := [.int l, .int (-s)]) (ea_cons (ex_v rfl) (ea_cons (ex_neg (ex_v rfl)) ea_nil)) (Nat.le_of_ble_eq_true rfl)) ea_nil)) (Nat.le_of_ble_eq_true rfl)) ?_) (ex_from (e := stD) (xs := v) (ex_v rfl) (ex_v rfl) h0) ?_) rfl) ?_)
      · show _ + 2 ≤ 100000
        omega
      · rw [List.length_append]
        show _ + 2 + _ ≤ 100000
        omega
      · have hs : StW k 100 (l, s) := ⟨h4, by show l < k; omega, h7, h6⟩
        have hs2 : StW k 100 (l, -s) := ⟨h4, by show l < k; omega, by show (-s).natAbs ≤ 100; rw [Int.natAbs_neg]; exact h7, by show -s ≠ 0; omega⟩
        have hlen : (v.take at0.toNat ++ [(l, s), (l, -s)] ++ v.drop at0.toNat).length = v.length + 2 := by
          rw [List.length_append, List.length_append, ht, hd]
          show _ + 2 + _ = _
          omega
        exact nxt (x_end ⟨_, b4, by rw [hlen]; omega, (((hv.take _).app (gw_two hs hs2)).app (hv.drop _)).len (by rw [hlen]; omega), by rw [red_put, List.take_append_drop]; exact hr, rfl, rfl⟩)
    · rintro L1 ⟨b2, rfl⟩
      refine x_if (L1 := [b2.at pb pc]) (et_and (b := decide (at0 < v.length) && decide ((v.length : Int) < most)) (c := decide (((v.getD at0.toNat (0, 0)).2.natAbs : Int) ≤ 100)) (et_test (ex_chain (p := fun i j => decide (i < j)) (q := fun i j => decide (i < j)) (ex_v rfl) (ex_lenW (ex_v rfl) rfl) (ex_v rfl))) (fun hb => ?_) (fun _ => rfl)) (fun hb => ?_) fun _ => x_next (nxt (x_end ⟨v, b2, hl, hv, hr, rfl, rfl⟩))
      · rw [Bool.and_eq_true] at hb
        have hlt : at0 < v.length := of_decide_eq_true hb.1
        have hx : v[at0.toNat]? = some (v.getD at0.toNat (0, 0)) := by
          rw [List.getD_eq_getElem?_getD, List.getElem?_eq_getElem (by omega)]; rfl
        refine et_test (ex_le (ex_int (ex_abs (ex_ixT (ds := [.int (v.getD at0.toNat (0, 0)).1, .int (v.getD at0.toNat (0, 0)).2]) (ex_at (e := stD) (xs := v) (n := at0.toNat) (a := v.getD at0.toNat (0, 0)) (ex_v rfl) (ex_v rfl) (by omega) hx) ex_cI rfl)) (abs_if _)) ex_cI)
      · rw [Bool.and_eq_true, Bool.and_eq_true] at hb
        have hlt : at0 < v.length := of_decide_eq_true hb.1.1
        have hlm : (v.length : Int) < most := of_decide_eq_true hb.1.2
        have hx : v[at0.toNat]? = some (v.getD at0.toNat (0, 0)) := by
          rw [List.getD_eq_getElem?_getD, List.getElem?_eq_getElem (by omega)]; rfl
        generalize v.getD at0.toNat (0, 0) = x at *
        obtain ⟨l, s⟩ := x
        have hxs := hv.at hx
        refine x_seq (x_asg (a := .d (stD (l, s))) (ex_at (e := stD) (xs := v) (n := at0.toNat) (a := (l, s)) (ex_v rfl) (ex_v rfl) (by omega) hx) (gt_tup2 (d := .int l) (e := .int s)) ?_)
        refine x_sq (x_setV (w_stride (pb := pb) (pc := pc) rfl (fun b' => .z) fun m b3 h6 h7 => ?_) (fun x => .s (.s (.s (.s (.s (.s (.s (.s (.s .z))))))))))
        refine nxt (x_if (et_and (et_test (ex_neI (ex_v rfl) (ex_v rfl))) (fun _ => et_test (ex_le (ex_int (ex_abs (ex_sub (ex_v rfl) (ex_v rfl))) (abs_if _)) ex_cI)) (fun _ => rfl)) (fun hb => ?_) fun _ => x_next (nxt (x_end ⟨v, b3, hl, hv, hr, rfl, rfl⟩)))
        rw [Bool.and_eq_true] at hb
        have hsm : ((s - m).natAbs : Int) ≤ 100 := of_decide_eq_true hb.2
        refine x_set (a := .d (wayD (v.take at0.toNat ++ [(l, m), (l, s - m)] ++ v.drop (at0.toNat + 1)))) (ex_is (ex_cat (e := stD) (ex_cat (e := stD) (ys := [(l, m), (l, s - m)]) (ex_take (e := stD) (xs := v) (ex_v rfl) (ex_v rfl) h0) (ex_tup (ds := [stD (l, m), stD (l, s - m)]) (ea_cons (ex_tup (ds := [.int l, .int m]) (ea_cons (ex_v rfl) (ea_cons (ex_v rfl) ea_nil)) (Nat.le_of_ble_eq_true rfl)) (ea_cons (ex_tup (ds := [.int l, .int (s - m)]) (ea_cons (ex_v rfl) (ea_cons (ex_sub (ex_v rfl) (ex_v rfl)) ea_nil)) (Nat.le_of_ble_eq_true rfl)) ea_nil)) (Nat.le_of_ble_eq_true rfl)) ?_) (ex_from (e := stD) (xs := v) (ex_v rfl) (ex_add (ex_v rfl) ex_cI) (by omega)) ?_) ?_) ?_
        · show _ + 2 ≤ 100000
          omega
        · rw [List.length_append, List.length_drop]
          show _ + 2 + _ ≤ 100000
          omega
        · have e : (at0 + 1).toNat = at0.toNat + 1 := by omega
          rw [e]; rfl
        · have hs : StW k 100 (l, m) := ⟨hxs.1, hxs.2.1, h7, h6⟩
          have hs2 : StW k 100 (l, s - m) := ⟨hxs.1, hxs.2.1, by show (s - m).natAbs ≤ 100; omega, by show s - m ≠ 0; have := hb.1; simp at this; omega⟩
          have hlen : (v.take at0.toNat ++ [(l, m), (l, s - m)] ++ v.drop (at0.toNat + 1)).length = v.length + 1 := by
            rw [List.length_append, List.length_append, ht, List.length_drop]
            show _ + 2 + _ = _
            omega
          exact nxt (x_end ⟨_, b3, by rw [hlen]; omega, (((hv.take _).app (gw_two hs hs2)).app (hv.drop _)).len (by rw [hlen]; omega), by rw [red_part, ← split_at hx]; exact hr, rfl, rfl⟩)
  · rintro ε' L' ⟨v, b, hl, hv, hr, rfl, rfl⟩
    exact nxt (x_retG q (wv_of (x := v) (ex_v rfl) ⟨⟨hv.len hl, hr⟩, b, by simp⟩))
end K88

/-! ## E3 -/
set_option Elab.async false
set_option linter.all false
set_option maxRecDepth 100000
set_option maxHeartbeats 4000000
set_option autoImplicit false
namespace K88
open PySem L2 Fz K80 Ways
variable {P : Program} {w : World} {K : PySem.W.Frag} {mg : Str → Option Value} {base : Heap} {f : Addr} {fd : FuncData}
abbrev S_law_otherwise (K : PySem.W.Frag) : Sp := spG K (fun y : Int × Way × Int => [.int y.1, wayD y.2.1, .int y.2.2]) (fun y => (1 ≤ y.1 ∧ y.1 ≤ 4) ∧ GW y.1 100 100 y.2.1) wayD (fun y v => GW y.1 (max 1 y.2.1.length) 100 v)
theorem ex_wayNil {B : Bg} {ε : Eps} {L La : Own} {te : TE} {v : Way} (h : EX B te ε L (.d (wayD v)) La) : EX B (tOp (rEqD B.K) te (tTup tNil)) ε L (.d (.bool (decide (v = [])))) La :=
  ex_boolE (ex_eqD h (ex_tup (ds := []) ea_nil (Nat.zero_le _)) (shaped_way v) rfl) (eqv_way v [])
theorem ex_wayNe {B : Bg} {ε : Eps} {L La : Own} {te : TE} {v : Way} (h : EX B te ε L (.d (wayD v)) La) : EX B (tOp (rNeD B.K) te (tTup tNil)) ε L (.d (.bool (!decide (v = [])))) La :=
  ex_boolE (ex_neD h (ex_tup (ds := []) ea_nil (Nat.zero_le _)) (shaped_way v) rfl) (by rw [show PyData.eqv (wayD v) (.tuple []) = decide (v = []) from eqv_way v []])
theorem okd_law_otherwise (Fn : Fun K "_law_otherwise" "_law_otherwise" s_law_otherwise f fd) (T : Bt P mg base) (D_law_draw : Df P w K mg base 41 "_law_draw" ["bag", "below"] (S_law_draw K)) (D_law_stride : Df P w K mg base 43 "_law_stride" ["bag"] (S_law_stride K)) : FnOk P w K mg base CX0 44 f fd ["bag", "k", "way", "kind"] (S_law_otherwise K) := by
  refine fn_G Fn sc_law_otherwise (by decide) (fun _ => rfl) fun cdv A outer s H E hr => ⟨_, (pss_cons (ps_if (pt_cmpR (r := rEqD K) (op_eqD hr.units) (pv 2) (pe_tup pa_nil) (nomark _)) (pss_one (ps_ret (pe_tup (pa_cons (pe_tup (pa_cons (pe_callD D_law_draw (hr.mono (by decide)) (by rfl) (pa_cons (pv 0) (pa_cons (pv 1) pa_nil))) (pa_cons (pe_callD D_law_stride (hr.mono (by decide)) (by rfl) (pa_cons (pv 0) pa_nil)) pa_nil))) pa_nil)))) pss_nil)
      (pss_cons (ps_set (i := 4) sc_law_otherwise.nd rfl (.inl rfl) (pe_callD D_law_draw (hr.mono (by decide)) (by rfl) (pa_cons (pv 0) (pa_cons (pe_callB (r := Evl.rLenS K) call_len_seq (by rfl) T.n_len (by decide +kernel) (pa_cons (pv 2) pa_nil)) pa_nil))))
      (pss_cons (ps_asg (pe_ix (r := rIxT K) ix_tup (pv 2) (pv 4) (fun _ _ => rfl)) (pg_tup rfl (pgs_cons (pg_name (i := 5) sc_law_otherwise.nd rfl (Or.inl rfl)) (pgs_cons (pg_name (i := 6) sc_law_otherwise.nd rfl (Or.inl rfl)) pgs_nil))))
      (pss_cons (ps_if (pt_cmpR op_eq (pv 3) pe_int (nomark _)) (pss_cons (ps_set (i := 7) sc_law_otherwise.nd rfl (.inl rfl) (pe_ifExp (PW.pt (pw_or (pt_cmpR op_gt (pv 6) pe_int (nomark _)) (pw_or1 (pt_cmpR op_eq (pv 6) (pe_un un_neg pe_int) (nomark _))))) (pe_op op_sub (pv 6) pe_int) (pe_op op_add (pv 6) pe_int)))
      (pss_cons (ps_set (i := 7) sc_law_otherwise.nd rfl (.inl rfl) (pe_ifExp (pt_chain op_le op_le (pe_un un_neg pe_int) (pv 7) pe_int) (pv 7) (pe_op op_fdivW (pv 6) pe_int)))
      (pss_one (ps_ret (pe_op (r := rCatA K) op_catA (pe_op (r := rCatA K) op_catA (pe_slice (r := rSlA K) sl_tupA (pv 2) po_none (po_some (pv 4))) (pe_tup (pa_cons (pe_tup (pa_cons (pv 5) (pa_cons (pv 7) pa_nil))) pa_nil))) (pe_slice (r := rSlA K) sl_tupA (pv 2) (po_some (pe_op op_add (pv 4) pe_int)) po_none)))))) pss_nil)
      (pss_cons (ps_if (pt_cmpR op_eq (pv 3) pe_int (nomark _)) (pss_one (ps_ret (pe_op (r := rCatA K) op_catA (pe_op (r := rCatA K) op_catA (pe_slice (r := rSlA K) sl_tupA (pv 2) po_none (po_some (pv 4))) (pe_tup (pa_cons (pe_tup (pa_cons (pv 5) (pa_cons (pe_un un_neg (pv 6)) pa_nil))) pa_nil))) (pe_slice (r := rSlA K) sl_tupA (pv 2) (po_some (pe_op op_add (pv 4) pe_int)) po_none)))) pss_nil)
      (pss_cons (ps_if (pt_cmpR op_eq (pv 3) pe_int (nomark _)) (pss_one (ps_ret (pe_op (r := rCatA K) op_catA (pe_op (r := rCatA K) op_catA (pe_slice (r := rSlA K) sl_tupA (pv 2) po_none (po_some (pv 4))) (pe_tup (pa_cons (pe_tup (pa_cons (pe_op op_mod (pe_callTy call_int1 (by rfl) T.n_int (by decide +kernel) (pa_cons (pe_op op_add (pv 5) pe_int) pa_nil)) (pv 1)) (pa_cons (pv 6) pa_nil))) pa_nil))) (pe_slice (r := rSlA K) sl_tupA (pv 2) (po_some (pe_op op_add (pv 4) pe_int)) po_none)))) pss_nil)
      (pss_cons (ps_if (pt_cmpR op_eq (pv 3) pe_int (nomark _)) (pss_one (ps_ret (pe_op (r := rCatA K) op_catA (pe_slice (r := rSlA K) sl_tupA (pv 2) po_none (po_some (pv 4))) (pe_slice (r := rSlA K) sl_tupA (pv 2) (po_some (pe_op op_add (pv 4) pe_int)) po_none)))) pss_nil)
      (pss_cons (ps_if (pt_cmpR op_eq (pv 3) pe_int (nomark _)) (pss_one (ps_ret (pe_op (r := rCatA K) op_catA (pe_op (r := rCatA K) op_catA (pe_slice (r := rSlA K) sl_tupA (pv 2) po_none (po_some (pv 4))) (RT.pe_tupRev rfl (by rfl) T.n_tuple (by rfl) T.n_reversed (pe_callTy (r := rListOf K) call_list_of (by rfl) T.n_list (by decide +kernel) (pa_cons (pe_slice (r := rSlA K) sl_tupA (pv 2) (po_some (pv 4)) (po_some (pe_op op_add (pv 4) pe_int))) pa_nil)))) (pe_slice (r := rSlA K) sl_tupA (pv 2) (po_some (pe_op op_add (pv 4) pe_int)) po_none)))) pss_nil)
      (pss_one (ps_ret (pe_op (r := rCatA K) op_catA (pe_op (r := rCatA K) op_catA (pe_slice (r := rSlA K) sl_tupA (pv 2) po_none (po_some (pv 4))) (pe_slice (r := rSlA K) sl_tupA (pv 2) (po_some (pe_op op_add (pv 4) pe_int)) po_none)) (pe_slice (r := rSlA K) sl_tupA (pv 2) (po_some (pv 4)) (po_some (pe_op op_add (pv 4) pe_int)))))))))))))), ?_⟩
  rintro B Q pb pc b ⟨k, v, kind⟩ rfl ⟨⟨hk1, hk4⟩, hv⟩ q
  dsimp only at hk1 hk4 hv q
  show Ho B _ [bagv pb, iv k, wv v, iv kind, none, none, none, none] [b.at pb pc]
  refine x_seq (x_if (et_test (ex_wayNil (ex_v rfl))) (fun hc => ?_) fun hc => ?_)
  · have e : v = [] := of_decide_eq_true hc
    subst e
    refine x_retG q (wv_as (e := eT stD) (w_dispT (wa_v (w_pair (e := PyData.int) (f := PyData.int) (w_drw (pb := pb) (pc := pc) rfl (ex_v rfl) (fun b' => .z) (by omega) fun l b1 h0 h1 => w_stride (pb := pb) (pc := pc) rfl (fun b' => .z) fun s b2 h2 h3 => wa_nil ⟨[(l, s)], rfl, by show 1 ≤ 100000; decide, [(l, s)], rfl, gw_one ⟨h0, by show l < k; omega, h3, h2⟩, b2, by simp⟩)))))
  · have hne : v ≠ [] := of_decide_eq_false hc
    have hpos := List.length_pos_iff.mpr hne
    have hlen := hv.1
    refine x_next (nxt (x_seq (x_setV (w_drw (pb := pb) (pc := pc) rfl (ex_lenW (ex_v rfl) rfl) (fun b' => .z) (by omega) fun at0 b1 h0 h1 => ?_) (fun x => .s (.s (.s (.s .z)))))))
    have hx : v[at0.toNat]? = some (v.getD at0.toNat (0, 0)) := by
      rw [List.getD_eq_getElem?_getD, List.getElem?_eq_getElem (by omega)]; rfl
    generalize v.getD at0.toNat (0, 0) = x at *
    obtain ⟨l, s⟩ := x
    have hxs := hv.at hx
    have ht : (v.take at0.toNat).length = at0.toNat := by rw [List.length_take]; omega
    have hd : (v.drop (at0.toNat + 1)).length = v.length - at0.toNat - 1 := by rw [List.length_drop]; omega
    have e1 : (at0 + 1).toNat = at0.toNat + 1 := by omega
    have e2 : (at0 + 2).toNat = at0.toNat + 2 := by omega
    have hmax : v.length ≤ max 1 v.length := Nat.le_max_right _ _
    -- the way with one step put otherwise
    have put : ∀ {l' s' : Int}, StW k 100 (l', s') → GW k (max 1 v.length) 100 (v.take at0.toNat ++ [(l', s')] ++ v.drop (at0.toNat + 1)) := fun h => (((hv.take _).app (gw_one h)).app (hv.drop _)).len (by
      rw [List.length_append, List.length_append, ht, hd]
      show _ + 1 + _ ≤ _
      omega)
    have exput : ∀ {ε : Eps} {te : TE} {l' s' : Int}, ε[2]? = some (wv v) → ε[4]? = some (iv at0) → EX B te ε [b1.at pb pc] (.d (eT stD [(l', s')])) [b1.at pb pc] → EX B (tOp (rCatA B.K) (tOp (rCatA B.K) (tSl (rSlA B.K) (tVar 2) tNoPart (tPart (tVar 4))) te) (tSl (rSlA B.K) (tVar 2) (tPart (tOp (rI0 fun i j => .int (i + j)) (tVar 4) (tC (.int 1)))) tNoPart)) ε [b1.at pb pc] (.d (wayD (v.take at0.toNat ++ [(l', s')] ++ v.drop (at0.toNat + 1)))) [b1.at pb pc] := fun hv hat h => by
      refine ex_is (ex_cat (e := stD) (ex_cat (e := stD) (ex_take (e := stD) (xs := v) (ex_v hv) (ex_v hat) h0) h ?_) (ex_from (e := stD) (xs := v) (ex_v hv) (ex_add (ex_v hat) ex_cI) (by omega)) ?_) ?_
      · show _ + 1 ≤ 100000
        omega
      · rw [List.length_append, e1]
        show _ + 1 + _ ≤ 100000
        omega
      · rw [e1]; rfl
    refine x_sq (x_asg (a := .d (stD (l, s))) (ex_at (e := stD) (xs := v) (n := at0.toNat) (a := (l, s)) (ex_v rfl) (ex_v rfl) (by omega) hx) (gt_tup2 (d := .int l) (e := .int s)) ?_)
    refine x_sq (x_if (et_test (ex_eqI (ex_v rfl) ex_cI)) (fun hc => ?_) fun hc => x_next (nxt (x_seq (x_if (et_test (ex_eqI (ex_v rfl) ex_cI)) (fun hc => ?_) fun hc => x_next (nxt (x_seq (x_if (et_test (ex_eqI (ex_v rfl) ex_cI)) (fun hc => ?_) fun hc => x_next (nxt (x_seq (x_if (et_test (ex_eqI (ex_v rfl) ex_cI)) (fun hc => ?_) fun hc => x_next (nxt (x_seq (x_if (et_test (ex_eqI (ex_v rfl) ex_cI)) (fun hc => ?_) fun hc => x_next (nxt ?_))))))))))))))
    · refine x_seq (x_set (a := .d (.int (if (decide (1 < s) || decide (s = -1)) = true then s - 1 else s + 1))) (ex_ifI (et_or (et_test (ex_gt (ex_v rfl) ex_cI)) (fun _ => et_test (ex_eqI (ex_v rfl) (ex_neg ex_cI))) (fun _ => rfl)) (fun _ => ex_sub (ex_v rfl) ex_cI) (fun _ => ex_add (ex_v rfl) ex_cI)) ?_)
      have hm : (if (decide (1 < s) || decide (s = -1)) = true then s - 1 else s + 1).natAbs ≤ 100 ∧ (if (decide (1 < s) || decide (s = -1)) = true then s - 1 else s + 1) ≠ 0 := by
        have : s.natAbs ≤ 100 := hxs.2.2.1
        have : s ≠ 0 := hxs.2.2.2
        split
        · rename_i h
          rw [Bool.or_eq_true, decide_eq_true_eq, decide_eq_true_eq] at h
          omega
        · rename_i h
          rw [Bool.or_eq_true, decide_eq_true_eq, decide_eq_true_eq] at h
          omega
      generalize (if (decide (1 < s) || decide (s = -1)) = true then s - 1 else s + 1) = m at *
      refine x_sq (x_set (a := .d (.int (if (decide (-100 ≤ m) && decide (m ≤ 100)) = true then m else s / 2))) (ex_ifI (et_test (ex_chain (p := fun i j => decide (i ≤ j)) (q := fun i j => decide (i ≤ j)) (ex_neg ex_cI) (ex_v rfl) ex_cI)) (fun _ => ex_v rfl) (fun _ => ex_fdiv (ex_v rfl) ex_cI (cdiv (b := 2) (by decide) (by unfold Bd; decide) (by decide)))) ?_)
      have hm2 : (if (decide (-100 ≤ m) && decide (m ≤ 100)) = true then m else s / 2).natAbs ≤ 100 ∧ (if (decide (-100 ≤ m) && decide (m ≤ 100)) = true then m else s / 2) ≠ 0 := by
        have e : (decide (-100 ≤ m) && decide (m ≤ 100)) = true := by
          rw [Bool.and_eq_true, decide_eq_true_eq, decide_eq_true_eq]
          omega
        rw [if_pos e]
        exact hm
      generalize (if (decide (-100 ≤ m) && decide (m ≤ 100)) = true then m else s / 2) = m2 at *
      refine nxt (x_retG q (wv_of (exput rfl rfl (ex_tup (ds := [stD (l, m2)]) (ea_cons (ex_tup (ds := [.int l, .int m2]) (ea_cons (ex_v rfl) (ea_cons (ex_v rfl) ea_nil)) (Nat.le_of_ble_eq_true rfl)) ea_nil) (Nat.le_of_ble_eq_true rfl))) ⟨put ⟨hxs.1, hxs.2.1, hm2⟩, b1, by simp⟩))
    · refine x_retG q (wv_of (exput rfl rfl (ex_tup (ds := [stD (l, -s)]) (ea_cons (ex_tup (ds := [.int l, .int (-s)]) (ea_cons (ex_v rfl) (ea_cons (ex_neg (ex_v rfl)) ea_nil)) (Nat.le_of_ble_eq_true rfl)) ea_nil) (Nat.le_of_ble_eq_true rfl))) ⟨put ⟨hxs.1, hxs.2.1, by show (-s).natAbs ≤ 100; rw [Int.natAbs_neg]; exact hxs.2.2.1, by show -s ≠ 0; have : s ≠ 0 := hxs.2.2.2; omega⟩, b1, by simp⟩)
    · have h1 := Int.emod_nonneg (l + 1) (show k ≠ 0 by omega)
      have h2 := Int.emod_lt_of_pos (l + 1) (show 0 < k by omega)
      refine x_retG q (wv_of (exput rfl rfl (ex_tup (ds := [stD ((l + 1) % k, s)]) (ea_cons (ex_tup (ds := [.int ((l + 1) % k), .int s]) (ea_cons (ex_mod (ex_int1 (ex_add (ex_v rfl) ex_cI)) (ex_v rfl) (by omega)) (ea_cons (ex_v rfl) ea_nil)) (Nat.le_of_ble_eq_true rfl)) ea_nil) (Nat.le_of_ble_eq_true rfl))) ⟨put ⟨h1, by show (l + 1) % k < k; omega, hxs.2.2⟩, b1, by simp⟩)
    · refine x_retG q (wv_of (x := v.take at0.toNat ++ v.drop (at0.toNat + 1)) (ex_is (ex_cat (e := stD) (ex_take (e := stD) (xs := v) (ex_v rfl) (ex_v rfl) h0) (ex_from (e := stD) (xs := v) (ex_v rfl) (ex_add (ex_v rfl) ex_cI) (by omega)) (by rw [ht, e1, hd]; omega)) (by rw [e1]; rfl)) ⟨((hv.take _).app (hv.drop _)).len (by rw [List.length_append, ht, hd]; omega), b1, by simp⟩)
    · have hmid : ((v.drop at0.toNat).take 2).length ≤ v.length - at0.toNat := by rw [List.length_take, List.length_drop]; omega
      have hsum : at0.toNat + ((v.drop at0.toNat).take 2).length + (v.drop (at0.toNat + 2)).length ≤ v.length := by
        rw [List.length_take, List.length_drop, List.length_drop]; omega
      refine x_retG q (wv_of (x := v.take at0.toNat ++ ((v.drop at0.toNat).take 2).reverse ++ v.drop (at0.toNat + 2)) (ex_is (ex_cat (e := stD) (ex_cat (e := stD) (ys := ((v.drop at0.toNat).take 2).reverse) (ex_take (e := stD) (xs := v) (ex_v rfl) (ex_v rfl) h0) (ex_is (ex_tupRev (ds := ((v.drop at0.toNat).take 2).map stD) (ex_frz (en_listT (ds := ((v.drop at0.toNat).take 2).map stD) (ex_is (ex_mid (e := stD) (xs := v) (ex_v rfl) (ex_v rfl) (ex_add (ex_v rfl) ex_cI) h0 (by omega)) ?_))) .d) ?_) ?_) (ex_from (e := stD) (xs := v) (ex_v rfl) (ex_add (ex_v rfl) ex_cI) (by omega)) ?_) ?_) ⟨(((hv.take _).app ((hv.drop _).take 2).rev).app (hv.drop _)).len ?_, b1, by simp⟩)
      · have e3 : (at0 + 2).toNat - at0.toNat = 2 := by omega
        rw [e3]; rfl
      · unfold eT; rw [List.map_reverse]
      · rw [List.length_reverse]; omega
      · rw [List.length_append, List.length_reverse, ht, e2]; omega
      · rw [e2]; rfl
      · rw [List.length_append, List.length_append, List.length_reverse, ht]; omega
    · have hmid : ((v.drop at0.toNat).take 1).length = 1 := by rw [List.length_take, List.length_drop]; omega
      refine x_retG q (wv_of (x := v.take at0.toNat ++ v.drop (at0.toNat + 1) ++ (v.drop at0.toNat).take 1) (ex_is (ex_cat (e := stD) (ex_cat (e := stD) (ex_take (e := stD) (xs := v) (ex_v rfl) (ex_v rfl) h0) (ex_from (e := stD) (xs := v) (ex_v rfl) (ex_add (ex_v rfl) ex_cI) (by omega)) ?_) (ex_mid (e := stD) (xs := v) (ex_v rfl) (ex_v rfl) (ex_add (ex_v rfl) ex_cI) h0 (by omega)) ?_) ?_) ⟨(((hv.take _).app (hv.drop _)).app ((hv.drop _).take 1)).len ?_, b1, by simp⟩)
      · rw [ht, e1, hd]; omega
      · have e3 : at0.toNat + 1 - at0.toNat = 1 := by omega
        rw [List.length_append, ht, e1, hd, e3, hmid]; omega
      · have e3 : at0.toNat + 1 - at0.toNat = 1 := by omega
        rw [e1, e3]; rfl
      · rw [List.length_append, List.length_append, ht, hd, hmid]; omega
end K88

/-! ## E4 -/
set_option Elab.async false
set_option linter.all false
set_option maxRecDepth 100000
set_option maxHeartbeats 4000000
set_option autoImplicit false
namespace K88
open PySem L2 Fz K80 Ways
variable {P : Program} {w : World} {K : PySem.W.Frag} {mg : Str → Option Value} {base : Heap} {f : Addr} {fd : FuncData}
abbrev S_law_around (K : PySem.W.Frag) : Sp := spD K (fun y : Way × Way => [wayD y.1, wayD y.2]) (fun y => y.1.length + y.2.length ≤ 1000) wayD (fun y x => x = redW (y.1 ++ y.2 ++ backW y.1 ++ backW y.2))
section
variable {B : Bg} {ε : Eps} {L La : Own} {tas : TA} {te ta tb : TE} {E : XK}
theorem ex_left {v : Way} (h : EX B te ε L (.d (wayD v)) La) (hl : v.length ≤ 5000) : EX B (tCall (S_law_left B.K) [] E (tCons te tNil)) ε L (.d (wayD (redW v))) La :=
  ex_of fun κ k => w_callD (wa_x h (wa_nil ⟨v, rfl, hl, fun x hx => hx ▸ k⟩))
theorem ex_back {v : Way} (h : EX B te ε L (.d (wayD v)) La) (hl : v.length ≤ 5000) : EX B (tCall (S_law_back B.K) [] E (tCons te tNil)) ε L (.d (wayD (backW v))) La :=
  ex_of fun κ k => w_callD (wa_x h (wa_nil ⟨v, rfl, hl, fun x hx => hx ▸ k⟩))
end
theorem back_len (v : Way) : (backW v).length = v.length := by unfold backW; rw [List.length_reverse, List.length_map]
theorem okd_law_around (Fn : Fun K "_law_around" "_law_around" s_law_around f fd) (T : Bt P mg base) (D_law_left : Df P w K mg base 41 "_law_left" ["way"] (S_law_left K)) (D_law_back : Df P w K mg base 41 "_law_back" ["way"] (S_law_back K)) : FnOk P w K mg base CX0 42 f fd ["one", "other"] (S_law_around K) := by
  refine fn_D Fn sc_law_around (by decide) (fun _ => rfl) fun cdv A outer s H E hr => ⟨_, (pss_one (ps_ret (pe_callD D_law_left (hr.mono (by decide)) (by rfl) (pa_cons (pe_op (r := rCatA K) op_catA (pe_op (r := rCatA K) op_catA (pe_op (r := rCatA K) op_catA (pv 0) (pv 1)) (pe_callD D_law_back (hr.mono (by decide)) (by rfl) (pa_cons (pv 0) pa_nil))) (pe_callD D_law_back (hr.mono (by decide)) (by rfl) (pa_cons (pv 1) pa_nil))) pa_nil)))), ?_⟩
  rintro B Q ⟨a, c⟩ rfl hl q
  dsimp only at hl q
  show Ho B _ [wv a, wv c] []
  have h1 := back_len a
  have h2 := back_len c
  refine x_retD q (wv_of (ex_left (ex_catW (ex_catW (ex_catW (ex_v rfl) (ex_v rfl) (by omega)) (ex_back (ex_v rfl) (by omega)) ?_) (ex_back (ex_v rfl) (by omega)) ?_) ?_) rfl)
  · rw [List.length_append]; omega
  · rw [List.length_append, List.length_append]; omega
  · rw [List.length_append, List.length_append, List.length_append]; omega
theorem GW.around {lb : Int} {n m c : Nat} {a d : Way} (h : GW lb n c a) (h2 : GW lb m c d) : GW lb (n + m + n + m) ((n + m + n + m) * c) (redW (a ++ d ++ backW a ++ backW d)) := (((h.app h2).app h.back).app h2.back).red
theorem w_around {B : Bg} {ε : Eps} {L : Own} {E : XK} {tas : TA} {κ : Way → Own → Prop} (h : WA B tas ε L fun as L1 => ∃ a d : Way, as = [.d (wayD a), .d (wayD d)] ∧ a.length + d.length ≤ 1000 ∧ κ (redW (a ++ d ++ backW a ++ backW d)) L1) : WV B wayD (tCall (S_law_around B.K) [] E tas) ε L κ :=
  w_callD fun F σ H r Q q => h F σ H r Q fun as L' vs F' H' ⟨a, d, ea, hl, k⟩ => q as L' vs F' H' ⟨(a, d), ea, hl, fun x hx => by rw [hx]; exact k⟩
abbrev pairD : Way × Way → PyData := eP wayD wayD
abbrev S_law_deep_pair (K : PySem.W.Frag) : Sp := spG K (fun k : Int => [.int k]) (fun k => 1 ≤ k ∧ k ≤ 4) pairD (fun k y => GW k 8 (2 ^ 20) y.1 ∧ GW k 8 (2 ^ 20) y.2)
theorem get3 {α : Type} {l : List α} (h : l.length = 3) : ∃ a b c, l = [a, b, c] := by
  match l, h with
  | [a, b, c], _ => exact ⟨a, b, c, rfl⟩
theorem deepBound (i : Nat) (h : i < 3) : 12 * 30 ^ i ≤ 10800 := by
  match i, h with
  | 0, _ => decide
  | 1, _ => decide
  | 2, _ => decide
theorem okd_law_deep_pair (Fn : Fun K "_law_deep_pair" "_law_deep_pair" s_law_deep_pair f fd) (T : Bt P mg base) (D_law_around : Df P w K mg base 42 "_law_around" ["one", "other"] (S_law_around K)) (D_law_draw : Df P w K mg base 41 "_law_draw" ["bag", "below"] (S_law_draw K)) (D_law_left : Df P w K mg base 41 "_law_left" ["way"] (S_law_left K)) (D_law_back : Df P w K mg base 41 "_law_back" ["way"] (S_law_back K)) (D_law_pick : Df P w K mg base 42 "_law_pick" ["bag", "some"] (S_law_pick K)) : FnOk P w K mg base CX0 43 f fd ["bag", "k"] (S_law_deep_pair K) := by
  refine fn_G Fn sc_law_deep_pair (by decide) (fun _ => rfl) fun cdv A outer s H E hr => ⟨_, (pss_cons (ps_setLc (i := 2) (own := [("place", 10)]) rfl sc_law_deep_pair.nd rfl rfl (sw_true rfl rfl rfl (by decide +kernel)) (pi_range1 (by rfl) T.n_range (pa_cons pe_int pa_nil)) (blkOk_by (own := [("place", 10)]) (N := ["bag", "k", "steps", "found", "turn", "at", "half", "one", "other", "further", "place"]) (sc := defScope s_law_deep_pair) (by decide +kernel)) (fun _ _ _ _ _ => (pg_name (i := 10) sc_law_deep_pair.nd rfl (Or.inl rfl))) (fun _ _ _ _ _ => pts_nil) (fun _ _ _ _ _ => (pe_tup (pa_cons (pe_tup (pa_cons (pe_callD D_law_draw (hr.mono (by decide)) (by rfl) (pa_cons (pv 0) (pa_cons (pv 1) pa_nil))) (pa_cons (pe_callD D_law_pick (hr.mono (by decide)) (by rfl) (pa_cons (pv 0) (pa_cons (pe_lst (pa_cons pe_int (pa_cons (pe_un un_neg pe_int) (pa_cons pe_int (pa_cons (pe_un un_neg pe_int) pa_nil))))) pa_nil))) pa_nil))) pa_nil))))
      (pss_cons (ps_set (i := 3) sc_law_deep_pair.nd rfl (.inl rfl) (pe_callD D_law_around (hr.mono (by decide)) (by rfl) (pa_cons (pe_ix (r := rIxL K) ix_list (pv 2) pe_int (fun _ _ => rfl)) (pa_cons (pe_ix (r := rIxL K) ix_list (pv 2) pe_int (fun _ _ => rfl)) pa_nil))))
      (pss_cons (ps_for PassesOwn.never rfl (pi_range1 (by rfl) T.n_range (pa_cons (pe_callD D_law_draw (hr.mono (by decide)) (by rfl) (pa_cons (pv 0) (pa_cons pe_int pa_nil))) pa_nil)) (pg_name (i := 4) sc_law_deep_pair.nd rfl (Or.inl rfl)) (pss_cons (ps_set (i := 9) sc_law_deep_pair.nd rfl (.inl rfl) (pe_callD D_law_around (hr.mono (by decide)) (by rfl) (pa_cons (pe_callD D_law_pick (hr.mono (by decide)) (by rfl) (pa_cons (pv 0) (pa_cons (pv 2) pa_nil))) (pa_cons (pv 3) pa_nil))))
      (pss_one (ps_set (i := 3) sc_law_deep_pair.nd rfl (.inl rfl) (pe_ifExp (PW.pt (pw_and (pt_cmpR op_le (pe_callB (r := Evl.rLenS K) call_len_seq (by rfl) T.n_len (by decide +kernel) (pa_cons (pv 9) pa_nil)) pe_int (nomark _)) (pw_and1 (pt_cmpR (r := rNeD K) (op_neD hr.units) (pv 9) (pe_tup pa_nil) (nomark _))))) (pv 9) (pv 3))))))
      (pss_cons (ps_set (i := 5) sc_law_deep_pair.nd rfl (.inl rfl) (pe_callD D_law_draw (hr.mono (by decide)) (by rfl) (pa_cons (pv 0) (pa_cons (pe_op op_add (pe_callB (r := Evl.rLenS K) call_len_seq (by rfl) T.n_len (by decide +kernel) (pa_cons (pv 3) pa_nil)) pe_int) pa_nil))))
      (pss_cons (ps_set (i := 3) sc_law_deep_pair.nd rfl (.inl rfl) (pe_callD D_law_left (hr.mono (by decide)) (by rfl) (pa_cons (pe_op (r := rCatA K) op_catA (pe_slice (r := rSlA K) sl_tupA (pv 3) (po_some (pv 5)) po_none) (pe_slice (r := rSlA K) sl_tupA (pv 3) po_none (po_some (pv 5)))) pa_nil)))
      (pss_cons (ps_set (i := 6) sc_law_deep_pair.nd rfl (.inl rfl) (pe_op op_fdivW (pe_callB (r := Evl.rLenS K) call_len_seq (by rfl) T.n_len (by decide +kernel) (pa_cons (pv 3) pa_nil)) pe_int))
      (pss_cons (ps_par (i := 7) (j := 8) (by rfl) sc_law_deep_pair.nd rfl rfl (by decide) rfl rfl (pa_cons (pe_slice (r := rSlA K) sl_tupA (pv 3) po_none (po_some (pv 6))) (pa_cons (pe_callD D_law_back (hr.mono (by decide)) (by rfl) (pa_cons (pe_slice (r := rSlA K) sl_tupA (pv 3) (po_some (pv 6)) po_none) pa_nil)) pa_nil)) (by rfl))
      (pss_one (ps_ret (pe_ifExp (pt_cmpR op_eq (pe_callD D_law_draw (hr.mono (by decide)) (by rfl) (pa_cons (pv 0) (pa_cons pe_int pa_nil))) pe_int (nomark _)) (pe_tup (pa_cons (pv 7) (pa_cons (pv 8) pa_nil))) (pe_tup (pa_cons (pe_op (r := rCatA K) op_catA (pe_ix (r := rIxL K) ix_list (pv 2) pe_int (fun _ _ => rfl)) (pv 7)) (pa_cons (pe_op (r := rCatA K) op_catA (pe_ix (r := rIxL K) ix_list (pv 2) pe_int (fun _ _ => rfl)) (pv 8)) pa_nil))))))))))))), ?_⟩
  rintro B Q pb pc b k rfl ⟨hk1, hk4⟩ q
  show Ho B _ [bagv pb, iv k, none, none, none, none, none, none, none, none, none] [b.at pb pc]
  refine x_seq (x_setV (e := eL wayD) (w_frz (wr_lcR1 (n := 3) (ea_cons ex_cI ea_nil) (by decide) (fun i acc L => ∃ (ws : List Way) (b : Bag), ws.length = i ∧ acc = ws.map wayD ∧ (∀ v ∈ ws, GW k 1 3 v) ∧ L = [b.at pb pc]) ⟨[], b, rfl, rfl, (fun _ h => nomatch h), rfl⟩ (by simp) ?_ ?_)) (fun x => .s (.s .z)))
  · rintro i hi acc L' ⟨ws, b, hl, rfl, hw, rfl⟩
    refine ⟨by rw [List.length_map]; omega, _, gt_name, fun m => wt_of et_yes ⟨fun _ => ?_, (fun h => nomatch h)⟩⟩
    refine wv_as (e := eT stD) (w_dispT (wa_v (w_pair (e := PyData.int) (f := PyData.int) (w_drw (pb := pb) (pc := pc) rfl (ex_v rfl) (fun b' => .z) (by omega) fun l b1 h0 h1 => w_pck (pb := pb) (pc := pc) (e := PyData.int) (xs := [1, -1, 2, -3]) rfl (ex_frz (en_lst (ds := [.int 1, .int (-1), .int 2, .int (-3)]) (ea_cons ex_cI (ea_cons (ex_neg ex_cI) (ea_cons ex_cI (ea_cons (ex_neg ex_cI) ea_nil)))) (Nat.le_of_ble_eq_true rfl))) (fun b' => .z) (by decide) (by decide) fun s b2 hs => wa_nil ⟨[(l, s)], rfl, by show 1 ≤ 100000; decide, wayD [(l, s)], rfl, [b2.at pb pc], rfl, ws ++ [[(l, s)]], b2, by rw [List.length_append, hl]; rfl, by rw [List.map_append]; rfl, fun v hv => ?_, rfl⟩))))
    rcases List.mem_append.mp hv with h | h
    · exact hw v h
    · rw [List.mem_singleton.mp h]
      refine gw_one ⟨h0, by show l < k; omega, ?_⟩
      simp only [List.mem_cons, List.not_mem_nil, or_false] at hs
      show s.natAbs ≤ 3 ∧ s ≠ 0
      omega
  · rintro p acc L' hp ⟨ws, b, hl, rfl, hw, rfl⟩
    refine ⟨_, _, ws, hp, rfl, rfl, ?_⟩
    obtain ⟨s0, s1, s2, rfl⟩ := get3 hl
    have g0 := hw s0 (by simp)
    have g1 := hw s1 (by simp)
    have g2 := hw s2 (by simp)
    have l0 := g0.1
    have l1 := g1.1
    have l2 := g2.1
    have hstep : ∀ {ε : Eps} {L : Own} {n : Nat} {v : Way} {j : Int} {te : TE}, ε[2]? = some (dv (eL wayD [s0, s1, s2])) → EX B te ε L (.d (.int j)) L → j = (n : Int) → [s0, s1, s2][n]? = some v → EX B (tOp (rIxL B.K) (tVar 2) te) ε L (.d (wayD v)) L := fun h h1 hj hn => ex_atl (e := wayD) (xs := [s0, s1, s2]) (ex_v h) h1 .d hj hn
    refine x_sq (x_setV (e := wayD) (w_around (wa_x (hstep rfl ex_cI (n := 0) rfl rfl) (wa_x (hstep rfl ex_cI (n := 1) rfl rfl) (wa_nil ⟨s0, s1, rfl, by omega, ?_⟩)))) (fun x => .s (.s (.s .z))))
    have ga := g0.around g1
    generalize redW (s0 ++ s1 ++ backW s0 ++ backW s1) = v0 at *
    refine x_sq (x_forR1W (wa_v (e := PyData.int) (w_drw (pb := pb) (pc := pc) rfl ex_cI (fun b' => .z) (by decide) fun n b1 h0 h1 => wa_nil ⟨n, rfl, by omega, fun i ε L => ∃ (v : Way) (b : Bag), GW k 14 (12 * 30 ^ i) v ∧ ε = [bagv pb, iv k, dv (eL wayD [s0, s1, s2]), wv v, none, none, none, none, none, none, none] ∧ L = [b.at pb pc], ⟨v0, b1, ga.mono (by decide) (by decide), rfl, rfl⟩, ?_, ?_⟩)))
    · rintro i ε' L' hi ⟨v, b, hv, rfl, rfl⟩
      have hvl := hv.1
      refine x_seq (x_setV (e := wayD) (w_around (wa_v (e := wayD) (w_pck (pb := pb) (pc := pc) (xs := [s0, s1, s2]) rfl (ex_v rfl) (fun b' => .z) (List.cons_ne_nil _ _) (by show 3 ≤ 100000; decide) fun s b2 hs => wa_x (ex_v rfl) (wa_nil ⟨s, v, rfl, ?_, ?_⟩)))) (fun x => .s (.s (.s (.s (.s (.s (.s (.s (.s .z))))))))))
      · have := (hw s hs).1
        omega
      · have gn := ((hw s hs).mono (Nat.le_refl 1) (show 3 ≤ 12 * 30 ^ i from Nat.le_trans (by decide) (Nat.le_mul_of_pos_right 12 (Nat.pow_pos (by decide))))).around hv
        generalize redW (s ++ v ++ backW s ++ backW v) = u at *
        have hc : (1 + 14 + 1 + 14) * (12 * 30 ^ i) = 12 * 30 ^ (i + 1) := by rw [Nat.pow_succ]; omega
        rw [hc] at gn
        have key : GW k 14 (12 * 30 ^ (i + 1)) (if (decide ((u.length : Int) ≤ 14) && !decide (u = [])) = true then u else v) := by
          split
          · rename_i h
            rw [Bool.and_eq_true] at h
            have := of_decide_eq_true h.1
            exact gn.len (by omega)
          · exact hv.mono (Nat.le_refl _) (by rw [← hc]; omega)
        refine nxt (x_set (a := .d (wayD (if (decide ((u.length : Int) ≤ 14) && !decide (u = [])) = true then u else v))) (ex_if (et_and (et_test (ex_le (ex_lenW (ex_v rfl) rfl) ex_cI)) (fun _ => et_test (ex_wayNe (ex_v rfl))) (fun _ => rfl)) (fun h => by rw [if_pos h]; exact ex_v rfl) (fun h => by rw [h]; exact ex_v rfl)) (nxt (x_end ⟨_, b2, key, rfl, rfl⟩)))
    · rintro ε' L' ⟨v, b, hv, rfl, rfl⟩
      have hvl := hv.1
      have hv2 : GW k 14 10800 v := hv.mono (Nat.le_refl _) (deepBound _ (by omega))
      refine nxt (x_seq (x_setV (w_drw (pb := pb) (pc := pc) rfl (ex_add (ex_lenW (ex_v rfl) rfl) ex_cI) (fun b' => .z) (by omega) fun at0 b2 h2 h3 => ?_) (fun x => .s (.s (.s (.s (.s .z)))))))
      have gr : GW k 14 (14 * 10800) (redW (v.drop at0.toNat ++ v.take at0.toNat)) := by
        have := ((hv2.drop at0.toNat).app (hv2.take at0.toNat)).len (m := 14) (by rw [List.length_append, List.length_drop, List.length_take]; omega)
        exact this.red
      refine x_sq (x_set (a := .d (wayD (redW (v.drop at0.toNat ++ v.take at0.toNat)))) (ex_left (ex_cat (e := stD) (ex_from (e := stD) (xs := v) (ex_v rfl) (ex_v rfl) h2) (ex_take (e := stD) (xs := v) (ex_v rfl) (ex_v rfl) h2) (by rw [List.length_drop, List.length_take]; omega)) (by rw [List.length_append, List.length_drop, List.length_take]; omega)) ?_)
      generalize redW (v.drop at0.toNat ++ v.take at0.toNat) = u at *
      have hul := gr.1
      refine x_sq (x_set (a := .d (.int ((u.length : Int) / 2))) (ex_fdiv (ex_lenW (ex_v rfl) rfl) ex_cI (cdiv (b := 2) (by decide) (by unfold Bd; decide) (by decide))) ?_)
      have hh : 0 ≤ (u.length : Int) / 2 := by omega
      have g1' : GW k 7 (2 ^ 20) (u.take ((u.length : Int) / 2).toNat) := ((gr.mono (Nat.le_refl _) (by decide)).take _).len (by rw [List.length_take]; omega)
      have g2' : GW k 7 (2 ^ 20) (backW (u.drop ((u.length : Int) / 2).toNat)) := (((gr.mono (Nat.le_refl _) (by decide)).drop _).len (m := 7) (by rw [List.length_drop]; omega)).back
      refine x_sq (x_par (a := .d (wayD (u.take ((u.length : Int) / 2).toNat))) (b := .d (wayD (backW (u.drop ((u.length : Int) / 2).toNat)))) (ea_cons (ex_take (e := stD) (xs := u) (ex_v rfl) (ex_v rfl) hh) (ea_cons (ex_back (ex_from (e := stD) (xs := u) (ex_v rfl) (ex_v rfl) hh) (by rw [List.length_drop]; omega)) ea_nil)) ?_)
      generalize u.take ((u.length : Int) / 2).toNat = one at *
      generalize backW (u.drop ((u.length : Int) / 2).toNat) = other at *
      have l3 := g1'.1
      have l4 := g2'.1
      refine nxt (x_retG q (w_if (wt_test (w_eq (w_drw (pb := pb) (pc := pc) rfl ex_cI (fun b' => .z) (by decide) fun y b3 h4 h5 => wv_of ex_cI ⟨fun _ => wv_of (ex_pair (ex_v rfl) (ex_v rfl)) ⟨⟨g1'.mono (by decide) (Nat.le_refl _), g2'.mono (by decide) (Nat.le_refl _)⟩, b3, by simp⟩, fun _ => wv_of (x := (s2 ++ one, s2 ++ other)) (ex_pair (ex_catW (hstep rfl ex_cI (n := 2) rfl rfl) (ex_v rfl) (by omega)) (ex_catW (hstep rfl ex_cI (n := 2) rfl rfl) (ex_v rfl) (by omega))) ⟨⟨(g2.mono (Nat.le_refl _) (by decide)).app g1', (g2.mono (Nat.le_refl _) (by decide)).app g2'⟩, b3, by simp⟩⟩)))))
end K88

/-! ## E5 -/
set_option Elab.async false
set_option linter.all false
set_option maxRecDepth 100000
set_option maxHeartbeats 4000000
set_option autoImplicit false
namespace K88
open PySem L2 Fz K80 Ways
variable {P : Program} {w : World} {K : PySem.W.Frag} {mg : Str → Option Value} {base : Heap} {f : Addr} {fd : FuncData}
abbrev S_law_last_pair (K : PySem.W.Frag) : Sp := spG K (fun _ : Unit => []) (fun _ => True) pairD (fun _ y => GW 4 8 (2 ^ 20) y.1 ∧ GW 4 8 (2 ^ 20) y.2)
theorem okd_law_last_pair (Fn : Fun K "_law_last_pair" "_law_last_pair" s_law_last_pair f fd) (T : Bt P mg base) (D_law_pick : Df P w K mg base 42 "_law_pick" ["bag", "some"] (S_law_pick K)) (D_law_stride : Df P w K mg base 43 "_law_stride" ["bag"] (S_law_stride K)) (D_law_draw : Df P w K mg base 41 "_law_draw" ["bag", "below"] (S_law_draw K)) : FnOk P w K mg base CX0 44 f fd ["bag"] (S_law_last_pair K) := by
  refine fn_G Fn sc_law_last_pair (by decide) (fun _ => rfl) fun cdv A outer s H E hr => ⟨_, (pss_cons (ps_asg (pe_tup (pa_cons (pe_op op_add pe_int (pe_callD D_law_draw (hr.mono (by decide)) (by rfl) (pa_cons (pv 0) (pa_cons pe_int pa_nil)))) (pa_cons (pe_lst pa_nil) pa_nil))) (pg_tup rfl (pgs_cons (pg_name (i := 1) sc_law_last_pair.nd rfl (Or.inl rfl)) (pgs_cons (pg_name (i := 2) sc_law_last_pair.nd rfl (Or.inr rfl)) pgs_nil))))
      (pss_cons (ps_set (i := 3) sc_law_last_pair.nd rfl (.inl rfl) (pe_callD D_law_pick (hr.mono (by decide)) (by rfl) (pa_cons (pv 0) (pa_cons (pe_lst (pa_cons pe_int (pa_cons pe_int (pa_cons (pe_callD D_law_draw (hr.mono (by decide)) (by rfl) (pa_cons (pv 0) (pa_cons pe_int pa_nil))) pa_nil)))) pa_nil))))
      (pss_cons (ps_for PassesOwn.never rfl (pi_range1 (by rfl) T.n_range (pa_cons (pv 3) pa_nil)) (pg_name (i := 4) sc_law_last_pair.nd rfl (Or.inl rfl)) (pss_cons (ps_setLc (i := 9) (own := [("letter", 10)]) rfl sc_law_last_pair.nd rfl rfl (sw_true rfl rfl rfl (by decide +kernel)) (pi_range1 (by rfl) T.n_range (pa_cons (pe_op op_sub (pv 1) pe_int) pa_nil)) (blkOk_by (own := [("letter", 10)]) (N := ["bag", "k", "way", "many", "place", "stride", "last", "one", "other", "free", "letter"]) (sc := defScope s_law_last_pair) (by decide +kernel)) (fun _ _ _ _ _ => (pg_name (i := 10) sc_law_last_pair.nd rfl (Or.inl rfl))) (fun _ _ _ _ _ => (pts_one (PW.pt (pw_or (pt_cmpR (r := rEqD K) (op_eqD hr.units) (pv 2) (pe_lst pa_nil) (nomark _)) (pw_or1 (pt_cmpR op_ne (pv 10) (pe_ix (r := rIxT K) ix_tup (pe_ix (r := rIxL K) ix_list (pv 2) (pe_un un_neg pe_int) (fun _ _ => rfl)) pe_int (fun _ _ => rfl)) (nomark _))))))) (fun _ _ _ _ _ => (pv 10)))
      (pss_one (ps_expr (pe_bm PySem.F.plainAttrs_list PySem.F.slot_list_append PySem.F.type_list_append mt_append (pv 2) (pa_cons (pe_tup (pa_cons (pe_callD D_law_pick (hr.mono (by decide)) (by rfl) (pa_cons (pv 0) (pa_cons (pv 9) pa_nil))) (pa_cons (pe_callD D_law_stride (hr.mono (by decide)) (by rfl) (pa_cons (pv 0) pa_nil)) pa_nil))) pa_nil))))))
      (pss_cons (ps_set (i := 5) sc_law_last_pair.nd rfl (.inl rfl) (pe_callD D_law_stride (hr.mono (by decide)) (by rfl) (pa_cons (pv 0) pa_nil)))
      (pss_cons (ps_set (i := 6) sc_law_last_pair.nd rfl (.inl rfl) (pe_callD D_law_pick (hr.mono (by decide)) (by rfl) (pa_cons (pv 0) (pa_cons (pe_lst (pa_cons (pe_tup pa_nil) (pa_cons (pe_tup (pa_cons (pe_tup (pa_cons (pe_op op_sub (pv 1) pe_int) (pa_cons (pe_un un_neg (pv 5)) pa_nil))) pa_nil)) (pa_cons (pe_tup (pa_cons (pe_tup (pa_cons (pe_op op_sub (pv 1) pe_int) (pa_cons (pe_callD D_law_stride (hr.mono (by decide)) (by rfl) (pa_cons (pv 0) pa_nil)) pa_nil))) pa_nil)) pa_nil)))) pa_nil))))
      (pss_cons (ps_par (i := 7) (j := 8) (by rfl) sc_law_last_pair.nd rfl rfl (by decide) rfl rfl (pa_cons (pe_op (r := rCatA K) op_catA (pe_tupleOf (by rfl) T.n_tuple (pv 2)) (pe_tup (pa_cons (pe_tup (pa_cons (pe_op op_sub (pv 1) pe_int) (pa_cons (pv 5) pa_nil))) pa_nil))) (pa_cons (pe_op (r := rCatA K) op_catA (pe_tupleOf (by rfl) T.n_tuple (pv 2)) (pv 6)) pa_nil)) (by rfl))
      (pss_one (ps_ret (pe_ifExp (pt_cmpR op_eq (pe_callD D_law_draw (hr.mono (by decide)) (by rfl) (pa_cons (pv 0) (pa_cons pe_int pa_nil))) pe_int (nomark _)) (pe_tup (pa_cons (pv 7) (pa_cons (pv 8) pa_nil))) (pe_tup (pa_cons (pv 8) (pa_cons (pv 7) pa_nil)))))))))))), ?_⟩
  rintro B Q pb pc b _ rfl _ q
  show Ho B _ [bagv pb, none, none, none, none, none, none, none, none, none, none] [b.at pb pc]
  refine x_seq (x_asgP2 (wa_v (e := PyData.int) (w_add (wv_of ex_cI (w_drw (pb := pb) (pc := pc) rfl ex_cI (fun b' => .z) (by decide) fun k0 b1 h0 h1 => wa_cons (wx_r (wr_of (ds := []) (en_lst ea_nil (Nat.zero_le _)) fun p hp => wa_nil ⟨_, _, rfl, ?_⟩)))))))
  have hk : 3 ≤ 3 + k0 ∧ 3 + k0 ≤ 4 := by omega
  generalize 3 + k0 = k at *
  refine x_sq (x_setV (e := PyData.int) (w_pick (pb := pb) (pc := pc) (wa_x (ex_v rfl) (wa_v (w_dispL (e := PyData.int) (wa_x ex_cI (wa_x ex_cI (wa_v (e := PyData.int) (w_drw (pb := pb) (pc := pc) rfl ex_cI (fun b' => .s .z) (by decide) fun x b2 h2 h3 => wa_nil ⟨[7, 7, x], rfl, by show 3 ≤ 100000; decide, wa_nil ⟨_, b2, _, rfl, fun b' => .s .z, List.cons_ne_nil _ _, by show 3 ≤ 100000; decide, fun many b3 hmany => ?_⟩⟩)))))))) (fun x => .s (.s (.s .z))))
  have hm : 0 ≤ many ∧ many ≤ 7 := by
    simp only [List.mem_cons, List.not_mem_nil, or_false] at hmany
    omega
  clear hmany
  refine x_sq (x_forR1 (n := many) (ea_cons (ex_v rfl) ea_nil) (by omega) (fun i ε L => ∃ (v : Way) (b : Bag), GW k i 100 v ∧ ε = [bagv pb, iv k, bagv p, iv many, none, none, none, none, none, none, none] ∧ L = [.lst p (wayL v), b.at pb pc]) ⟨[], b3, gw_nil, rfl, rfl⟩ ?_ ?_)
  · rintro i ε' L' hi ⟨v, b, hv, rfl, rfl⟩
    have hvl := hv.1
    let tf : Nat → Bool := fun j => v.isEmpty || !decide ((j : Int) = (v.getLast?.getD (0, 0)).1)
    refine x_seq (x_set (a := .d (li ((List.range (k - 1).toNat).filter tf |>.map fun (j : Nat) => (j : Int)))) (ex_is (ex_frz (en_lcR1P (n := k - 1) tf (fun j => .int (j : Int)) (ea_cons (ex_sub (ex_v rfl) ex_cI) ea_nil) (by omega) (by simp) (fun j m hj => ?_) (fun j m hj _ => ex_v rfl))) (by unfold li; rw [List.map_map]; rfl)) ?_)
    · rcases snoc_cases v with rfl | ⟨g, y, rfl⟩
      · exact et_is (et_or (b := true) (c := true) (et_test (ex_eqNil (ds := wayL []) (ex_v rfl) (.o (k := 0) rfl) rfl)) (fun h => nomatch h) (fun _ => rfl)) rfl
      · have e1 : (wayL (g ++ [y])).isEmpty = false := by rw [wayL_app]; cases wayL g <;> rfl
        have e2 : tf j = !decide ((j : Int) = y.1) := by
          show ((g ++ [y]).isEmpty || !decide ((j : Int) = ((g ++ [y]).getLast?.getD (0, 0)).1)) = _
          rw [List.getLast?_append, List.getLast?_singleton]
          cases g <;> rfl
        rw [e2]
        refine et_is (et_or (b := false) (et_is (et_test (ex_eqNil (ds := wayL (g ++ [y])) (ex_v rfl) (.o (k := 0) rfl) (shaped_wayL _))) e1) (fun _ => et_test (ex_neI (ex_v rfl) (ex_ixT (ds := [.int y.1, .int y.2]) (ex_ixL (ds := wayL (g ++ [y])) (ex_v rfl) (ex_neg ex_cI) (.o (k := 0) rfl) (at_last g y)) ex_cI rfl))) (fun h => nomatch h)) rfl
    · have hfree : ((List.range (k - 1).toNat).filter tf |>.map fun (j : Nat) => (j : Int)) ≠ [] ∧ ∀ z ∈ ((List.range (k - 1).toNat).filter tf |>.map fun (j : Nat) => (j : Int)), 0 ≤ z ∧ z < k := by
        refine ⟨fun h0 => ?_, fun z hz => ?_⟩
        · have h1 := List.map_eq_nil_iff.mp h0
          have h2 := List.filter_eq_nil_iff.mp h1
          have c0 := h2 0 (List.mem_range.mpr (by omega))
          have c1 := h2 1 (List.mem_range.mpr (by omega))
          simp only [tf, Bool.or_eq_true, Bool.not_eq_true', decide_eq_false_iff_not, not_or, Decidable.not_not] at c0 c1
          have d0 := c0.2
          have d1 := c1.2
          omega
        · obtain ⟨j, hj, rfl⟩ := List.mem_map.mp hz
          have := List.mem_range.mp (List.mem_filter.mp hj).1
          omega
      have hfl : ((List.range (k - 1).toNat).filter tf |>.map fun (j : Nat) => (j : Int)).length ≤ 100000 := by
        rw [List.length_map]
        exact Nat.le_trans (List.length_filter_le _ _) (by rw [List.length_range]; omega)
      generalize ((List.range (k - 1).toNat).filter tf |>.map fun (j : Nat) => (j : Int)) = free at *
      refine nxt (x_appW (e := stD) (ex_v rfl) ⟨_, _, .z⟩ (w_pair (e := PyData.int) (f := PyData.int) (w_pck (pb := pb) (pc := pc) (e := PyData.int) (xs := free) rfl (ex_v rfl) (fun b' => .s .z) hfree.1 hfl fun l b4 hl => w_stride (pb := pb) (pc := pc) rfl (fun b' => .s .z) fun s b5 h6 h7 => ⟨_, _, .z, by rw [wayL_len]; omega, nxt (x_end ⟨v ++ [(l, s)], b5, hv.app (gw_one ⟨(hfree.2 l hl).1, (hfree.2 l hl).2, h7, h6⟩), rfl, by rw [wayL_app v]; rfl⟩)⟩)))
  · rintro ε' L' ⟨v, b, hv, rfl, rfl⟩
    have hv7 : GW k 7 100 v := hv.mono (by omega) (Nat.le_refl _)
    have hvl := hv7.1
    have exw : ∀ {ε : Eps} {b : Bag}, ε[2]? = some (bagv p) → EX B (tThen (tVar 2) (kTup B.K)) ε [.lst p (wayL v), b.at pb pc] (.d (wayD v)) [.lst p (wayL v), b.at pb pc] := fun h => ex_tupL (ds := wayL v) (ex_v h) (.o (k := 0) rfl)
    refine nxt (x_seq (x_setV (w_stride (pb := pb) (pc := pc) rfl (fun b' => .s .z) fun s b4 h4 h5 => ?_) (fun x => .s (.s (.s (.s (.s .z)))))))
    refine x_sq (x_setV (e := wayD) (w_pick (pb := pb) (pc := pc) (wa_x (ex_v rfl) (wa_v (w_dispL (e := wayD) (wa_x (ex_tup (ds := []) ea_nil (Nat.zero_le _)) (wa_x (ex_tup (ds := [stD (k - 1, -s)]) (ea_cons (ex_tup (ds := [.int (k - 1), .int (-s)]) (ea_cons (ex_sub (ex_v rfl) ex_cI) (ea_cons (ex_neg (ex_v rfl)) ea_nil)) (Nat.le_of_ble_eq_true rfl)) ea_nil) (Nat.le_of_ble_eq_true rfl)) (wa_v (e := eT stD) (w_dispT (wa_v (e := stD) ?_))))))))) (fun x => .s (.s (.s (.s (.s (.s .z)))))))
    refine w_pair (e := PyData.int) (f := PyData.int) (wv_of (ex_sub (ex_v rfl) ex_cI) ?_)
    refine w_stride (pb := pb) (pc := pc) rfl (fun b' => .s .z) fun t b5 h6 h7 => wa_nil ⟨[(k - 1, t)], rfl, by show 1 ≤ 100000; decide, ?_⟩
    refine wa_nil ⟨[[], [(k - 1, -s)], [(k - 1, t)]], rfl, by show 3 ≤ 100000; decide, ?_⟩
    refine wa_nil ⟨_, b5, _, rfl, fun b' => .s .z, List.cons_ne_nil _ _, by show 3 ≤ 100000; decide, fun last b6 hlast => ?_⟩
    have hsk : ∀ z : Int, z.natAbs ≤ 100 → z ≠ 0 → StW k 100 (k - 1, z) := fun z hz h0 => ⟨by show 0 ≤ k - 1; omega, by show k - 1 < k; omega, hz, h0⟩
    have hla : GW k 1 100 last := by
      simp only [List.mem_cons, List.not_mem_nil, or_false] at hlast
      rcases hlast with e | e | e
      · rw [e]; exact gw_nil
      · rw [e]; exact gw_one (hsk _ (by rw [Int.natAbs_neg]; exact h5) (fun h => h4 (by omega)))
      · rw [e]; exact gw_one (hsk _ h7 h6)
    clear hlast
    have hll := hla.1
    have gone : GW 4 8 (2 ^ 20) (v ++ [(k - 1, s)]) := ((hv7.app (gw_one (hsk s h5 h4))).mono (by decide) (by decide)).lift hk.2
    have goth : GW 4 8 (2 ^ 20) (v ++ last) := ((hv7.app hla).mono (by decide) (by decide)).lift hk.2
    refine x_sq (x_par (a := .d (wayD (v ++ [(k - 1, s)]))) (b := .d (wayD (v ++ last))) (ea_cons (ex_catW (b := [(k - 1, s)]) (exw rfl) (ex_tup (ds := [stD (k - 1, s)]) (ea_cons (ex_tup (ds := [.int (k - 1), .int s]) (ea_cons (ex_sub (ex_v rfl) ex_cI) (ea_cons (ex_v rfl) ea_nil)) (Nat.le_of_ble_eq_true rfl)) ea_nil) (Nat.le_of_ble_eq_true rfl)) (by show _ + 1 ≤ _; omega)) (ea_cons (ex_catW (exw rfl) (ex_v rfl) (by omega)) ea_nil)) ?_)
    refine nxt (x_retG q (w_if (wt_test (w_eq (w_drw (pb := pb) (pc := pc) rfl ex_cI (fun b' => .s .z) (by decide) fun y b3 h4 h5 => wv_of ex_cI ⟨fun _ => wv_of (x := (v ++ [(k - 1, s)], v ++ last)) (ex_pair (ex_v rfl) (ex_v rfl)) ⟨⟨gone, goth⟩, b3, by simp⟩, fun _ => wv_of (x := (v ++ last, v ++ [(k - 1, s)])) (ex_pair (ex_v rfl) (ex_v rfl)) ⟨⟨goth, gone⟩, b3, by simp⟩⟩)))))
abbrev S_law_pair (K : PySem.W.Frag) : Sp := spG K (fun k : Int => [.int k]) (fun k => 1 ≤ k ∧ k ≤ 4) pairD (fun k y => GW k 8 (2 ^ 20) y.1 ∧ GW k 8 (2 ^ 20) y.2)
theorem w_own {B : Bg} {ε : Eps} {L : Own} {E : XK} {pb pc : Addr} {i : Nat} {te tm : TE} {b : Bag} {k m : Int} {L2 : Bag → Own} {κ : Way → Own → Prop} (hb : ε[i]? = some (some (.v (.ref pb)))) (hk : EX B te ε L (.d (.int k)) L) (hm : EX B tm ε L (.d (.int m)) L) (hup : ∀ b', Up L (b.at pb pc) (b'.at pb pc) (L2 b')) (hkk : 1 ≤ k ∧ k ≤ 4) (hmm : 0 ≤ m ∧ m ≤ 100) (q : ∀ (x : Way) b', GW k m.toNat 100 x → κ x (L2 b')) : WV B wayD (tCall (S_law_own_way B.K) [] E (tCons (tVar i) (tCons te (tCons tm tNil)))) ε L κ :=
  w_callG (pb := pb) (pc := pc) (wa_x (ex_v hb) (wa_x hk (wa_x hm (wa_nil ⟨(k, m), b, L2, rfl, hup, ⟨hkk, hmm⟩, fun x b' hx => q x b' hx⟩))))
theorem okd_law_pair (Fn : Fun K "_law_pair" "_law_pair" s_law_pair f fd) (T : Bt P mg base) (D_law_deep_pair : Df P w K mg base 43 "_law_deep_pair" ["bag", "k"] (S_law_deep_pair K)) (D_law_draw : Df P w K mg base 41 "_law_draw" ["bag", "below"] (S_law_draw K)) (D_law_own_way : Df P w K mg base 44 "_law_own_way" ["bag", "k", "most"] (S_law_own_way K)) (D_law_otherwise : Df P w K mg base 44 "_law_otherwise" ["bag", "k", "way", "kind"] (S_law_otherwise K)) (D_law_longer : Df P w K mg base 44 "_law_longer" ["bag", "k", "way", "most"] (S_law_longer K)) : FnOk P w K mg base CX0 45 f fd ["bag", "k"] (S_law_pair K) := by
  refine fn_G Fn sc_law_pair (by decide) (fun _ => rfl) fun cdv A outer s H E hr => ⟨_, (pss_cons (ps_par (i := 2) (j := 3) (by rfl) sc_law_pair.nd rfl rfl (by decide) rfl rfl (pa_cons (pe_callD D_law_draw (hr.mono (by decide)) (by rfl) (pa_cons (pv 0) (pa_cons pe_int pa_nil))) (pa_cons (pe_callD D_law_own_way (hr.mono (by decide)) (by rfl) (pa_cons (pv 0) (pa_cons (pv 1) (pa_cons pe_int pa_nil)))) pa_nil)) (by rfl))
      (pss_cons (ps_if (pt_cmpR op_eq (pv 2) pe_int (nomark _)) (pss_one (ps_ret (pe_tup (pa_cons (pv 3) (pa_cons (pe_callD D_law_own_way (hr.mono (by decide)) (by rfl) (pa_cons (pv 0) (pa_cons (pv 1) (pa_cons pe_int pa_nil)))) pa_nil))))) pss_nil)
      (pss_cons (ps_if (pt_cmpR op_eq (pv 2) pe_int (nomark _)) (pss_one (ps_ret (pe_tup (pa_cons (pv 3) (pa_cons (pe_tup pa_nil) pa_nil))))) pss_nil)
      (pss_cons (ps_if (pt_cmpR op_eq (pv 2) pe_int (nomark _)) (pss_cons (ps_set (i := 4) sc_law_pair.nd rfl (.inl rfl) (pe_callD D_law_own_way (hr.mono (by decide)) (by rfl) (pa_cons (pv 0) (pa_cons (pv 1) (pa_cons pe_int pa_nil)))))
      (pss_one (ps_ret (pe_tup (pa_cons (pv 4) (pa_cons (pe_callD D_law_otherwise (hr.mono (by decide)) (by rfl) (pa_cons (pv 0) (pa_cons (pv 1) (pa_cons (pe_callD D_law_longer (hr.mono (by decide)) (by rfl) (pa_cons (pv 0) (pa_cons (pv 1) (pa_cons (pv 4) (pa_cons pe_int pa_nil))))) (pa_cons (pe_callD D_law_draw (hr.mono (by decide)) (by rfl) (pa_cons (pv 0) (pa_cons pe_int pa_nil))) pa_nil))))) pa_nil)))))) pss_nil)
      (pss_cons (ps_if (pt_cmpR op_eq (pv 2) pe_int (nomark _)) (pss_one (ps_ret (pe_tup (pa_cons (pv 3) (pa_cons (pe_callD D_law_otherwise (hr.mono (by decide)) (by rfl) (pa_cons (pv 0) (pa_cons (pv 1) (pa_cons (pv 3) (pa_cons (pe_callD D_law_draw (hr.mono (by decide)) (by rfl) (pa_cons (pv 0) (pa_cons pe_int pa_nil))) pa_nil))))) pa_nil))))) pss_nil)
      (pss_cons (ps_if (pt_cmpR op_lt (pv 2) pe_int (nomark _)) (pss_cons (ps_asg (pe_lc (own := [("most", 8)]) rfl sc_law_pair.nd (pi_list (pe_lst (pa_cons pe_int (pa_cons pe_int (pa_cons pe_int pa_nil))))) (blkOk_by (own := [("most", 8)]) (N := ["bag", "k", "kind", "one", "own", "first", "second", "ahead", "most"]) (sc := defScope s_law_pair) (by decide +kernel)) (fun _ _ _ _ _ => (pg_name (i := 8) sc_law_pair.nd rfl (Or.inl rfl))) (fun _ _ _ _ _ => pts_nil) (fun _ _ _ _ _ => (pe_callD D_law_own_way (hr.mono (by decide)) (by rfl) (pa_cons (pv 0) (pa_cons (pv 1) (pa_cons (pv 8) pa_nil)))))) (pg_lst rfl (pgs_cons (pg_name (i := 5) sc_law_pair.nd rfl (Or.inl rfl)) (pgs_cons (pg_name (i := 6) sc_law_pair.nd rfl (Or.inl rfl)) (pgs_cons (pg_name (i := 7) sc_law_pair.nd rfl (Or.inl rfl)) pgs_nil)))))
      (pss_one (ps_ret (pe_tup (pa_cons (pe_op (r := rCatA K) op_catA (pe_op (r := rCatA K) op_catA (pv 7) (pv 5)) (pv 6)) (pa_cons (pe_op (r := rCatA K) op_catA (pe_op (r := rCatA K) op_catA (pv 7) (pv 6)) (pv 5)) pa_nil)))))) pss_nil)
      (pss_one (ps_ret (pe_callD D_law_deep_pair (hr.mono (by decide)) (by rfl) (pa_cons (pv 0) (pa_cons (pv 1) pa_nil))))))))))), ?_⟩
  rintro B Q pb pc b k rfl hk q
  show Ho B _ [bagv pb, iv k, none, none, none, none, none, none, none] [b.at pb pc]
  have big : (100 : Nat) ≤ 2 ^ 20 := by decide
  refine x_seq (x_parW (wa_v (e := PyData.int) (w_drw (pb := pb) (pc := pc) rfl ex_cI (fun b' => .z) (by decide) fun kind b1 h0 h1 => wa_v (e := wayD) (w_own (pb := pb) (pc := pc) rfl (ex_v rfl) ex_cI (fun b' => .z) hk (by decide) fun one b2 hone => wa_nil ⟨_, _, rfl, ?_⟩))))
  have hone : GW k 8 100 one := hone
  have hol := hone.1
  refine x_sq (x_if (et_test (ex_eqI (ex_v rfl) ex_cI)) (fun hc => ?_) fun hc => x_next (nxt (x_seq (x_if (et_test (ex_eqI (ex_v rfl) ex_cI)) (fun hc => ?_) fun hc => x_next (nxt (x_seq (x_if (et_test (ex_eqI (ex_v rfl) ex_cI)) (fun hc => ?_) fun hc => x_next (nxt (x_seq (x_if (et_test (ex_eqI (ex_v rfl) ex_cI)) (fun hc => ?_) fun hc => x_next (nxt (x_seq (x_if (et_test (ex_lt (ex_v rfl) ex_cI)) (fun hc => ?_) fun hc => x_next (nxt ?_))))))))))))))
  · exact x_retG q (w_pair (wv_of (ex_v rfl) (w_own (pb := pb) (pc := pc) rfl (ex_v rfl) ex_cI (fun b' => .z) hk (by decide) fun two b3 htwo => ⟨⟨hone.mono (Nat.le_refl _) big, htwo.mono (Nat.le_refl 8) big⟩, b3, by simp⟩)))
  · exact x_retG q (w_pair (wv_of (ex_v rfl) (wv_of (x := []) (ex_tup (ds := []) ea_nil (Nat.zero_le _)) ⟨⟨hone.mono (Nat.le_refl _) big, gw_nil⟩, b2, by simp⟩)))
  · refine x_seq (x_setV (e := wayD) (w_own (pb := pb) (pc := pc) rfl (ex_v rfl) ex_cI (fun b' => .z) hk (by decide) fun own b3 hown => ?_) (fun x => .s (.s (.s (.s .z)))))
    have hown : GW k 5 100 own := hown
    have hwl := hown.1
    refine nxt (x_retG q (w_pair (e := wayD) (f := wayD) (wv_of (ex_v rfl) (w_callG (pb := pb) (pc := pc) (wa_x (ex_v rfl) (wa_x (ex_v rfl) (wa_v (e := wayD) (w_callG (pb := pb) (pc := pc) (wa_x (ex_v rfl) (wa_x (ex_v rfl) (wa_x (ex_v rfl) (wa_x ex_cI (wa_nil ⟨(k, own, 7), _, _, rfl, fun b' => .z, ⟨hk, by show (7 : Int) ≤ 100; decide, hown.mono (by decide) (Nat.le_refl _)⟩, fun long b4 hlong => wa_v (e := PyData.int) (w_drw (pb := pb) (pc := pc) rfl ex_cI (fun b' => .z) (by decide) fun kd b5 h2 h3 => wa_nil ⟨(k, long, kd), _, _, rfl, fun b' => .z, ⟨hk, hlong.1.mono (show max 7 own.length ≤ 100 by have := hown.1; omega) (Nat.le_refl _)⟩, fun odd b6 hodd => ⟨⟨hown.mono (by decide) big, hodd.mono ?_ big⟩, b6, by simp⟩⟩)⟩)))))))))))))
    have := hlong.1.1
    have e : (7 : Int).toNat = 7 := rfl
    dsimp only at this ⊢
    omega
  · refine x_retG q (w_pair (e := wayD) (f := wayD) (wv_of (ex_v rfl) (w_callG (pb := pb) (pc := pc) (wa_x (ex_v rfl) (wa_x (ex_v rfl) (wa_x (ex_v rfl) (wa_v (e := PyData.int) (w_drw (pb := pb) (pc := pc) rfl ex_cI (fun b' => .z) (by decide) fun kd b5 h2 h3 => wa_nil ⟨(k, one, kd), _, _, rfl, fun b' => .z, ⟨hk, hone.mono (by decide) (Nat.le_refl _)⟩, fun odd b6 hodd => ⟨⟨hone.mono (by decide) big, hodd.mono (by dsimp only; omega) big⟩, b6, by simp⟩⟩))))))))
  · refine x_seq (x_asgW (wx_v (e := eL wayD) (w_frz (wr_lcL (xs := [.int 3, .int 3, .int 2]) (wv_of (x := .list [.int 3, .int 3, .int 2]) (ex_frz (en_lst (ds := [.int 3, .int 3, .int 2]) (ea_cons ex_cI (ea_cons ex_cI (ea_cons ex_cI ea_nil))) (Nat.le_of_ble_eq_true rfl))) ⟨rfl, rfl⟩) (fun i acc L => ∃ (ws : List Way) (b : Bag), ws.length = i ∧ acc = ws.map wayD ∧ (∀ j v, ws[j]? = some v → GW k ([3, 3, 2].getD j 0) 100 v) ∧ L = [b.at pb pc]) ⟨[], b2, rfl, rfl, (fun j v h => by simp at h), rfl⟩ (gw_name (by simp)) ?_ ?_))))
    · rintro i d hd acc L' ⟨ws, b, hl, rfl, hw, rfl⟩
      obtain ⟨hi3, m, rfl, hm, hmi⟩ : i < 3 ∧ ∃ m : Int, d = .int m ∧ (0 ≤ m ∧ m ≤ 100) ∧ m.toNat = [3, 3, 2].getD i 0 := by
        match i, hd with
        | 0, h => cases h; exact ⟨by decide, 3, rfl, by decide, rfl⟩
        | 1, h => cases h; exact ⟨by decide, 3, rfl, by decide, rfl⟩
        | 2, h => cases h; exact ⟨by decide, 2, rfl, by decide, rfl⟩
      refine ⟨by rw [List.length_map]; omega, _, gt_name, fun z => wt_of et_yes ⟨fun _ => ?_, (fun h => nomatch h)⟩⟩
      refine wv_as (e := wayD) (w_own (pb := pb) (pc := pc) rfl (ex_v rfl) (ex_v rfl) (fun b' => .z) hk hm fun v b3 hv => ⟨wayD v, rfl, [b3.at pb pc], rfl, ws ++ [v], b3, by rw [List.length_append, hl]; rfl, by rw [List.map_append]; rfl, fun j u hj => ?_, rfl⟩)
      by_cases c : j < ws.length
      · rw [List.getElem?_append_left c] at hj
        exact hw j u hj
      · rw [List.getElem?_append_right (by omega)] at hj
        have e : j - ws.length = 0 := by
          match j - ws.length, hj with
          | 0, _ => rfl
        rw [e] at hj
        cases hj
        have ej : j = i := by omega
        rw [ej, ← hmi]; exact hv
    · rintro p acc L' hp ⟨ws, b, hl, rfl, hw, rfl⟩
      obtain ⟨x, y, z, rfl⟩ := get3 hl
      have gx : GW k 3 100 x := hw 0 x rfl
      have gy : GW k 3 100 y := hw 1 y rfl
      have gz : GW k 2 100 z := hw 2 z rfl
      have lx := gx.1
      have ly := gy.1
      have lz := gz.1
      refine ⟨_, _, [x, y, z], hp, rfl, rfl, _, gt_lst3 (d := wayD x) (e := wayD y) (f := wayD z), ?_⟩
      refine nxt (x_retG q (wv_of (x := (z ++ x ++ y, z ++ y ++ x)) (ex_pair (ex_catW (ex_catW (ex_v rfl) (ex_v rfl) (by omega)) (ex_v rfl) (by rw [List.length_append]; omega)) (ex_catW (ex_catW (ex_v rfl) (ex_v rfl) (by omega)) (ex_v rfl) (by rw [List.length_append]; omega))) ⟨⟨((gz.app gx).app gy).mono (by decide) big, ((gz.app gy).app gx).mono (by decide) big⟩, b, by simp⟩))
  · exact x_retG q (w_callG (pb := pb) (pc := pc) (wa_x (ex_v rfl) (wa_x (ex_v rfl) (wa_nil ⟨k, b2, _, rfl, fun b' => .z, hk, fun y b3 hy => ⟨hy, b3, by simp⟩⟩))))
end K88

/-! ## E6 -/
set_option Elab.async false
set_option linter.all false
set_option maxRecDepth 100000
set_option maxHeartbeats 4000000
set_option autoImplicit false
namespace K88
open PySem L2 Fz K80 Ways
variable {P : Program} {w : World} {K : PySem.W.Frag} {mg : Str → Option Value} {base : Heap} {f : Addr} {fd : FuncData}
def apartL (one other : Way) : List Int := lettersW (redW (one ++ backW other))
def apartT (one other : Way) (p : Nat) : Bool := !decide (rowF (apartL one other) one p = rowF (apartL one other) other p)
def dueW (one other : Way) : Option (List Int) := ((List.range ((apartL one other).length + 1)).find? (apartT one other)).map ((apartL one other).take ·)
abbrev G8 (y : Way × Way) : Prop := GW 4 8 (2 ^ 20) y.1 ∧ GW 4 8 (2 ^ 20) y.2
abbrev wordO : Option (List Int) → PyData := eO ti
abbrev S_due0 (K : PySem.W.Frag) : Sp := spD K (fun y : Way × Way => [wayD y.1, wayD y.2]) G8 wordO (fun y x => x = dueW y.1 y.2)
abbrev S_apart_ways_word (K : PySem.W.Frag) : Sp := S_due0 K
theorem GW.ws {lb : Int} {n c : Nat} {v : Way} (h : GW lb n c v) (hn : n ≤ 100) (hc : c ≤ 2 ^ 30) {word : List Int} (hw : word.length ≤ 40) : WsOk (v, word) := by
  refine ⟨hw, Nat.le_trans h.1 (by omega), ?_⟩
  have h1 := h.tot
  have h2 : n * c ≤ 100 * 2 ^ 30 := Nat.mul_le_mul hn hc
  have h3 : 100 * 2 ^ 30 < 2 ^ 50 := by decide
  show Ways.tot v < 2 ^ 50
  omega
theorem row0 (word : List Int) (v : Way) : rowF word v 0 = 1 := by
  have : ∀ (v : Way) (r : Nat → Int), rowFrom word r v 0 = r 0 := fun v => by
    induction v with
    | nil => exact fun _ => rfl
    | cons x v ih =>
      intro r
      show rowFrom word (opT word x.1 x.2 r) v 0 = r 0
      rw [ih]
      unfold opT
      show 0 + wt word x.1 x.2 0 0 * r (0 - 0) = r 0
      rw [wt_zero]; simp
  exact this v e0
theorem apartL_len {one other : Way} (h : G8 (one, other)) : (apartL one other).length ≤ 16 := by
  unfold apartL
  rw [letters_len]
  have h1 := (tot_red (one ++ backW other)).2
  have h2 := h.1.1
  have h3 := h.2.1
  rw [List.length_append, back_len] at h1
  dsimp only at h2 h3
  omega
section
variable {B : Bg} {ε : Eps} {L La Lb : Own} {te ta tb : TE} {E : XK}
theorem ex_reduced {v : Way} (h : EX B te ε L (.d (wayD v)) La) (hl : v.length ≤ 5000) : EX B (tCall (S_reduced_way B.K) [] E (tCons te tNil)) ε L (.d (wayD (redW v))) La :=
  ex_of fun κ k => w_callD (wa_x h (wa_nil ⟨v, rfl, hl, fun x hx => hx ▸ k⟩))
theorem ex_turned {v : Way} (h : EX B te ε L (.d (wayD v)) La) (hl : v.length ≤ 5000) : EX B (tCall (S_turned_way B.K) [] E (tCons te tNil)) ε L (.d (wayD (backW v))) La :=
  ex_of fun κ k => w_callD (wa_x h (wa_nil ⟨v, rfl, hl, fun x hx => hx ▸ k⟩))
theorem ex_row {v : Way} {word : List Int} (h : EX B ta ε L (.d (wayD v)) La) (h2 : EX B tb ε La (.d (ti word)) Lb) (hl : WsOk (v, word)) : EX B (tCall (S_law_row B.K) [] E (tCons ta (tCons tb tNil))) ε L (.d (li (rowL (rowF word v) (word.length + 1)))) Lb :=
  ex_of fun κ k => w_callD (wa_x h (wa_x h2 (wa_nil ⟨(v, word), rfl, hl, fun x hx => hx ▸ k⟩)))
theorem ex_wsum {v : Way} {word : List Int} (h : EX B ta ε L (.d (wayD v)) La) (h2 : EX B tb ε La (.d (ti word)) Lb) (hl : WsOk (v, word)) : EX B (tCall (S_way_sum B.K) [] E (tCons ta (tCons tb tNil))) ε L (.d (wsD (v, word))) Lb :=
  ex_of (e := eD) fun κ k => w_callD (wa_x h (wa_x h2 (wa_nil ⟨(v, word), rfl, hl, fun x hx => hx ▸ k⟩)))
theorem ex_same {u v : Way} (h : EX B ta ε L (.d (wayD u)) La) (h2 : EX B tb ε La (.d (wayD v)) Lb) (hl : u.length ≤ 5000 ∧ v.length ≤ 5000) : EX B (tCall (S_are_same_ways B.K) [] E (tCons ta (tCons tb tNil))) ε L (.d (.bool (decide (redW u = redW v)))) Lb :=
  ex_of fun κ k => w_callD (wa_x h (wa_x h2 (wa_nil ⟨(u, v), rfl, hl, fun x hx => hx ▸ k⟩)))
end
def fst1 : PyData → PyData
  | .tuple (x :: _) => x
  | d => d
theorem find_filter {p : Nat → Bool} {n : Nat} : ((List.range n).filter p).head? = (List.range n).find? p := (List.head?_filter).symm ▸ rfl
theorem ws_eqv {one other : Way} {W : List Int} {m : Nat} (hm : m ≤ W.length) : PyData.eqv (wsD (one, W.take m)) (wsD (other, W.take m)) = decide (rowF W one m = rowF W other m) := by
  have hl : (W.take m).length = m := by rw [List.length_take]; omega
  unfold wsD
  dsimp only
  rw [hl, eqv_fr (by have := fac_pos m; omega), row_take W one (Nat.le_refl m), row_take W other (Nat.le_refl m)]
theorem okd_apart_ways_word (Fn : Fun K "apart_ways_word" "apart_ways_word" s_apart_ways_word f fd) (T : Bt P mg base) (D_are_same_ways : Df P w K mg base 42 "are_same_ways" ["one", "other"] (S_are_same_ways K)) (D_way_sum : Df P w K mg base 44 "way_sum" ["way", "word"] (S_way_sum K)) (D_reduced_way : Df P w K mg base 41 "reduced_way" ["way"] (S_reduced_way K)) (D_turned_way : Df P w K mg base 41 "turned_way" ["way"] (S_turned_way K)) : FnOk P w K mg base CX0 45 f fd ["one", "other"] (S_apart_ways_word K) := by
  refine fn_D Fn sc_apart_ways_word (by decide) (fun _ => rfl) fun cdv A outer s H E hr => ⟨_, (pss_cons (ps_if (pt_val (pe_callD D_are_same_ways (hr.mono (by decide)) (by rfl) (pa_cons (pv 0) (pa_cons (pv 1) pa_nil)))) (pss_one (ps_ret pe_non)) pss_nil)
      (pss_cons (ps_set (i := 2) sc_apart_ways_word.nd rfl (.inl rfl) (pe_tupleOf (by rfl) T.n_tuple (pe_lc (g := gTup K 2 (gCons (gName 4) (gCons (gName 5) gNil))) (own := [("letter", 4), ("length", 5)]) rfl sc_apart_ways_word.nd (pi_tup (pe_callD D_reduced_way (hr.mono (by decide)) (by rfl) (pa_cons (pe_op (r := rCatA K) op_catA (pv 0) (pe_callD D_turned_way (hr.mono (by decide)) (by rfl) (pa_cons (pv 1) pa_nil))) pa_nil))) (blkOk_by (own := [("letter", 4), ("length", 5)]) (N := ["one", "other", "word", "many", "letter", "length"]) (sc := defScope s_apart_ways_word) (by decide +kernel)) (fun _ _ _ _ _ => (pg_tup rfl (pgs_cons (pg_name (i := 4) sc_apart_ways_word.nd rfl (Or.inl rfl)) (pgs_cons (pg_name (i := 5) sc_apart_ways_word.nd rfl (Or.inl rfl)) pgs_nil)))) (fun _ _ _ _ _ => pts_nil) (fun _ _ _ _ _ => (pv 4)))))
      (pss_cons (ps_for PassesOwn.never rfl (pi_range1 (by rfl) T.n_range (pa_cons (pe_callB (r := Evl.rLenS K) call_len_seq (by rfl) T.n_len (by decide +kernel) (pa_cons (pv 2) pa_nil)) pa_nil)) (pg_name (i := 3) sc_apart_ways_word.nd rfl (Or.inl rfl)) (pss_one (ps_if (pt_cmpR (r := rNeD K) (op_neD hr.units) (pe_callD D_way_sum (hr.mono (by decide)) (by rfl) (pa_cons (pv 0) (pa_cons (pe_slice (r := rSlA K) sl_tupA (pv 2) po_none (po_some (pv 3))) pa_nil))) (pe_callD D_way_sum (hr.mono (by decide)) (by rfl) (pa_cons (pv 1) (pa_cons (pe_slice (r := rSlA K) sl_tupA (pv 2) po_none (po_some (pv 3))) pa_nil))) (nomark _)) (pss_one (ps_ret (pe_slice (r := rSlA K) sl_tupA (pv 2) po_none (po_some (pv 3))))) pss_nil)))
      (pss_one (ps_ret (pv 2)))))), ?_⟩
  rintro B Q ⟨one, other⟩ rfl hg q
  have hlen := apartL_len hg
  obtain ⟨g1, g2⟩ := hg
  dsimp only at g1 g2 q
  show Ho B _ [wv one, wv other, none, none, none, none] []
  have l1 := g1.1
  have l2 := g2.1
  have hb := back_len other
  refine x_seq (x_if (et_test (ex_same (ex_v rfl) (ex_v rfl) ⟨by omega, by omega⟩)) (fun hc => ?_) fun hc => ?_)
  · have hs : redW one = redW other := of_decide_eq_true hc
    refine x_retD q (wv_of (x := none) ex_cN ?_)
    have hn := red_same_nil hs
    have h0 : (List.range 1).find? (apartT one other) = none := find_no fun j hj => by
      have e : j = 0 := by omega
      rw [e]
      unfold apartT
      rw [row0, row0]; simp
    have hl : (apartL one other).length = 0 := by unfold apartL; rw [hn]; rfl
    show none = dueW one other
    unfold dueW
    rw [hl, h0]; rfl
  · have hs : redW one ≠ redW other := of_decide_eq_false hc
    have hne : redW (one ++ backW other) ≠ [] := fun h => hs (red_nil_same h)
    obtain ⟨p0, hp0, hun⟩ := unlike_rows hne
    refine x_next (nxt (x_seq (x_set (a := .d (ti (apartL one other))) (ex_is (ex_tupL (ds := (wayL (redW (one ++ backW other))).map fst1) (ex_is (ex_frz (en_lcTP (xs := wayL (redW (one ++ backW other))) (fun _ => true) fst1 (fun d => match d with | .tuple [x, y] => [wv one, wv other, none, none, some (.d x), some (.d y)] | _ => []) (ex_reduced (ex_catW (ex_v rfl) (ex_turned (ex_v rfl) (by omega)) (by omega)) (by rw [List.length_append]; omega)) (by rw [wayL_len]; have := (tot_red (one ++ backW other)).2; rw [List.length_append] at this; omega) (gw_tup2 (by simp) (by simp)) (fun d hd => ?_) (fun d hd m => et_yes) (fun d hd _ m => ?_))) (by rw [filter_yes])) .d) ?_) ?_)))
    · obtain ⟨x, _, rfl⟩ := List.mem_map.mp hd
      exact gt_tup2 (d := .int x.1) (e := .int x.2)
    · obtain ⟨x, _, rfl⟩ := List.mem_map.mp hd
      exact ex_v rfl
    · unfold ti apartL lettersW wayL
      rw [List.map_map, List.map_map]; rfl
    · rw [← letters_len] at hp0
      have hT : ∀ p, apartT one other p = !decide (rowF (apartL one other) one p = rowF (apartL one other) other p) := fun _ => rfl
      have hdue : dueW one other = ((List.range ((apartL one other).length + 1)).find? (apartT one other)).map ((apartL one other).take ·) := rfl
      have hp0 : p0 ≤ (apartL one other).length := hp0
      have hun : rowF (apartL one other) one p0 ≠ rowF (apartL one other) other p0 := hun
      rw [hdue] at q
      generalize apartT one other = t at *
      generalize apartL one other = W at *
      refine x_sq (x_forR1 (n := (W.length : Int)) (ea_cons (ex_len (e := PyData.int) (xs := W) (ex_v rfl)) ea_nil) (by omega) (fun i ε L => (∀ j, j < i → t j = false) ∧ ε = [wv one, wv other, dv (ti W), none, none, none] ∧ L = []) ⟨(fun j h => by omega), rfl, rfl⟩ ?_ ?_)
      · rintro i ε' L' hi ⟨hj, rfl, rfl⟩
        have hli : (W.take i).length ≤ 40 := by rw [List.length_take]; omega
        have exs : ∀ {ε : Eps} {k : Nat} {v : Way}, ε[k]? = some (wv v) → ε[2]? = some (dv (ti W)) → ε[3]? = some (iv i) → GW 4 8 (2 ^ 20) v → EX B (tCall (S_way_sum B.K) [] E0 (tCons (tVar k) (tCons (tSl (rSlA B.K) (tVar 2) tNoPart (tPart (tVar 3))) tNil))) ε [] (.d (wsD (v, W.take i))) [] := fun h1 h2 h3 hv => ex_wsum (ex_v h1) (ex_is (ex_take (e := PyData.int) (xs := W) (ex_v h2) (ex_v h3) (by omega)) (by rw [Int.toNat_natCast]; rfl)) (hv.ws (by decide) (by decide) hli)
        refine x_if (et_test (ex_boolE (ex_neD (exs rfl rfl rfl g1) (exs rfl rfl rfl g2) rfl rfl) (by rw [ws_eqv (by omega)]))) (fun hc => ?_) fun hc => x_next (nxt (x_end ⟨?_, rfl, rfl⟩))
        · refine x_retD q (wv_of (x := some (W.take i)) (ex_is (ex_take (e := PyData.int) (xs := W) (ex_v rfl) (ex_v rfl) (by omega)) (by rw [Int.toNat_natCast]; rfl)) ?_)
          rw [find_at (i := i) (by omega) (by rw [hT]; exact hc) hj]; rfl
        · intro j hlt
          by_cases c : j < i
          · exact hj j c
          · have e : j = i := by omega
            rw [e, hT]; exact hc
      · rintro ε' L' ⟨hj, rfl, rfl⟩
        rw [Int.toNat_natCast] at hj
        refine nxt (x_retD q (wv_of (x := some W) (ex_v rfl) ?_))
        have e : p0 = W.length := by
          by_cases c : p0 < W.length
          · have := hj p0 c
            rw [hT, decide_eq_false hun] at this
            exact nomatch this
          · omega
        rw [find_at (i := W.length) (by omega) (by rw [hT, ← e, decide_eq_false hun]; rfl) hj]
        show some W = some (W.take W.length)
        rw [List.take_length]
end K88

/-! ## E10 -/
set_option Elab.async false
set_option linter.all false
set_option maxRecDepth 100000
set_option maxHeartbeats 4000000
set_option autoImplicit false
namespace K88
open PySem L2 Fz K80 Ways
variable {P : Program} {w : World} {K : PySem.W.Frag} {mg : Str → Option Value} {base : Heap} {f : Addr} {fd : FuncData}
theorem okd_way_sum (Fn : Fun K "way_sum" "way_sum" s_way_sum f fd) (T : Bt P mg base) (C_stride_shares : Df P w K mg base 43 "stride_shares" ["length", "many"] (spR K R_shares)) (C_fraction_plus : Df P w K mg base 43 "fraction_plus" ["one", "other"] (spR K R_plus))
    (C_fraction_times : Df P w K mg base 43 "fraction_times" ["one", "other"] (spR K R_tim)) : FnOk P w K mg base CX0 44 f fd ["way", "word"] (S_way_sum K) := ws_wk (x := "") (ok_way_sum Fn T C_stride_shares C_fraction_plus C_fraction_times)
theorem okd_law_sum (Fn : Fun K "_law_sum" "_law_sum" s_law_sum f fd) (T : Bt P mg base) (C_law_least : Df P w K mg base 41 "_law_least" ["upper", "lower"] (spR K R_frac)) (C_law_factorial : Df P w K mg base 41 "_law_factorial" ["many"] (spR K R_fact)) (C_law_row : Df P w K mg base 41 "_law_row" ["way", "word"] (spR K R_row)) : FnOk P w K mg base CX0 42 f fd ["way", "word"] (S_law_sum K) := ws_wk (x := "") (ok_law_sum Fn T C_law_least C_law_factorial C_law_row)
end K88

/-! ## G1 -/
set_option Elab.async false
set_option linter.all false
set_option maxRecDepth 100000
set_option maxHeartbeats 4000000
set_option autoImplicit false
namespace K88
open PySem L2 Fz K80 Ways
variable {P : Program} {w : World} {K : PySem.W.Frag} {mg : Str → Option Value} {base : Heap} {f : Addr} {fd : FuncData}
/-! ### orders of putting together -/
def pl (v : Way) : List Int := (placesW v).map fun (i : Nat) => (i : Int)
abbrev S_law_places (K : PySem.W.Frag) : Sp := spD K (fun v : Way => [wayD v]) (fun v => v.length ≤ 5000) li (fun v x => x = pl v)
theorem get_at {v : Way} {i : Nat} (h : i < v.length) : v[i]? = some (v.getD i (0, 0)) := by
  rw [List.getD_eq_getElem?_getD, List.getElem?_eq_getElem h]; rfl
theorem okd_law_places (Fn : Fun K "_law_places" "_law_places" s_law_places f fd) (T : Bt P mg base)  : FnOk P w K mg base CX0 41 f fd ["way"] (S_law_places K) := by
  refine fn_D Fn sc_law_places (by decide) (fun _ => rfl) fun cdv A outer s H E hr => ⟨_, (pss_one (ps_ret (pe_lc (own := [("i", 1)]) rfl sc_law_places.nd (pi_range1 (by rfl) T.n_range (pa_cons (pe_op op_sub (pe_callB (r := Evl.rLenS K) call_len_seq (by rfl) T.n_len (by decide +kernel) (pa_cons (pv 0) pa_nil)) pe_int) pa_nil)) (blkOk_by (own := [("i", 1)]) (N := ["way", "i"]) (sc := defScope s_law_places) (by decide +kernel)) (fun _ _ _ _ _ => (pg_name (i := 1) sc_law_places.nd rfl (Or.inl rfl))) (fun _ _ _ _ _ => (pts_one (pt_cmpR op_eq (pe_ix (r := rIxT K) ix_tup (pe_ix (r := rIxT K) ix_tup (pv 0) (pv 1) (fun _ _ => rfl)) pe_int (fun _ _ => rfl)) (pe_ix (r := rIxT K) ix_tup (pe_ix (r := rIxT K) ix_tup (pv 0) (pe_op op_add (pv 1) pe_int) (fun _ _ => rfl)) pe_int (fun _ _ => rfl)) (nomark _)))) (fun _ _ _ _ _ => (pv 1))))), ?_⟩
  rintro B Q v rfl hv q
  show Ho B _ [wv v, none] []
  refine x_retD q (wv_of (x := pl v) (ex_is (ex_frz (en_lcR1P (n := (v.length : Int) - 1) (nb v) (fun i => .int (i : Int)) (ea_cons (ex_sub (ex_lenW (ex_v rfl) rfl) ex_cI) ea_nil) (by omega) (by simp) (fun i m hi => ?_) (fun i m hi _ => ex_v rfl))) ?_) rfl)
  · have h1 := get_at (v := v) (i := i) (by omega)
    have h2 := get_at (v := v) (i := i + 1) (by omega)
    exact et_test (ex_eqI (ex_ixT (ds := [.int (v.getD i (0, 0)).1, .int (v.getD i (0, 0)).2]) (ex_at (e := stD) (xs := v) (ex_v rfl) (ex_v rfl) rfl h1) ex_cI rfl) (ex_ixT (ds := [.int (v.getD (i + 1) (0, 0)).1, .int (v.getD (i + 1) (0, 0)).2]) (ex_at (e := stD) (xs := v) (n := i + 1) (ex_v rfl) (ex_add (ex_v rfl) ex_cI) rfl h2) ex_cI rfl))
  · have e : ((v.length : Int) - 1).toNat = v.length - 1 := by omega
    rw [e]
    unfold li pl placesW
    rw [List.map_map]; rfl
abbrev S_law_put (K : PySem.W.Frag) : Sp := spD K (fun y : Way × Nat => [wayD y.1, .int (y.2 : Int)]) (fun y => y.1.length ≤ 5000 ∧ y.2 + 1 < y.1.length) wayD (fun y x => x = putW y.1 y.2)
theorem okd_law_put (Fn : Fun K "_law_put" "_law_put" s_law_put f fd) (T : Bt P mg base)  : FnOk P w K mg base CX0 41 f fd ["way", "at"] (S_law_put K) := by
  refine fn_D Fn sc_law_put (by decide) (fun _ => rfl) fun cdv A outer s H E hr => ⟨_, (pss_cons (ps_set (i := 2) sc_law_put.nd rfl (.inl rfl) (pe_op op_add (pe_ix (r := rIxT K) ix_tup (pe_ix (r := rIxT K) ix_tup (pv 0) (pv 1) (fun _ _ => rfl)) pe_int (fun _ _ => rfl)) (pe_ix (r := rIxT K) ix_tup (pe_ix (r := rIxT K) ix_tup (pv 0) (pe_op op_add (pv 1) pe_int) (fun _ _ => rfl)) pe_int (fun _ _ => rfl))))
      (pss_one (ps_ret (pe_op (r := rCatA K) op_catA (pe_op (r := rCatA K) op_catA (pe_slice (r := rSlA K) sl_tupA (pv 0) po_none (po_some (pv 1))) (pe_ifExp (pt_cmpR op_ne (pv 2) pe_int (nomark _)) (pe_tup (pa_cons (pe_tup (pa_cons (pe_ix (r := rIxT K) ix_tup (pe_ix (r := rIxT K) ix_tup (pv 0) (pv 1) (fun _ _ => rfl)) pe_int (fun _ _ => rfl)) (pa_cons (pv 2) pa_nil))) pa_nil)) (pe_tup pa_nil))) (pe_slice (r := rSlA K) sl_tupA (pv 0) (po_some (pe_op op_add (pv 1) pe_int)) po_none))))), ?_⟩
  rintro B Q ⟨v, i⟩ rfl ⟨hv, hi⟩ q
  dsimp only at hv hi q
  show Ho B _ [wv v, iv (i : Int), none] []
  have h1 := get_at (v := v) (i := i) (by omega)
  have h2 := get_at (v := v) (i := i + 1) (by omega)
  have one : ∀ {ε : Eps}, ε[0]? = some (wv v) → ε[1]? = some (iv (i : Int)) → EX B (tOp (rIxT B.K) (tVar 0) (tVar 1)) ε [] (.d (stD (v.getD i (0, 0)))) [] := fun hv hi => ex_at (e := stD) (xs := v) (ex_v hv) (ex_v hi) rfl h1
  refine x_seq (x_set (a := .d (.int (bothW v i))) (ex_add (ex_ixT (ds := [.int (v.getD i (0, 0)).1, .int (v.getD i (0, 0)).2]) (one rfl rfl) ex_cI rfl) (ex_ixT (ds := [.int (v.getD (i + 1) (0, 0)).1, .int (v.getD (i + 1) (0, 0)).2]) (ex_at (e := stD) (xs := v) (n := i + 1) (ex_v rfl) (ex_add (ex_v rfl) ex_cI) rfl h2) ex_cI rfl)) ?_)
  refine nxt (x_retD q (wv_of (x := putW v i) (ex_cat (e := stD) (ex_cat (e := stD) (Lb := []) (ys := if bothW v i = 0 then [] else [((v.getD i (0, 0)).1, bothW v i)]) (ex_take (e := stD) (xs := v) (i := (i : Int)) (ex_v rfl) (ex_v rfl) (Int.natCast_nonneg i)) ?_ ?_) (ex_is (ex_from (e := stD) (xs := v) (ex_v rfl) (ex_add (ex_v rfl) ex_cI) (by omega)) ?_) ?_) rfl))
  · refine ex_if (b := !decide (bothW v i = 0)) (et_test (ex_neI (ex_v rfl) ex_cI)) (fun hb => ?_) (fun hb => ?_)
    · have c : ¬ bothW v i = 0 := by simpa using hb
      rw [if_neg c]
      exact ex_tup (ds := [stD ((v.getD i (0, 0)).1, bothW v i)]) (ea_cons (ex_tup (ds := [.int (v.getD i (0, 0)).1, .int (bothW v i)]) (ea_cons (ex_ixT (ds := [.int (v.getD i (0, 0)).1, .int (v.getD i (0, 0)).2]) (one rfl rfl) ex_cI rfl) (ea_cons (ex_v rfl) ea_nil)) (Nat.le_of_ble_eq_true rfl)) ea_nil) (Nat.le_of_ble_eq_true rfl)
    · have c : bothW v i = 0 := by simpa using hb
      rw [if_pos c]
      exact ex_tup (ds := []) ea_nil (Nat.zero_le _)
  · rw [List.length_take]
    have : (if bothW v i = 0 then ([] : Way) else [((v.getD i (0, 0)).1, bothW v i)]).length ≤ 1 := by split <;> simp
    omega
  · have e : ((i : Int) + 2).toNat = i + 2 := by omega
    rw [e]
  · rw [List.length_append, List.length_take, List.length_drop]
    have : (if bothW v i = 0 then ([] : Way) else [((v.getD i (0, 0)).1, bothW v i)]).length ≤ 1 := by split <;> simp
    omega
end K88

/-! ## G2 -/
set_option Elab.async false
set_option linter.all false
set_option maxRecDepth 100000
set_option maxHeartbeats 4000000
set_option autoImplicit false
namespace K88
open PySem L2 Fz K80 Ways
variable {P : Program} {w : World} {K : PySem.W.Frag} {mg : Str → Option Value} {base : Heap} {f : Addr} {fd : FuncData}
abbrev S_like_places (K : PySem.W.Frag) : Sp := S_law_places K
theorem okd_like_places (Fn : Fun K "like_places" "like_places" s_like_places f fd) (T : Bt P mg base)  : FnOk P w K mg base CX0 41 f fd ["way"] (S_like_places K) := by
  refine fn_D Fn sc_like_places (by decide) (fun _ => rfl) fun cdv A outer s H E hr => ⟨_, (pss_one (ps_ret (pe_lc (own := [("place", 1)]) rfl sc_like_places.nd (pi_range1 (by rfl) T.n_range (pa_cons (pe_op op_sub (pe_callB (r := Evl.rLenS K) call_len_seq (by rfl) T.n_len (by decide +kernel) (pa_cons (pv 0) pa_nil)) pe_int) pa_nil)) (blkOk_by (own := [("place", 1)]) (N := ["way", "place"]) (sc := defScope s_like_places) (by decide +kernel)) (fun _ _ _ _ _ => (pg_name (i := 1) sc_like_places.nd rfl (Or.inl rfl))) (fun _ _ _ _ _ => (pts_one (pt_cmpR op_eq (pe_ix (r := rIxT K) ix_tup (pe_ix (r := rIxT K) ix_tup (pv 0) (pv 1) (fun _ _ => rfl)) pe_int (fun _ _ => rfl)) (pe_ix (r := rIxT K) ix_tup (pe_ix (r := rIxT K) ix_tup (pv 0) (pe_op op_add (pv 1) pe_int) (fun _ _ => rfl)) pe_int (fun _ _ => rfl)) (nomark _)))) (fun _ _ _ _ _ => (pv 1))))), ?_⟩
  rintro B Q v rfl hv q
  show Ho B _ [wv v, none] []
  refine x_retD q (wv_of (x := pl v) (ex_is (ex_frz (en_lcR1P (n := (v.length : Int) - 1) (nb v) (fun i => .int (i : Int)) (ea_cons (ex_sub (ex_lenW (ex_v rfl) rfl) ex_cI) ea_nil) (by omega) (by simp) (fun i m hi => ?_) (fun i m hi _ => ex_v rfl))) ?_) rfl)
  · have h1 := get_at (v := v) (i := i) (by omega)
    have h2 := get_at (v := v) (i := i + 1) (by omega)
    exact et_test (ex_eqI (ex_ixT (ds := [.int (v.getD i (0, 0)).1, .int (v.getD i (0, 0)).2]) (ex_at (e := stD) (xs := v) (ex_v rfl) (ex_v rfl) rfl h1) ex_cI rfl) (ex_ixT (ds := [.int (v.getD (i + 1) (0, 0)).1, .int (v.getD (i + 1) (0, 0)).2]) (ex_at (e := stD) (xs := v) (n := i + 1) (ex_v rfl) (ex_add (ex_v rfl) ex_cI) rfl h2) ex_cI rfl))
  · have e : ((v.length : Int) - 1).toNat = v.length - 1 := by omega
    rw [e]
    unfold li pl placesW
    rw [List.map_map]; rfl
abbrev S_put_together (K : PySem.W.Frag) : Sp := S_law_put K
theorem okd_put_together (Fn : Fun K "put_together" "put_together" s_put_together f fd) (T : Bt P mg base)  : FnOk P w K mg base CX0 41 f fd ["way", "place"] (S_put_together K) := by
  refine fn_D Fn sc_put_together (by decide) (fun _ => rfl) fun cdv A outer s H E hr => ⟨_, (pss_cons (ps_par (i := 2) (j := 3) (by rfl) sc_put_together.nd rfl rfl (by decide) rfl rfl (pa_cons (pe_ix (r := rIxT K) ix_tup (pe_ix (r := rIxT K) ix_tup (pv 0) (pv 1) (fun _ _ => rfl)) pe_int (fun _ _ => rfl)) (pa_cons (pe_op op_add (pe_ix (r := rIxT K) ix_tup (pe_ix (r := rIxT K) ix_tup (pv 0) (pv 1) (fun _ _ => rfl)) pe_int (fun _ _ => rfl)) (pe_ix (r := rIxT K) ix_tup (pe_ix (r := rIxT K) ix_tup (pv 0) (pe_op op_add (pv 1) pe_int) (fun _ _ => rfl)) pe_int (fun _ _ => rfl))) pa_nil)) (by rfl))
      (pss_cons (ps_set (i := 4) sc_put_together.nd rfl (.inl rfl) (pe_ifExp (pt_cmpR op_ne (pv 3) pe_int (nomark _)) (pe_tup (pa_cons (pe_tup (pa_cons (pv 2) (pa_cons (pv 3) pa_nil))) pa_nil)) (pe_tup pa_nil)))
      (pss_one (ps_ret (pe_op (r := rCatA K) op_catA (pe_op (r := rCatA K) op_catA (pe_slice (r := rSlA K) sl_tupA (pv 0) po_none (po_some (pv 1))) (pv 4)) (pe_slice (r := rSlA K) sl_tupA (pv 0) (po_some (pe_op op_add (pv 1) pe_int)) po_none)))))), ?_⟩
  rintro B Q ⟨v, i⟩ rfl ⟨hv, hi⟩ q
  dsimp only at hv hi q
  show Ho B _ [wv v, iv (i : Int), none, none, none] []
  have h1 := get_at (v := v) (i := i) (by omega)
  have h2 := get_at (v := v) (i := i + 1) (by omega)
  have one : ∀ {ε : Eps}, ε[0]? = some (wv v) → ε[1]? = some (iv (i : Int)) → EX B (tOp (rIxT B.K) (tVar 0) (tVar 1)) ε [] (.d (stD (v.getD i (0, 0)))) [] := fun hv hi => ex_at (e := stD) (xs := v) (ex_v hv) (ex_v hi) rfl h1
  have hm : (if bothW v i = 0 then ([] : Way) else [((v.getD i (0, 0)).1, bothW v i)]).length ≤ 1 := by split <;> simp
  refine x_seq (x_par (a := .d (.int (v.getD i (0, 0)).1)) (b := .d (.int (bothW v i))) (ea_cons (ex_ixT (ds := [.int (v.getD i (0, 0)).1, .int (v.getD i (0, 0)).2]) (one rfl rfl) ex_cI rfl) (ea_cons (ex_add (ex_ixT (ds := [.int (v.getD i (0, 0)).1, .int (v.getD i (0, 0)).2]) (one rfl rfl) ex_cI rfl) (ex_ixT (ds := [.int (v.getD (i + 1) (0, 0)).1, .int (v.getD (i + 1) (0, 0)).2]) (ex_at (e := stD) (xs := v) (n := i + 1) (ex_v rfl) (ex_add (ex_v rfl) ex_cI) rfl h2) ex_cI rfl)) ea_nil)) ?_)
  refine x_sq (x_set (L1 := []) (a := .d (wayD (if bothW v i = 0 then [] else [((v.getD i (0, 0)).1, bothW v i)]))) (ex_if (b := !decide (bothW v i = 0)) (et_test (ex_neI (ex_v rfl) ex_cI)) (fun hb => ?_) (fun hb => ?_)) ?_)
  · have c : ¬ bothW v i = 0 := by simpa using hb
    rw [if_neg c]
    exact ex_tup (ds := [stD ((v.getD i (0, 0)).1, bothW v i)]) (ea_cons (ex_tup (ds := [.int (v.getD i (0, 0)).1, .int (bothW v i)]) (ea_cons (ex_v rfl) (ea_cons (ex_v rfl) ea_nil)) (Nat.le_of_ble_eq_true rfl)) ea_nil) (Nat.le_of_ble_eq_true rfl)
  · have c : bothW v i = 0 := by simpa using hb
    rw [if_pos c]
    exact ex_tup (ds := []) ea_nil (Nat.zero_le _)
  · refine nxt (x_retD q (wv_of (x := putW v i) (ex_cat (e := stD) (ex_cat (e := stD) (Lb := []) (ys := if bothW v i = 0 then [] else [((v.getD i (0, 0)).1, bothW v i)]) (ex_take (e := stD) (xs := v) (i := (i : Int)) (ex_v rfl) (ex_v rfl) (Int.natCast_nonneg i)) (ex_v rfl) ?_) (ex_is (ex_from (e := stD) (xs := v) (ex_v rfl) (ex_add (ex_v rfl) ex_cI) (by omega)) ?_) ?_) rfl))
    · rw [List.length_take]; omega
    · have e : ((i : Int) + 2).toNat = i + 2 := by omega
      rw [e]
    · rw [List.length_append, List.length_take, List.length_drop]; omega
section
variable {B : Bg} {ε : Eps} {L La Lb : Own} {te ta tb : TE} {E : XK} {v : Way}
theorem ex_like (h : EX B te ε L (.d (wayD v)) La) (hl : v.length ≤ 5000) : EX B (tCall (S_law_places B.K) [] E (tCons te tNil)) ε L (.d (li (pl v))) La :=
  ex_of (e := li) fun κ k => w_callD (wa_x h (wa_nil ⟨v, rfl, hl, fun x hx => hx ▸ k⟩))
theorem ex_put {i : Nat} (h : EX B ta ε L (.d (wayD v)) La) (h2 : EX B tb ε La (.d (.int (i : Int))) Lb) (hl : v.length ≤ 5000 ∧ i + 1 < v.length) : EX B (tCall (S_law_put B.K) [] E (tCons ta (tCons tb tNil))) ε L (.d (wayD (putW v i))) Lb :=
  ex_of (e := wayD) fun κ k => w_callD (wa_x h (wa_x h2 (wa_nil ⟨(v, i), rfl, hl, fun x hx => hx ▸ k⟩)))
end
theorem first_cons {k : Nat} {w : Way} {i : Nat} {t : List Nat} (hp : placesW w = i :: t) : firstRow (k + 1) w = (i : Int) :: firstRow k (putW w i) := by
  show (match placesW w with | [] => firstRow k w | i :: _ => (i : Int) :: firstRow k (putW w i)) = _
  rw [hp]
theorem first_none {k : Nat} {w : Way} (hp : placesW w = []) : firstRow (k + 1) w = firstRow k w := by
  show (match placesW w with | [] => firstRow k w | i :: _ => (i : Int) :: firstRow k (putW w i)) = _
  rw [hp]
abbrev S_places_together (K : PySem.W.Frag) : Sp := spD K (fun v : Way => [wayD v]) (fun v => v.length ≤ 5000) ti (fun v x => x = firstRow v.length v)
theorem okd_places_together (Fn : Fun K "places_together" "places_together" s_places_together f fd) (T : Bt P mg base) (D_like_places : Df P w K mg base 41 "like_places" ["way"] (S_like_places K)) (D_put_together : Df P w K mg base 41 "put_together" ["way", "place"] (S_put_together K)) : FnOk P w K mg base CX0 42 f fd ["way"] (S_places_together K) := by
  refine fn_D Fn sc_places_together (by decide) (fun _ => rfl) fun cdv A outer s H E hr => ⟨_, (pss_cons (ps_set (i := 1) sc_places_together.nd rfl (.inl rfl) (pe_lst pa_nil))
      (pss_cons (ps_for PassesOwn.never rfl (pi_range1 (by rfl) T.n_range (pa_cons (pe_callB (r := Evl.rLenS K) call_len_seq (by rfl) T.n_len (by decide +kernel) (pa_cons (pv 0) pa_nil)) pa_nil)) (pg_name (i := 2) sc_places_together.nd rfl (Or.inl rfl)) (pss_cons (ps_set (i := 3) sc_places_together.nd rfl (.inl rfl) (pe_callD D_like_places (hr.mono (by decide)) (by rfl) (pa_cons (pv 0) pa_nil)))
      (pss_one (ps_if (pt_cmpR (r := rNeD K) (op_neD hr.units) (pv 3) (pe_lst pa_nil) (nomark _)) (pss_cons (ps_expr (pe_bm PySem.F.plainAttrs_list PySem.F.slot_list_append PySem.F.type_list_append mt_append (pv 1) (pa_cons (pe_ix (r := rIxL K) ix_list (pv 3) pe_int (fun _ _ => rfl)) pa_nil)))
      (pss_one (ps_set (i := 0) sc_places_together.nd rfl (.inl rfl) (pe_callD D_put_together (hr.mono (by decide)) (by rfl) (pa_cons (pv 0) (pa_cons (pe_ix (r := rIxL K) ix_list (pv 3) pe_int (fun _ _ => rfl)) pa_nil)))))) pss_nil))))
      (pss_one (ps_ret (pe_tupleOf (by rfl) T.n_tuple (pv 1)))))), ?_⟩
  rintro B Q v rfl hv q
  show Ho B _ [wv v, none, none, none] []
  refine x_seq (x_setN (en_lst (ds := []) ea_nil (Nat.zero_le _)) fun p hp => ?_)
  refine x_sq (x_forR1 (n := (v.length : Int)) (ea_cons (ex_lenW (ex_v rfl) rfl) ea_nil) (by omega) (fun i ε L => ∃ (u : Way) (acc : List Int), u.length ≤ 5000 ∧ acc ++ firstRow (v.length - i) u = firstRow v.length v ∧ acc.length ≤ i ∧ ε = [wv u, some (.v (.ref p)), none, none] ∧ L = [.lst p (acc.map PyData.int)]) ⟨v, [], hv, rfl, Nat.zero_le _, rfl, rfl⟩ ?_ ?_)
  · rintro i ε' L' hi ⟨u, acc, hu, ha, hac, rfl, rfl⟩
    obtain ⟨k, hk⟩ : ∃ k, v.length - i = k + 1 := ⟨v.length - i - 1, by omega⟩
    have hk2 : v.length - (i + 1) = k := by omega
    rw [hk] at ha
    refine x_seq (x_set (a := .d (li (pl u))) (ex_like (ex_v rfl) hu) ?_)
    refine nxt (x_if (et_test (ex_neNil (ds := (pl u).map PyData.int) (ex_v rfl) .d (shaped_ints _))) (fun hb => ?_) fun hb => x_next (nxt (x_end ⟨u, acc, hu, ?_, by omega, rfl, rfl⟩)))
    · cases hp : placesW u with
      | nil =>
        exfalso
        unfold pl at hb
        rw [hp] at hb
        exact nomatch hb
      | cons j t =>
        have hj : j ∈ placesW u := by rw [hp]; exact List.mem_cons_self
        obtain ⟨h1, h2⟩ := mem_places hj
        have hx : EX B (tOp (rIxL B.K) (tVar 3) (tC (.int 0))) [wv u, some (.v (.ref p)), iv (i : Int), some (.d (li (pl u)))] [.lst p (acc.map PyData.int)] (.d (.int (j : Int))) [.lst p (acc.map PyData.int)] := ex_ixL (ds := (pl u).map PyData.int) (ex_v rfl) ex_cI .d (by unfold pl; rw [hp]; exact atI_nat (j := 0) rfl)
        refine x_seq (x_appW (e := PyData.int) (ex_v rfl) ⟨_, _, .z⟩ (wv_of (x := (j : Int)) hx ⟨acc.map PyData.int, _, .z, by rw [List.length_map]; omega, ?_⟩))
        have hx2 : EX B (tOp (rIxL B.K) (tVar 3) (tC (.int 0))) [wv u, some (.v (.ref p)), iv (i : Int), some (.d (li (pl u)))] [.lst p (acc.map PyData.int ++ [.int (j : Int)])] (.d (.int (j : Int))) [.lst p (acc.map PyData.int ++ [.int (j : Int)])] := ex_ixL (ds := (pl u).map PyData.int) (ex_v rfl) ex_cI .d (by unfold pl; rw [hp]; exact atI_nat (j := 0) rfl)
        have := put_len h1
        refine nxt (x_set (a := .d (wayD (putW u j))) (ex_put (ex_v rfl) hx2 ⟨hu, h1⟩) (nxt (x_end ⟨putW u j, acc ++ [(j : Int)], by omega, ?_, ?_, rfl, ?_⟩)))
        · rw [hk2, List.append_assoc, ← ha, first_cons hp]; rfl
        · rw [List.length_append]; show acc.length + 1 ≤ i + 1; omega
        · rw [List.map_append]; rfl
    · have hp : placesW u = [] := by
        cases hp : placesW u with
        | nil => rfl
        | cons j t =>
          exfalso
          unfold pl at hb
          rw [hp] at hb
          exact nomatch hb
      rw [hk2, ← ha, first_none hp]
  · rintro ε' L' ⟨u, acc, hu, ha, hac, rfl, rfl⟩
    rw [Int.toNat_natCast, Nat.sub_self] at ha
    have ha : acc = firstRow v.length v := by rw [← ha]; exact (List.append_nil acc).symm
    subst ha
    exact nxt (x_retD q (wv_of (x := firstRow v.length v) (ex_tupL (ds := (firstRow v.length v).map PyData.int) (ex_v rfl) (.o (k := 0) rfl)) rfl))
end K88

/-! ## G3 -/
set_option Elab.async false
set_option linter.all false
set_option maxRecDepth 100000
set_option maxHeartbeats 4000000
set_option autoImplicit false
namespace K88
open PySem L2 Fz K80 Ways
variable {P : Program} {w : World} {K : PySem.W.Frag} {mg : Str → Option Value} {base : Heap} {f : Addr} {fd : FuncData}
/-! ### rows that are handed in -/
def inB (lo hi : Int) : PyData → Bool
  | .int i => decide (lo ≤ i) && decide (i ≤ hi)
  | _ => false
def isI (d : PyData) : Bool := isInt d && !isBl d
def isRow (below : Int) (most : Nat) : PyData → Bool
  | .tuple ds => decide (ds.length ≤ most) && ds.all (inB 0 (below - 1))
  | _ => false
def intsL : PyData → List Int
  | .tuple ds => ds.filterMap fun d => match d with | .int i => some i | _ => none
  | _ => []
theorem isI_inv {d : PyData} (h : isI d = true) : ∃ i, d = .int i := by
  cases d with
  | int i => exact ⟨i, rfl⟩
  | _ => exact nomatch h
theorem inB_no {d : PyData} {lo hi : Int} (h : isI d = false) : inB lo hi d = false := by
  cases d with
  | int i => exact nomatch h
  | _ => rfl
theorem row_ints {below : Int} : ∀ {ds : List PyData}, ds.all (inB 0 (below - 1)) = true → ds = (intsL (.tuple ds)).map PyData.int ∧ ∀ x ∈ intsL (.tuple ds), 0 ≤ x ∧ x < below
  | [], _ => ⟨rfl, fun _ h => nomatch h⟩
  | d :: ds, h => by
    rw [List.all_cons, Bool.and_eq_true] at h
    cases d with
    | int i =>
      have h1 : (decide ((0 : Int) ≤ i) && decide (i ≤ below - 1)) = true := h.1
      rw [Bool.and_eq_true] at h1
      have h2 := of_decide_eq_true h1.1
      have h3 := of_decide_eq_true h1.2
      obtain ⟨e, k⟩ := row_ints h.2
      have e2 : intsL (.tuple (.int i :: ds)) = i :: intsL (.tuple ds) := rfl
      rw [e2]
      refine ⟨by rw [List.map_cons, ← e], fun x hx => ?_⟩
      rcases List.mem_cons.mp hx with e | hx
      · rw [e]; omega
      · exact k x hx
    | _ => exact nomatch h.1
theorem isRow_inv {below : Int} {most : Nat} {d : PyData} (h : isRow below most d = true) : d = ti (intsL d) ∧ (intsL d).length ≤ most ∧ ∀ x ∈ intsL d, 0 ≤ x ∧ x < below := by
  cases d with
  | tuple ds =>
    have h : (decide (ds.length ≤ most) && ds.all (inB 0 (below - 1))) = true := h
    rw [Bool.and_eq_true] at h
    obtain ⟨e, k⟩ := row_ints h.2
    refine ⟨congrArg PyData.tuple e, ?_, k⟩
    have := of_decide_eq_true h.1
    have e2 : ((intsL (.tuple ds)).map PyData.int).length = ds.length := congrArg List.length e.symm
    rw [List.length_map] at e2
    omega
  | _ => exact nomatch h
theorem isRow_of {below : Int} {most : Nat} {l : List Int} (h : l.length ≤ most) (hb : ∀ x ∈ l, 0 ≤ x ∧ x < below) : isRow below most (ti l) = true := by
  show (decide ((l.map PyData.int).length ≤ most) && (l.map PyData.int).all (inB 0 (below - 1))) = true
  rw [Bool.and_eq_true, List.length_map]
  refine ⟨decide_eq_true h, List.all_eq_true.mpr fun d hd => ?_⟩
  obtain ⟨x, hx, rfl⟩ := List.mem_map.mp hd
  have := hb x hx
  show (decide ((0 : Int) ≤ x) && decide (x ≤ below - 1)) = true
  rw [Bool.and_eq_true]
  exact ⟨decide_eq_true (by omega), decide_eq_true (by omega)⟩
theorem ints_ti (l : List Int) : intsL (ti l) = l := by
  induction l with
  | nil => rfl
  | cons a l ih =>
    show a :: intsL (ti l) = a :: l
    rw [ih]
abbrev S_is_integer (K : PySem.W.Frag) : Sp := spD K (fun d : PyData => [d]) (fun _ => True) PyData.bool (fun d x => x = isI d)
theorem okd_is_integer (Fn : Fun K "is_integer" "is_integer" s_is_integer f fd) (T : Bt P mg base)  : FnOk P w K mg base CX0 41 f fd ["value"] (S_is_integer K) := by
  refine fn_D Fn sc_is_integer (by decide) (fun _ => rfl) fun cdv A outer s H E hr => ⟨_, (pss_one (ps_ret (pe_and (pe_callB (r := rIsi K) call_isi (by rfl) T.n_isinstance (by decide +kernel) (pa_cons (pv 0) (pa_cons (pe_bltn (v := .ty "int") (u := .type "int") rfl T.n_int (by decide +kernel) rfl) pa_nil))) (pe_one (pe_not (pe_callB (r := rIsi K) call_isi (by rfl) T.n_isinstance (by decide +kernel) (pa_cons (pv 0) (pa_cons (pe_bltn (v := .ty "bool") (u := .type "bool") rfl T.n_bool (by decide +kernel) rfl) pa_nil)))))))), ?_⟩
  rintro B Q d rfl _ q
  show Ho B _ [dv d] []
  exact x_retD q (wv_of (x := isI d) (ex_andV (b := isInt d) (c := !isBl d) (ex_isInt (ex_v rfl)) (fun _ => ex_notV (ex_isBl (ex_v rfl))) (fun _ => rfl)) rfl)
abbrev S_is_within (K : PySem.W.Frag) : Sp := spD K (fun y : PyData × Int × Int => [y.1, .int y.2.1, .int y.2.2]) (fun _ => True) PyData.bool (fun y x => x = inB y.2.1 y.2.2 y.1)
theorem okd_is_within (Fn : Fun K "is_within" "is_within" s_is_within f fd) (T : Bt P mg base) (D_is_integer : Df P w K mg base 41 "is_integer" ["value"] (S_is_integer K)) : FnOk P w K mg base CX0 42 f fd ["value", "low", "high"] (S_is_within K) := by
  refine fn_D Fn sc_is_within (by decide) (fun _ => rfl) fun cdv A outer s H E hr => ⟨_, (pss_one (ps_ret (pe_and (pe_callD D_is_integer (hr.mono (by decide)) (by rfl) (pa_cons (pv 0) pa_nil)) (pe_one (pe_chain op_le op_le (pv 1) (pv 0) (pv 2)))))), ?_⟩
  rintro B Q ⟨d, lo, hi⟩ rfl _ q
  dsimp only at q
  show Ho B _ [dv d, iv lo, iv hi] []
  have hc : EX B (tCall (S_is_integer B.K) [] E0 (tCons (tVar 0) tNil)) [dv d, iv lo, iv hi] [] (.d (.bool (isI d))) [] := ex_of (e := PyData.bool) fun κ k => w_callD (wa_x (ex_v rfl) (wa_nil ⟨d, rfl, trivial, fun x hx => hx ▸ k⟩))
  cases hd : isI d with
  | false =>
    rw [hd] at hc
    refine x_retD q (wv_of (x := false) (ex_andV (b := false) (c := false) hc (fun h => nomatch h) (fun _ => rfl)) (inB_no hd).symm)
  | true =>
    rw [hd] at hc
    obtain ⟨i, rfl⟩ := isI_inv hd
    refine x_retD q (wv_of (x := inB lo hi (.int i)) (ex_andV (b := true) (c := inB lo hi (.int i)) hc (fun _ => ex_chain (p := fun i j => decide (i ≤ j)) (q := fun i j => decide (i ≤ j)) (ex_v rfl) (ex_v rfl) (ex_v rfl)) (fun h => nomatch h)) rfl)
abbrev S_are_places (K : PySem.W.Frag) : Sp := spD K (fun d : PyData => [d]) (fun _ => True) PyData.bool (fun d x => x = isRow 9 8 d)
theorem ex_within {B : Bg} {ε : Eps} {L La Lb Lc : Own} {ta tb tc : TE} {E : XK} {d : PyData} {lo hi : Int} (h : EX B ta ε L (.d d) La) (h2 : EX B tb ε La (.d (.int lo)) Lb) (h3 : EX B tc ε Lb (.d (.int hi)) Lc) : EX B (tCall (S_is_within B.K) [] E (tCons ta (tCons tb (tCons tc tNil)))) ε L (.d (.bool (inB lo hi d))) Lc :=
  ex_of (e := PyData.bool) fun κ k => w_callD (wa_x h (wa_x h2 (wa_x h3 (wa_nil ⟨(d, lo, hi), rfl, trivial, fun x hx => hx ▸ k⟩))))
theorem all_map {p : PyData → Bool} (ds : List PyData) : (ds.map p).all id = ds.all p := by rw [List.all_map]; rfl
theorem okd_are_places (Fn : Fun K "are_places" "are_places" s_are_places f fd) (T : Bt P mg base) (D_is_within : Df P w K mg base 42 "is_within" ["value", "low", "high"] (S_is_within K)) : FnOk P w K mg base CX0 43 f fd ["value"] (S_are_places K) := by
  refine fn_D Fn sc_are_places (by decide) (fun _ => rfl) fun cdv A outer s H E hr => ⟨_, (pss_one (ps_ret (pe_and (pe_callB (r := rIsi K) call_isi (by rfl) T.n_isinstance (by decide +kernel) (pa_cons (pv 0) (pa_cons (pe_bltn (v := .ty "tuple") (u := .type "tuple") rfl T.n_tuple (by decide +kernel) rfl) pa_nil))) (pe_and (pe_cmpR op_le (pe_callB (r := Evl.rLenS K) call_len_seq (by rfl) T.n_len (by decide +kernel) (pa_cons (pv 0) pa_nil)) (pe_glob (v := .int 8) rfl T.c_MAX_WAY.choose_spec ⟨_, rfl⟩) (nomark _)) (pe_one (pe_callB (r := rAll K) (cr_all rfl) (by rfl) T.n_all (by decide +kernel) (pa_cons (pe_lc (own := [("own", 1)]) rfl sc_are_places.nd (pi_tup (pv 0)) (blkOk_by (own := [("own", 1)]) (N := ["value", "own"]) (sc := defScope s_are_places) (by decide +kernel)) (fun _ _ _ _ _ => (pg_name (i := 1) sc_are_places.nd rfl (Or.inl rfl))) (fun _ _ _ _ _ => pts_nil) (fun _ _ _ _ _ => (pe_callD D_is_within (hr.mono (by decide)) (by rfl) (pa_cons (pv 1) (pa_cons pe_int (pa_cons (pe_glob (v := .int 8) rfl T.c_MAX_WAY.choose_spec ⟨_, rfl⟩) pa_nil)))))) pa_nil))))))), ?_⟩
  rintro B Q d rfl _ q
  show Ho B _ [dv d, none] []
  cases d with
  | tuple ds =>
    refine x_retD q (wv_of (x := decide ((ds.length : Int) ≤ 8) && (ds.map (inB 0 8)).all id) (ex_andV (b := true) (c := decide ((ds.length : Int) ≤ 8) && (ds.map (inB 0 8)).all id) (ex_boolE (ex_isTup (ex_v rfl)) rfl) (fun _ => ex_andV (b := decide ((ds.length : Int) ≤ 8)) (c := (ds.map (inB 0 8)).all id) (ex_le (ex_lenT (ds := ds) (ex_v rfl) rfl) ex_cI) (fun hb => ex_allB (bs := ds.map (inB 0 8)) (ex_is (ex_frz (en_lcTP (xs := ds) (fun _ => true) (fun d => .bool (inB 0 8 d)) (fun d => [dv (.tuple ds), some (.d d)]) (ex_v rfl) (by have := of_decide_eq_true hb; omega) (gw_name (by simp)) (fun d hd => gt_name) (fun d hd m => et_yes) (fun d hd _ m => ex_within (ex_v rfl) ex_cI ex_cI))) ?_) .d) (fun _ => rfl)) (fun h => nomatch h)) ?_)
    · rw [filter_yes, List.map_map]; rfl
    · show _ = (decide (ds.length ≤ 8) && ds.all (inB 0 (9 - 1)))
      rw [all_map]
      congr 1
      exact decide_eq_decide.mpr (by omega)
  | _ => exact x_retD q (wv_of (x := false) (ex_andV (b := false) (c := false) (ex_boolE (ex_isTup (ex_v rfl)) rfl) (fun h => nomatch h) (fun _ => rfl)) rfl)
abbrev S_law_is_row (K : PySem.W.Frag) : Sp := spD K (fun y : PyData × Int × Nat => [y.1, .int y.2.1, .int (y.2.2 : Int)]) (fun y => y.2.2 ≤ 1000) PyData.bool (fun y x => x = isRow y.2.1 y.2.2 y.1)
theorem okd_law_is_row (Fn : Fun K "_law_is_row" "_law_is_row" s_law_is_row f fd) (T : Bt P mg base)  : FnOk P w K mg base CX0 41 f fd ["value", "below", "most"] (S_law_is_row K) := by
  refine fn_D Fn sc_law_is_row (by decide) (fun _ => rfl) fun cdv A outer s H E hr => ⟨_, (pss_cons (ps_if (PW.pt (pw_or (pt_not (pt_val (pe_callB (r := rIsi K) call_isi (by rfl) T.n_isinstance (by decide +kernel) (pa_cons (pv 0) (pa_cons (pe_bltn (v := .ty "tuple") (u := .type "tuple") rfl T.n_tuple (by decide +kernel) rfl) pa_nil))))) (pw_or1 (pt_cmpR op_gt (pe_callB (r := Evl.rLenS K) call_len_seq (by rfl) T.n_len (by decide +kernel) (pa_cons (pv 0) pa_nil)) (pv 2) (nomark _))))) (pss_one (ps_ret pe_bl)) pss_nil)
      (pss_one (ps_ret (pe_callB (r := rAll K) (cr_all rfl) (by rfl) T.n_all (by decide +kernel) (pa_cons (pe_lc (own := [("x", 3)]) rfl sc_law_is_row.nd (pi_tup (pv 0)) (blkOk_by (own := [("x", 3)]) (N := ["value", "below", "most", "x"]) (sc := defScope s_law_is_row) (by decide +kernel)) (fun _ _ _ _ _ => (pg_name (i := 3) sc_law_is_row.nd rfl (Or.inl rfl))) (fun _ _ _ _ _ => pts_nil) (fun _ _ _ _ _ => (pe_and (pe_callB (r := rIsi K) call_isi (by rfl) T.n_isinstance (by decide +kernel) (pa_cons (pv 3) (pa_cons (pe_bltn (v := .ty "int") (u := .type "int") rfl T.n_int (by decide +kernel) rfl) pa_nil))) (pe_and (pe_not (pe_callB (r := rIsi K) call_isi (by rfl) T.n_isinstance (by decide +kernel) (pa_cons (pv 3) (pa_cons (pe_bltn (v := .ty "bool") (u := .type "bool") rfl T.n_bool (by decide +kernel) rfl) pa_nil)))) (pe_one (pe_chain op_le op_lt pe_int (pv 3) (pv 1))))))) pa_nil))))), ?_⟩
  rintro B Q ⟨d, below, most⟩ rfl hm q
  dsimp only at hm q
  show Ho B _ [dv d, iv below, iv (most : Int), none] []
  cases d with
  | tuple ds =>
    refine x_seq (x_if (b := decide ((most : Int) < (ds.length : Int))) (et_is (et_or (b := false) (c := decide ((most : Int) < (ds.length : Int))) (et_is (et_not (et_test (ex_isTup (ex_v rfl)))) rfl) (fun _ => et_test (ex_gt (ex_lenT (ds := ds) (ex_v rfl) rfl) (ex_v rfl))) (fun h => nomatch h)) rfl) (fun hb => ?_) fun hb => ?_)
    · refine x_retD q (wv_of (x := false) ex_cB ?_)
      have := of_decide_eq_true hb
      show false = (decide (ds.length ≤ most) && _)
      rw [decide_eq_false (by omega)]; rfl
    · have hle := of_decide_eq_false hb
      refine x_next (nxt (x_retD q (wv_of (x := (ds.map (inB 0 (below - 1))).all id) (ex_allB (bs := ds.map (inB 0 (below - 1))) (ex_is (ex_frz (en_lcTP (xs := ds) (fun _ => true) (fun d => .bool (inB 0 (below - 1) d)) (fun d => [dv (.tuple ds), iv below, iv (most : Int), some (.d d)]) (ex_v rfl) (by omega) (gw_name (by simp)) (fun d hd => gt_name) (fun d hd m => et_yes) (fun d hd _ m => ?_))) ?_) .d) ?_)))
      · cases d with
        | int i => exact ex_boolE (ex_andV (b := true) (ex_boolE (ex_isInt (ex_v rfl)) rfl) (fun _ => ex_andV (b := true) (ex_notV (b := false) (ex_boolE (ex_isBl (ex_v rfl)) rfl)) (fun _ => ex_chain (p := fun i j => decide (i ≤ j)) (q := fun i j => decide (i < j)) (j := i) ex_cI (ex_v rfl) (ex_v rfl)) (fun h => nomatch h)) (fun h => nomatch h)) (by
            show (decide ((0 : Int) ≤ i) && decide (i < below)) = (decide ((0 : Int) ≤ i) && decide (i ≤ below - 1))
            congr 1
            exact decide_eq_decide.mpr (by omega))
        | bool b => exact ex_boolE (ex_andV (b := true) (c := false) (ex_boolE (ex_isInt (ex_v rfl)) rfl) (fun _ => ex_andV (b := false) (c := false) (ex_notV (b := true) (ex_boolE (ex_isBl (ex_v rfl)) rfl)) (fun h => nomatch h) (fun _ => rfl)) (fun h => nomatch h)) rfl
        | _ => exact ex_boolE (ex_andV (b := false) (c := false) (ex_boolE (ex_isInt (ex_v rfl)) rfl) (fun h => nomatch h) (fun _ => rfl)) rfl
      · rw [filter_yes, List.map_map]; rfl
      · show _ = (decide (ds.length ≤ most) && ds.all (inB 0 (below - 1)))
        rw [all_map, decide_eq_true (by omega)]; rfl
  | _ =>
    exact x_seq (x_if (b := true) (et_is (et_or (b := true) (c := true) (et_is (et_not (et_test (ex_isTup (ex_v rfl)))) rfl) (fun h => nomatch h) (fun _ => rfl)) rfl) (fun hb => x_retD q (wv_of (x := false) ex_cB rfl)) fun hb => nomatch hb)
def wordErr (k : Int) : PyData → PyData
  | .tuple ds => if ds.all (inB 0 (k - 1)) = true then (if 16 < ds.length then .str "long" else .none) else .str "form"
  | _ => .str "form"
theorem wordErr_none {k : Int} {d : PyData} : isNoneD (wordErr k d) = isRow k 16 d := by
  cases d with
  | tuple ds =>
    show isNoneD (if ds.all (inB 0 (k - 1)) = true then (if 16 < ds.length then .str "long" else .none) else .str "form") = (decide (ds.length ≤ 16) && ds.all (inB 0 (k - 1)))
    cases ds.all (inB 0 (k - 1)) with
    | false => rw [Bool.and_false]; rfl
    | true =>
      rw [if_pos rfl, Bool.and_true]
      by_cases c : 16 < ds.length
      · rw [if_pos c, decide_eq_false (by omega)]; rfl
      · rw [if_neg c, decide_eq_true (by omega)]; rfl
  | _ => rfl
abbrev S_word_error (K : PySem.W.Frag) : Sp := spD K (fun y : Int × PyData => [.int y.1, y.2]) (fun y => ∀ ds, y.2 = .tuple ds → ds.length ≤ 90000) eD (fun y x => x = wordErr y.1 y.2)
theorem okd_word_error (Fn : Fun K "word_error" "word_error" s_word_error f fd) (T : Bt P mg base) (D_is_within : Df P w K mg base 42 "is_within" ["value", "low", "high"] (S_is_within K)) : FnOk P w K mg base CX0 43 f fd ["k", "value"] (S_word_error K) := by
  refine fn_D Fn sc_word_error (by decide) (fun _ => rfl) fun cdv A outer s H E hr => ⟨_, (pss_cons (ps_if (PW.pt (pw_or (pt_not (pt_val (pe_callB (r := rIsi K) call_isi (by rfl) T.n_isinstance (by decide +kernel) (pa_cons (pv 1) (pa_cons (pe_bltn (v := .ty "tuple") (u := .type "tuple") rfl T.n_tuple (by decide +kernel) rfl) pa_nil))))) (pw_or1 (pt_not (pt_val (pe_callB (r := rAll K) (cr_all rfl) (by rfl) T.n_all (by decide +kernel) (pa_cons (pe_lc (own := [("item", 2)]) rfl sc_word_error.nd (pi_tup (pv 1)) (blkOk_by (own := [("item", 2)]) (N := ["k", "value", "item"]) (sc := defScope s_word_error) (by decide +kernel)) (fun _ _ _ _ _ => (pg_name (i := 2) sc_word_error.nd rfl (Or.inl rfl))) (fun _ _ _ _ _ => pts_nil) (fun _ _ _ _ _ => (pe_callD D_is_within (hr.mono (by decide)) (by rfl) (pa_cons (pv 2) (pa_cons pe_int (pa_cons (pe_op op_sub (pv 0) pe_int) pa_nil)))))) pa_nil))))))) (pss_one (ps_ret pe_str)) pss_nil)
      (pss_one (ps_ret (pe_ifExp (pt_cmpR op_gt (pe_callB (r := Evl.rLenS K) call_len_seq (by rfl) T.n_len (by decide +kernel) (pa_cons (pv 1) pa_nil)) (pe_glob (v := .int 16) rfl T.c_MAX_GREAT_SIZE.choose_spec ⟨_, rfl⟩) (nomark _)) pe_str pe_non)))), ?_⟩
  rintro B Q ⟨k, d⟩ rfl hv q
  dsimp only at hv q
  show Ho B _ [iv k, dv d, none] []
  cases d with
  | tuple ds =>
    have hl := hv ds rfl
    have hall : EX B (tCB (rAll B.K) (tCons (tLc (iTup B.K (tVar 1)) (gName 2) tYes (tCall (S_is_within B.K) [] E0 (tCons (tVar 2) (tCons (tC (.int 0)) (tCons (tOp (rI0 fun i j => .int (i - j)) (tVar 0) (tC (.int 1))) tNil)))) [2]) tNil)) [iv k, dv (.tuple ds), none] [] (.d (.bool (ds.all (inB 0 (k - 1))))) [] := ex_boolE (ex_allB (bs := ds.map (inB 0 (k - 1))) (ex_is (ex_frz (en_lcTP (xs := ds) (fun _ => true) (fun d => .bool (inB 0 (k - 1) d)) (fun d => [iv k, dv (.tuple ds), some (.d d)]) (ex_v rfl) (by omega) (gw_name (by simp)) (fun d hd => gt_name) (fun d hd m => et_yes) (fun d hd _ m => ex_within (ex_v rfl) ex_cI (ex_sub (ex_v rfl) ex_cI)))) (by rw [filter_yes, List.map_map]; rfl)) .d) (all_map ds)
    refine x_seq (x_if (b := !ds.all (inB 0 (k - 1))) (et_is (et_or (b := false) (c := !ds.all (inB 0 (k - 1))) (et_is (et_not (et_test (ex_isTup (ex_v rfl)))) rfl) (fun _ => et_not (et_test hall)) (fun h => nomatch h)) rfl) (fun hb => ?_) fun hb => ?_)
    · refine x_retD q (wv_of (x := .str "form") ex_cS ?_)
      show _ = if ds.all (inB 0 (k - 1)) = true then _ else _
      rw [if_neg (by simpa using hb)]
    · have ha : ds.all (inB 0 (k - 1)) = true := by simpa using hb
      refine x_next (nxt (x_retD q (wv_of (x := if 16 < ds.length then .str "long" else .none) (ex_if (L2 := []) (b := decide ((16 : Int) < (ds.length : Int))) (et_test (ex_gt (ex_lenT (ds := ds) (ex_v rfl) rfl) ex_cI)) (fun h => ?_) fun h => ?_) ?_)))
      · have := of_decide_eq_true h
        rw [if_pos (by omega)]; exact ex_cS
      · have := of_decide_eq_false h
        rw [if_neg (by omega)]; exact ex_cN
      · show _ = if ds.all (inB 0 (k - 1)) = true then _ else _
        rw [if_pos ha]
  | _ =>
    exact x_seq (x_if (b := true) (et_is (et_or (b := true) (c := true) (et_is (et_not (et_test (ex_isTup (ex_v rfl)))) rfl) (fun h => nomatch h) (fun _ => rfl)) rfl) (fun hb => x_retD q (wv_of (x := .str "form") ex_cS rfl)) fun hb => nomatch hb)
end K88

/-! ## G4 -/
set_option Elab.async false
set_option linter.all false
set_option maxRecDepth 100000
set_option maxHeartbeats 4000000
set_option autoImplicit false
namespace K88
open PySem L2 Fz K80 Ways
variable {P : Program} {w : World} {K : PySem.W.Frag} {mg : Str → Option Value} {base : Heap} {f : Addr} {fd : FuncData}
theorem gt_tupE {B : Bg} {ε : Eps} {i j k : Nat} {d e f : PyData} : GT B (gTup B.K 2 (gCons (gName i) (gCons (gTup B.K 2 (gCons (gName j) (gCons (gName k) gNil))) gNil))) (.d (.tuple [d, .tuple [e, f]])) ε (((ε.set i (some (.d d))).set j (some (.d e))).set k (some (.d f))) := fun L F σ H v r o P p => by
  obtain ⟨q, vs, rfl, h1, h2⟩ := tup_inv o
  cases h2 with
  | cons a t =>
    cases t with
    | cons b t =>
      cases t
      refine ⟨q, _, rfl, tq_sub r.sub h1, rfl, _, _, rfl, _, _, rfl, ?_⟩
      exact gt_tup2 L F _ H _ (r.slot (a := .d d) a) b _ fun σ' r' => ⟨rfl, p σ' r'⟩
/-! ### papers of rows, read -/
def outW (w : Way) (r : List Int) : Way := match runRow w r 0 with | .inl x => x | .inr _ => w
def placeD (s n : Nat) : PyData := .tuple [.str "place", .int (s : Int), .int (n : Int)]
def sameErr (w0 w1 : Way) (r0 r1 : List Int) : PyData := match runRow w0 r0 0 with
  | .inr n => placeD 0 n
  | .inl x => match runRow w1 r1 0 with
    | .inr n => placeD 1 n
    | .inl y => if x = y then .none else .tuple [.str "ways", wayD x, wayD y]
def pairN {α : Type} (a b : α) (i : Nat) : α := if i = 0 then a else b
theorem same_fail {w0 w1 : Way} {r0 r1 : List Int} {i n : Nat} (hi : i < 2) (ok : ∀ j, j < i → runRow (pairN w0 w1 j) (pairN r0 r1 j) 0 = .inl (outW (pairN w0 w1 j) (pairN r0 r1 j))) (h : runRow (pairN w0 w1 i) (pairN r0 r1 i) 0 = .inr n) : sameErr w0 w1 r0 r1 = placeD i n := by
  unfold sameErr
  by_cases c : i = 0
  · subst c
    have h : runRow w0 r0 0 = .inr n := h
    rw [h]
  · have e : i = 1 := by omega
    subst e
    have h : runRow w1 r1 0 = .inr n := h
    have h0 : runRow w0 r0 0 = .inl (outW w0 r0) := ok 0 (by omega)
    rw [h0, h]
theorem same_done {w0 w1 : Way} {r0 r1 : List Int} (ok : ∀ j, j < 2 → runRow (pairN w0 w1 j) (pairN r0 r1 j) 0 = .inl (outW (pairN w0 w1 j) (pairN r0 r1 j))) : sameErr w0 w1 r0 r1 = if outW w0 r0 = outW w1 r1 then .none else .tuple [.str "ways", wayD (outW w0 r0), wayD (outW w1 r1)] := by
  have h0 : runRow w0 r0 0 = .inl (outW w0 r0) := ok 0 (by omega)
  have h1 : runRow w1 r1 0 = .inl (outW w1 r1) := ok 1 (by omega)
  unfold sameErr
  rw [h0]
  dsimp only
  rw [h1]
theorem has_any (u : Way) (p : Int) : ((pl u).any fun n => decide (n = p)) = hasPlace u p := by
  unfold pl hasPlace
  rw [List.any_map]; rfl
theorem run_cons {u : Way} {p : Int} {ps : List Int} {n : Nat} : runRow u (p :: ps) n = if hasPlace u p = true then runRow (putW u p.toNat) ps (n + 1) else .inr n := rfl
theorem drop_at {l : List Int} {n : Nat} {p : Int} (h : l[n]? = some p) : l.drop n = p :: l.drop (n + 1) := by
  obtain ⟨hlt, e⟩ := List.getElem?_eq_some_iff.mp h
  rw [← e]
  exact List.drop_eq_getElem_cons hlt
theorem ti_at {l : List Int} {n : Nat} {d : PyData} (h : (l.map PyData.int)[n]? = some d) : ∃ p, l[n]? = some p ∧ d = .int p := by
  rw [List.getElem?_map] at h
  cases hp : l[n]? with
  | none => rw [hp] at h; cases h
  | some p => rw [hp] at h; cases h; exact ⟨p, rfl, rfl⟩
theorem pair_at {α : Type} {g : α → PyData} {a b : α} {i : Nat} {d : PyData} (h : ([g a, g b] : List PyData)[i]? = some d) : i < 2 ∧ d = g (pairN a b i) := by
  match i, h with
  | 0, h => cases h; exact ⟨by omega, rfl⟩
  | 1, h => cases h; exact ⟨by omega, rfl⟩
  | i + 2, h => exact nomatch h
abbrev S_same_fault (K : PySem.W.Frag) : Sp := spD K (fun y : (Way × Way) × List Int × List Int => [.tuple [wayD y.1.1, wayD y.1.2], .tuple [ti y.2.1, ti y.2.2]]) (fun y => y.1.1.length ≤ 5000 ∧ y.1.2.length ≤ 5000) eD (fun y x => x = sameErr y.1.1 y.1.2 y.2.1 y.2.2)
theorem okd_same_fault (Fn : Fun K "same_fault" "same_fault" s_same_fault f fd) (T : Bt P mg base) (D_put_together : Df P w K mg base 41 "put_together" ["way", "place"] (S_put_together K)) (D_like_places : Df P w K mg base 41 "like_places" ["way"] (S_like_places K)) : FnOk P w K mg base CX0 42 f fd ["ways", "rows"] (S_same_fault K) := by
  refine fn_D Fn sc_same_fault (by decide) (fun _ => rfl) fun cdv A outer s H E hr => ⟨_, (pss_cons (ps_set (i := 2) sc_same_fault.nd rfl (.inl rfl) (pe_lst pa_nil))
      (pss_cons (ps_for PassesOwn.never rfl (pi_enumZ (by rfl) T.n_enumerate (by rfl) T.n_zip (pa_cons (pv 0) (pa_cons (pv 1) pa_nil))) (pg_tup rfl (pgs_cons (pg_name (i := 3) sc_same_fault.nd rfl (Or.inl rfl)) (pgs_cons (pg_tup rfl (pgs_cons (pg_name (i := 4) sc_same_fault.nd rfl (Or.inl rfl)) (pgs_cons (pg_name (i := 5) sc_same_fault.nd rfl (Or.inl rfl)) pgs_nil))) pgs_nil))) (pss_cons (ps_for PassesOwn.never rfl (pi_enumT (by rfl) T.n_enumerate (pa_cons (pv 5) pa_nil)) (pg_tup rfl (pgs_cons (pg_name (i := 6) sc_same_fault.nd rfl (Or.inl rfl)) (pgs_cons (pg_name (i := 7) sc_same_fault.nd rfl (Or.inl rfl)) pgs_nil))) (pss_cons (ps_if (pt_cmpR (r := rIn K true) op_notIn_seq (pv 7) (pe_callD D_like_places (hr.mono (by decide)) (by rfl) (pa_cons (pv 4) pa_nil)) (by with_unfolding_all rfl)) (pss_one (ps_ret (pe_tup (pa_cons pe_str (pa_cons (pv 3) (pa_cons (pv 6) pa_nil)))))) pss_nil)
      (pss_one (ps_set (i := 4) sc_same_fault.nd rfl (.inl rfl) (pe_callD D_put_together (hr.mono (by decide)) (by rfl) (pa_cons (pv 4) (pa_cons (pv 7) pa_nil)))))))
      (pss_one (ps_expr (pe_bm PySem.F.plainAttrs_list PySem.F.slot_list_append PySem.F.type_list_append mt_append (pv 2) (pa_cons (pv 4) pa_nil))))))
      (pss_one (ps_ret (pe_ifExp (pt_cmpR (r := rNeD K) (op_neD hr.units) (pe_ix (r := rIxL K) ix_list (pv 2) pe_int (fun _ _ => rfl)) (pe_ix (r := rIxL K) ix_list (pv 2) pe_int (fun _ _ => rfl)) (nomark _)) (pe_tup (pa_cons pe_str (pa_cons (pe_ix (r := rIxL K) ix_list (pv 2) pe_int (fun _ _ => rfl)) (pa_cons (pe_ix (r := rIxL K) ix_list (pv 2) pe_int (fun _ _ => rfl)) pa_nil)))) pe_non))))), ?_⟩
  rintro B Q ⟨⟨w0, w1⟩, r0, r1⟩ rfl ⟨l0, l1⟩ q
  dsimp only at l0 l1 q
  show Ho B _ [dv (.tuple [wayD w0, wayD w1]), dv (.tuple [ti r0, ti r1]), none, none, none, none, none, none] []
  have hlw : ∀ i, (pairN w0 w1 i).length ≤ 5000 := fun i => by unfold pairN; split <;> assumption
  refine x_seq (x_setN (en_lst (ds := []) ea_nil (Nat.zero_le _)) fun p hp => ?_)
  refine x_sq (x_forEZ (ds := [wayD w0, wayD w1]) (es := [ti r0, ti r1]) (ea_cons (ex_v rfl) (ea_cons (ex_v rfl) ea_nil)) (Nat.le_refl _) (fun v u i ε L => (∀ j, j < i → runRow (pairN w0 w1 j) (pairN r0 r1 j) 0 = .inl (outW (pairN w0 w1 j) (pairN r0 r1 j))) ∧ ε = [dv (.tuple [wayD w0, wayD w1]), dv (.tuple [ti r0, ti r1]), some (.v (.ref p)), none, none, none, none, none] ∧ L = [.lst p ((List.range i).map fun j => wayD (outW (pairN w0 w1 j) (pairN r0 r1 j))), .know v (.tuple [wayD w0, wayD w1]), .know u (.tuple [ti r0, ti r1])]) (fun v u => ⟨(fun j h => by omega), rfl, rfl⟩) (fun v u i ε' L' ⟨_, _, h⟩ => by rw [h]; simp) ?_ ?_)
  · rintro v u i d e ε' L' hd he ⟨ok, rfl, rfl⟩
    obtain ⟨hi, rfl⟩ := pair_at (g := wayD) hd
    obtain ⟨_, rfl⟩ := pair_at (g := ti) he
    have hlen := hlw i
    refine ⟨_, gt_tupE, ?_⟩
    refine x_seq (x_forET (ds := (pairN r0 r1 i).map PyData.int) (ea_cons (ex_v rfl) ea_nil) (fun z n ε L => ∃ x : Way, x.length ≤ 5000 ∧ runRow (pairN w0 w1 i) (pairN r0 r1 i) 0 = runRow x ((pairN r0 r1 i).drop n) n ∧ ε = [dv (.tuple [wayD w0, wayD w1]), dv (.tuple [ti r0, ti r1]), some (.v (.ref p)), iv (i : Int), wv x, dv (ti (pairN r0 r1 i)), none, none] ∧ L = [.lst p ((List.range i).map fun j => wayD (outW (pairN w0 w1 j) (pairN r0 r1 j))), .know v (.tuple [wayD w0, wayD w1]), .know u (.tuple [ti r0, ti r1]), .know z (ti (pairN r0 r1 i))]) (fun z => ⟨pairN w0 w1 i, hlen, rfl, rfl, rfl⟩) (fun z n ε' L' ⟨_, _, _, _, h⟩ => by rw [h]; simp [ti]) ?_ ?_)
    · rintro z n d ε' L' hd ⟨x, hx, hr, rfl, rfl⟩
      obtain ⟨pc, hp2, rfl⟩ := ti_at hd
      rw [drop_at hp2, run_cons] at hr
      refine ⟨_, gt_tup2 (d := .int (n : Int)) (e := .int pc), ?_⟩
      refine x_seq (x_if (b := !hasPlace x pc) (et_is (et_test (ex_ninL (ns := pl x) (ex_v rfl) (ex_like (v := x) (ex_v rfl) hx) .d)) (by rw [has_any])) (fun hb => ?_) fun hb => ?_)
      · have hn : hasPlace x pc = false := by simpa using hb
        rw [hn, if_neg (by decide)] at hr
        refine x_retD q (wv_of (x := placeD i n) (ex_tup (ds := [.str "place", .int (i : Int), .int (n : Int)]) (ea_cons ex_cS (ea_cons (ex_v rfl) (ea_cons (ex_v rfl) ea_nil))) (Nat.le_of_ble_eq_true rfl)) (same_fail hi ok hr).symm)
      · have hn : hasPlace x pc = true := by simpa using hb
        rw [hn, if_pos rfl] at hr
        obtain ⟨j, rfl, hj⟩ := has_inv hn
        obtain ⟨h1, h2⟩ := mem_places hj
        have := put_len h1
        rw [Int.toNat_natCast] at hr
        exact x_next (nxt (x_set (a := .d (wayD (putW x j))) (ex_put (ex_v rfl) (ex_v rfl) ⟨hx, h1⟩) (nxt (x_end ⟨putW x j, by omega, hr, rfl, rfl⟩))))
    · rintro z ε' L' ⟨x, hx, hr, rfl, rfl⟩
      rw [List.length_map, List.drop_length] at hr
      have hr : runRow (pairN w0 w1 i) (pairN r0 r1 i) 0 = .inl x := hr
      have ho : outW (pairN w0 w1 i) (pairN r0 r1 i) = x := by unfold outW; rw [hr]
      refine nxt (ho_drop (k := 3) ?_ rfl (fun p hp => nomatch hp))
      refine x_appW (e := wayD) (ex_v rfl) ⟨_, _, .z⟩ (wv_of (x := x) (ex_v rfl) ⟨(List.range i).map fun j => wayD (outW (pairN w0 w1 j) (pairN r0 r1 j)), _, .z, by rw [List.length_map, List.length_range]; omega, nxt (x_end ⟨?_, rfl, ?_⟩)⟩)
      · intro j hlt
        by_cases c : j < i
        · exact ok j c
        · have e : j = i := by omega
          rw [e, ho]; exact hr
      · rw [List.range_succ, List.map_append, List.map_singleton, ho]; rfl
  · rintro v u ε' L' ⟨ok, rfl, rfl⟩
    have hd := same_done (w0 := w0) (w1 := w1) (r0 := r0) (r1 := r1) ok
    show Ho B _ [dv (.tuple [wayD w0, wayD w1]), dv (.tuple [ti r0, ti r1]), some (.v (.ref p)), none, none, none, none, none] [.lst p [wayD (outW w0 r0), wayD (outW w1 r1)], .know v (.tuple [wayD w0, wayD w1]), .know u (.tuple [ti r0, ti r1])]
    generalize outW w0 r0 = x at *
    generalize outW w1 r1 = y at *
    have i0 : ∀ ε : Eps, ε[2]? = some (some (.v (.ref p))) → EX B (tOp (rIxL B.K) (tVar 2) (tC (.int 0))) ε [.lst p [wayD x, wayD y], .know v (.tuple [wayD w0, wayD w1]), .know u (.tuple [ti r0, ti r1])] (.d (wayD x)) [.lst p [wayD x, wayD y], .know v (.tuple [wayD w0, wayD w1]), .know u (.tuple [ti r0, ti r1])] := fun ε h => ex_ixL (ds := [wayD x, wayD y]) (ex_v h) ex_cI (.o (k := 0) rfl) rfl
    have i1 : ∀ ε : Eps, ε[2]? = some (some (.v (.ref p))) → EX B (tOp (rIxL B.K) (tVar 2) (tC (.int 1))) ε [.lst p [wayD x, wayD y], .know v (.tuple [wayD w0, wayD w1]), .know u (.tuple [ti r0, ti r1])] (.d (wayD y)) [.lst p [wayD x, wayD y], .know v (.tuple [wayD w0, wayD w1]), .know u (.tuple [ti r0, ti r1])] := fun ε h => ex_ixL (ds := [wayD x, wayD y]) (ex_v h) ex_cI (.o (k := 0) rfl) rfl
    refine nxt (x_retD q (wv_of (x := if x = y then .none else .tuple [.str "ways", wayD x, wayD y]) (ex_if (L2 := [.lst p [wayD x, wayD y], .know v (.tuple [wayD w0, wayD w1]), .know u (.tuple [ti r0, ti r1])]) (b := !decide (x = y)) (et_test (ex_boolE (ex_neD (i0 _ rfl) (i1 _ rfl) (shaped_way x) (shaped_way y)) (by rw [eq_way]))) (fun h => ?_) fun h => ?_) hd.symm))
    · rw [if_neg (by simpa using h)]
      exact ex_tup (ds := [.str "ways", wayD x, wayD y]) (ea_cons ex_cS (ea_cons (i0 _ rfl) (ea_cons (i1 _ rfl) ea_nil))) (Nat.le_of_ble_eq_true rfl)
    · rw [if_pos (by simpa using h)]
      exact ex_cN
end K88

/-! ## G5 -/
set_option Elab.async false
set_option linter.all false
set_option maxRecDepth 100000
set_option maxHeartbeats 4000000
set_option autoImplicit false
namespace K88
open PySem L2 Fz K80 Ways
variable {P : Program} {w : World} {K : PySem.W.Frag} {mg : Str → Option Value} {base : Heap} {f : Addr} {fd : FuncData}
/-! ### papers, read -/
def alikeErr (one other : Way) (word : List Int) : PyData := if PyData.eqv (wsD (one, word)) (wsD (other, word)) = true then .tuple [.str "alike", wsD (one, word)] else .none
def rowsErr (one other : Way) : PyData → PyData
  | .tuple [a, b] => if (isRow 9 8 a && isRow 9 8 b) = true then sameErr one other (intsL a) (intsL b) else .str "form"
  | _ => .str "form"
def toldErr (k : Int) (one other : Way) (s : Str) (told : PyData) : PyData :=
  if s = "same" then rowsErr one other told else if s = "word" then (if isRow k 16 told = true then alikeErr one other (intsL told) else .str "form") else .str "form"
def paperErr (k : Int) (one other : Way) : PyData → PyData
  | .tuple [.str s, told] => toldErr k one other s told
  | _ => .str "form"
def pairT (c : PyData → PyData → Bool) : PyData → Bool
  | .tuple [a, b] => c a b
  | _ => true
def VL (d : PyData) : Prop := ∀ a ds, d = .tuple [a, .tuple ds] → ds.length ≤ 90000
theorem isRow_ex {below : Int} {most : Nat} {d : PyData} (h : isRow below most d = true) : ∃ l, d = ti l ∧ l.length ≤ most ∧ ∀ x ∈ l, 0 ≤ x ∧ x < below := ⟨_, isRow_inv h⟩
theorem pair_no {c : PyData → PyData → Bool} {d : PyData} (h : pairT c d = false) : ∃ a b, d = .tuple [a, b] ∧ c a b = false := by
  unfold pairT at h
  split at h
  · exact ⟨_, _, rfl, h⟩
  · exact nomatch h
theorem str_no {a : PyData} (h : (!isStr a) = false) : ∃ s, a = .str s := by
  cases a with
  | str s => exact ⟨s, rfl⟩
  | _ => exact nomatch h
theorem form_err {k : Int} {one other : Way} {d : PyData} (h : pairT (fun a _ => !isStr a) d = true) : paperErr k one other d = .str "form" := by
  unfold paperErr
  split
  · exact nomatch h
  · rfl
theorem rows_err {c : PyData → PyData → Bool} {one other : Way} {d : PyData} (h : pairT c d = true) (hc : ∀ a b, c a b = true → (isRow 9 8 a && isRow 9 8 b) = false) : rowsErr one other d = .str "form" := by
  unfold rowsErr
  split
  · rw [if_neg (by rw [hc _ _ h]; decide)]
  · rfl
section
variable {B : Bg} {ε : Eps} {L La Lb : Own} {te ta tb : TE} {tt tu tv : TT} {E : XK} {d : PyData} {c : PyData → PyData → Bool}
theorem len_ne {a b x : PyData} {ds : List PyData} : (!decide (((a :: b :: x :: ds).length : Int) = 2)) = true := by
  simp only [List.length_cons]
  rw [decide_eq_false (by omega)]; rfl
theorem et_pair (h1 : ETt B tt ε L (!isTup d) L) (h2 : ∀ ds, d = .tuple ds → ETt B tu ε L (!decide ((ds.length : Int) = 2)) L) (h3 : ∀ a b, d = .tuple [a, b] → ETt B tv ε L (c a b) L) : ETt B (tOr tt (tOr tu tv)) ε L (pairT c d) L := by
  cases d with
  | tuple ds =>
    match ds with
    | [a, b] => exact et_is (et_or (b := false) (c := c a b) h1 (fun _ => et_is (et_or (b := false) (c := c a b) (h2 _ rfl) (fun _ => h3 a b rfl) (fun h => nomatch h)) rfl) (fun h => nomatch h)) rfl
    | [] => exact et_is (et_or (b := false) (c := true) h1 (fun _ => et_is (et_or (b := true) (c := true) (h2 _ rfl) (fun h => nomatch h) (fun _ => rfl)) rfl) (fun h => nomatch h)) rfl
    | [a] => exact et_is (et_or (b := false) (c := true) h1 (fun _ => et_is (et_or (b := true) (c := true) (h2 _ rfl) (fun h => nomatch h) (fun _ => rfl)) rfl) (fun h => nomatch h)) rfl
    | a :: b :: x :: ds => exact et_is (et_or (b := false) (c := true) h1 (fun _ => et_is (et_or (b := true) (c := true) (et_is (h2 _ rfl) len_ne) (fun h => nomatch h) (fun _ => rfl)) rfl) (fun h => nomatch h)) rfl
  | _ => exact et_is (et_or (b := true) (c := true) h1 (fun h => nomatch h) (fun _ => rfl)) rfl
theorem et_two (h1 : ETt B tt ε L (!isTup d) L) (h2 : ∀ ds, d = .tuple ds → ETt B tu ε L (!decide ((ds.length : Int) = 2)) L) : ETt B (tOr tt tu) ε L (pairT (fun _ _ => false) d) L := by
  cases d with
  | tuple ds =>
    match ds with
    | [a, b] => exact et_is (et_or (b := false) (c := false) h1 (fun _ => h2 _ rfl) (fun h => nomatch h)) rfl
    | [] => exact et_is (et_or (b := false) (c := true) h1 (fun _ => h2 _ rfl) (fun h => nomatch h)) rfl
    | [a] => exact et_is (et_or (b := false) (c := true) h1 (fun _ => h2 _ rfl) (fun h => nomatch h)) rfl
    | a :: b :: x :: ds => exact et_is (et_or (b := false) (c := true) h1 (fun _ => et_is (h2 _ rfl) len_ne) (fun h => nomatch h)) rfl
  | _ => exact et_is (et_or (b := true) (c := true) h1 (fun h => nomatch h) (fun _ => rfl)) rfl
theorem ex_areP (h : EX B te ε L (.d d) La) : EX B (tCall (S_are_places B.K) [] E (tCons te tNil)) ε L (.d (.bool (isRow 9 8 d))) La :=
  ex_of (e := PyData.bool) fun κ k => w_callD (wa_x h (wa_nil ⟨d, rfl, trivial, fun x hx => hx ▸ k⟩))
theorem ex_isRow {below : Int} {most : Nat} {tc : TE} {Lc : Own} {m : Int} (h : EX B ta ε L (.d d) La) (h2 : EX B tb ε La (.d (.int below)) Lb) (h3 : EX B tc ε Lb (.d (.int m)) Lc) (hm : m = (most : Int)) (h1000 : most ≤ 1000) : EX B (tCall (S_law_is_row B.K) [] E (tCons ta (tCons tb (tCons tc tNil)))) ε L (.d (.bool (isRow below most d))) Lc := by
  subst hm
  exact ex_of (e := PyData.bool) fun κ k => w_callD (wa_x h (wa_x h2 (wa_x h3 (wa_nil ⟨(d, below, most), rfl, h1000, fun x hx => hx ▸ k⟩))))
theorem ex_wordE {k : Int} (h : EX B ta ε L (.d (.int k)) La) (h2 : EX B tb ε La (.d d) Lb) (hd : ∀ ds, d = .tuple ds → ds.length ≤ 90000) : EX B (tCall (S_word_error B.K) [] E (tCons ta (tCons tb tNil))) ε L (.d (wordErr k d)) Lb :=
  ex_of (e := eD) fun κ kk => w_callD (wa_x h (wa_x h2 (wa_nil ⟨(k, d), rfl, hd, fun x hx => hx ▸ kk⟩)))
end
abbrev S_ways_paper_error (K : PySem.W.Frag) : Sp := spD K (fun y : Int × (Way × Way) × PyData => [.int y.1, wayD y.2.1.1, wayD y.2.1.2, y.2.2]) (fun y => G8 y.2.1 ∧ VL y.2.2) eD (fun y x => x = paperErr y.1 y.2.1.1 y.2.1.2 y.2.2)
theorem paper_same {k : Int} {one other : Way} {told : PyData} : paperErr k one other (.tuple [.str "same", told]) = rowsErr one other told := by
  show toldErr k one other "same" told = _
  unfold toldErr
  rw [if_pos rfl]
theorem paper_word {k : Int} {one other : Way} {told : PyData} : paperErr k one other (.tuple [.str "word", told]) = if isRow k 16 told = true then alikeErr one other (intsL told) else .str "form" := by
  show toldErr k one other "word" told = _
  unfold toldErr
  rw [if_neg (by decide), if_pos rfl]
theorem paper_other {k : Int} {one other : Way} {told : PyData} {s : Str} (h : s ≠ "same") (h2 : s ≠ "word") : paperErr k one other (.tuple [.str s, told]) = .str "form" := by
  show toldErr k one other s told = _
  unfold toldErr
  rw [if_neg h, if_neg h2]
theorem okd_ways_paper_error (Fn : Fun K "ways_paper_error" "ways_paper_error" s_ways_paper_error f fd) (T : Bt P mg base) (D_way_sum : Df P w K mg base 44 "way_sum" ["way", "word"] (S_way_sum K)) (D_same_fault : Df P w K mg base 42 "same_fault" ["ways", "rows"] (S_same_fault K)) (D_word_error : Df P w K mg base 43 "word_error" ["k", "value"] (S_word_error K)) (D_are_places : Df P w K mg base 43 "are_places" ["value"] (S_are_places K)) : FnOk P w K mg base CX0 45 f fd ["k", "one", "other", "value"] (S_ways_paper_error K) := by
  refine fn_D Fn sc_ways_paper_error (by decide) (fun _ => rfl) fun cdv A outer s H E hr => ⟨_, (pss_cons (ps_if (PW.pt (pw_or (pt_not (pt_val (pe_callB (r := rIsi K) call_isi (by rfl) T.n_isinstance (by decide +kernel) (pa_cons (pv 3) (pa_cons (pe_bltn (v := .ty "tuple") (u := .type "tuple") rfl T.n_tuple (by decide +kernel) rfl) pa_nil))))) (pw_or (pt_cmpR op_ne (pe_callB (r := Evl.rLenS K) call_len_seq (by rfl) T.n_len (by decide +kernel) (pa_cons (pv 3) pa_nil)) pe_int (nomark _)) (pw_or1 (pt_not (pt_val (pe_callB (r := rIsi K) call_isi (by rfl) T.n_isinstance (by decide +kernel) (pa_cons (pe_ix (r := rIxT K) ix_tup (pv 3) pe_int (fun _ _ => rfl)) (pa_cons (pe_bltn (v := .ty "str") (u := .type "str") rfl T.n_str (by decide +kernel) rfl) pa_nil))))))))) (pss_one (ps_ret pe_str)) pss_nil)
      (pss_cons (ps_asg (pv 3) (pg_tup rfl (pgs_cons (pg_name (i := 4) sc_ways_paper_error.nd rfl (Or.inl rfl)) (pgs_cons (pg_name (i := 5) sc_ways_paper_error.nd rfl (Or.inl rfl)) pgs_nil))))
      (pss_cons (ps_if (pt_cmpR op_eq (pv 4) pe_str (nomark _)) (pss_cons (ps_if (PW.pt (pw_or (pt_not (pt_val (pe_callB (r := rIsi K) call_isi (by rfl) T.n_isinstance (by decide +kernel) (pa_cons (pv 5) (pa_cons (pe_bltn (v := .ty "tuple") (u := .type "tuple") rfl T.n_tuple (by decide +kernel) rfl) pa_nil))))) (pw_or (pt_cmpR op_ne (pe_callB (r := Evl.rLenS K) call_len_seq (by rfl) T.n_len (by decide +kernel) (pa_cons (pv 5) pa_nil)) pe_int (nomark _)) (pw_or1 (pt_not (pt_val (pe_callB (r := rAll K) (cr_all rfl) (by rfl) T.n_all (by decide +kernel) (pa_cons (pe_lc (own := [("own", 6)]) rfl sc_ways_paper_error.nd (pi_tup (pv 5)) (blkOk_by (own := [("own", 6)]) (N := ["k", "one", "other", "value", "word", "told", "own"]) (sc := defScope s_ways_paper_error) (by decide +kernel)) (fun _ _ _ _ _ => (pg_name (i := 6) sc_ways_paper_error.nd rfl (Or.inl rfl))) (fun _ _ _ _ _ => pts_nil) (fun _ _ _ _ _ => (pe_callD D_are_places (hr.mono (by decide)) (by rfl) (pa_cons (pv 6) pa_nil)))) pa_nil)))))))) (pss_one (ps_ret pe_str)) pss_nil)
      (pss_one (ps_ret (pe_callD D_same_fault (hr.mono (by decide)) (by rfl) (pa_cons (pe_tup (pa_cons (pv 1) (pa_cons (pv 2) pa_nil))) (pa_cons (pv 5) pa_nil)))))) pss_nil)
      (pss_cons (ps_if (PW.pt (pw_or (pt_cmpR op_ne (pv 4) pe_str (nomark _)) (pw_or1 (pt_cmp (pc_notN (pe_callD D_word_error (hr.mono (by decide)) (by rfl) (pa_cons (pv 0) (pa_cons (pv 5) pa_nil)))) rfl)))) (pss_one (ps_ret pe_str)) pss_nil)
      (pss_cons (ps_set (i := 6) sc_ways_paper_error.nd rfl (.inl rfl) (pe_callD D_way_sum (hr.mono (by decide)) (by rfl) (pa_cons (pv 1) (pa_cons (pv 5) pa_nil))))
      (pss_one (ps_ret (pe_ifExp (pt_cmpR (r := rEqD K) (op_eqD hr.units) (pv 6) (pe_callD D_way_sum (hr.mono (by decide)) (by rfl) (pa_cons (pv 2) (pa_cons (pv 5) pa_nil))) (nomark _)) (pe_tup (pa_cons pe_str (pa_cons (pv 6) pa_nil))) pe_non)))))))), ?_⟩
  rintro B Q ⟨k, ⟨one, other⟩, d⟩ rfl ⟨⟨g1, g2⟩, hv⟩ q
  dsimp only at g1 g2 hv q
  have l1 := g1.1
  have l2 := g2.1
  show Ho B _ [iv k, wv one, wv other, dv d, none, none, none] []
  refine x_seq (x_if (b := pairT (fun a _ => !isStr a) d) (et_pair (et_not (et_test (ex_isTup (ex_v rfl)))) (fun ds e => et_test (ex_neI (ex_lenT (ds := ds) (ex_v (congrArg (fun d => some (dv d)) e)) rfl) ex_cI)) (fun a b e => et_not (et_test (ex_isStr (ex_ixT (ds := [a, b]) (ex_v (congrArg (fun d => some (dv d)) e)) ex_cI rfl))))) (fun hb => ?_) fun hb => ?_)
  · exact x_retD q (wv_of (x := .str "form") ex_cS (form_err hb).symm)
  · obtain ⟨a, told, rfl, hs⟩ := pair_no hb
    obtain ⟨s, rfl⟩ := str_no hs
    refine x_next (nxt (x_seq (x_asg (ex_v rfl) gt_tup2 ?_)))
    refine x_sq (x_if (et_test (ex_eqS (ex_v rfl) ex_cS)) (fun hb => ?_) fun hb => ?_)
    · have hs : s = "same" := of_decide_eq_true hb
      subst hs
      rw [paper_same] at q
      refine x_seq (x_if (b := pairT (fun a b => !(isRow 9 8 a && isRow 9 8 b)) told) (et_pair (et_not (et_test (ex_isTup (ex_v rfl)))) (fun ds e => et_test (ex_neI (ex_lenT (ds := ds) (ex_v (congrArg (fun d => some (dv d)) e)) rfl) ex_cI)) (fun a b e => et_not (et_test (ex_boolE (ex_allB (bs := [isRow 9 8 a, isRow 9 8 b]) (ex_is (ex_frz (en_lcTP (xs := [a, b]) (fun _ => true) (fun d => .bool (isRow 9 8 d)) (fun d => [iv k, wv one, wv other, dv (.tuple [.str "same", .tuple [a, b]]), dv (.str "same"), dv (.tuple [a, b]), some (.d d)]) (ex_v (congrArg (fun d => some (dv d)) e)) (by show 2 ≤ 90000; decide) (gw_name (by simp)) (fun d hd => ?_) (fun d hd m => et_yes) (fun d hd _ m => ex_areP (ex_v rfl)))) rfl) .d) (by show (isRow 9 8 a && (isRow 9 8 b && true)) = _; rw [Bool.and_true]))))) (fun hb => ?_) fun hb => ?_)
      · subst e
        exact gt_name
      · exact x_retD q (wv_of (x := .str "form") ex_cS (rows_err hb (fun a b h => by rw [Bool.not_eq_true'] at h; exact h)).symm)
      · obtain ⟨a, b, rfl, hr⟩ := pair_no hb
        have hr : (isRow 9 8 a && isRow 9 8 b) = true := by simpa using hr
        have hr2 := hr
        rw [Bool.and_eq_true] at hr2
        obtain ⟨ra, rfl, _⟩ := isRow_ex hr2.1
        obtain ⟨rb, rfl, _⟩ := isRow_ex hr2.2
        refine x_next (nxt (x_retD q (w_callD (wa_x (ex_tup (ds := [wayD one, wayD other]) (ea_cons (ex_v rfl) (ea_cons (ex_v rfl) ea_nil)) (Nat.le_of_ble_eq_true rfl)) (wa_x (ex_v rfl) (wa_nil ⟨((one, other), ra, rb), rfl, ⟨by show one.length ≤ 5000; omega, by show other.length ≤ 5000; omega⟩, fun x hx => ?_⟩))))))
        rw [hx]
        show sameErr one other ra rb = (if (isRow 9 8 (ti ra) && isRow 9 8 (ti rb)) = true then sameErr one other (intsL (ti ra)) (intsL (ti rb)) else .str "form")
        rw [if_pos hr, ints_ti, ints_ti]
    · have hs : s ≠ "same" := of_decide_eq_false hb
      by_cases hw : s = "word"
      · subst hw
        rw [paper_word] at q
        refine x_next (nxt (x_seq (x_if (b := !isRow k 16 told) (et_is (et_or (b := false) (c := !isRow k 16 told) (et_is (et_test (ex_neS (ex_v rfl) ex_cS)) rfl) (fun _ => et_is (et_test (ex_notN (ex_wordE (ex_v rfl) (ex_v rfl) (fun ds e => hv _ _ (by rw [e]))))) (by rw [wordErr_none])) (fun h => nomatch h)) rfl) (fun hb => ?_) fun hb => ?_)))
        · exact x_retD q (wv_of (x := .str "form") ex_cS (by rw [if_neg (by simpa using hb)]))
        · have hr : isRow k 16 told = true := by simpa using hb
          rw [if_pos hr] at q
          obtain ⟨l, rfl, hl, _⟩ := isRow_ex hr
          rw [ints_ti] at q
          have w1 := g1.ws (by decide) (by decide) (word := l) (by omega)
          have w2 := g2.ws (by decide) (by decide) (word := l) (by omega)
          refine x_next (nxt (x_seq (x_set (a := .d (wsD (one, l))) (ex_wsum (ex_v rfl) (ex_v rfl) w1) ?_)))
          refine nxt (x_retD q (wv_of (x := alikeErr one other l) (ex_if (L2 := []) (b := PyData.eqv (wsD (one, l)) (wsD (other, l))) (et_test (ex_eqD (ex_v rfl) (ex_wsum (ex_v rfl) (ex_v rfl) w2) rfl rfl)) (fun h => ?_) fun h => ?_) rfl))
          · unfold alikeErr
            rw [if_pos h]
            exact ex_tup (ds := [.str "alike", wsD (one, l)]) (ea_cons ex_cS (ea_cons (ex_v rfl) ea_nil)) (Nat.le_of_ble_eq_true rfl)
          · unfold alikeErr
            rw [if_neg (by rw [h]; decide)]
            exact ex_cN
      · rw [paper_other hs hw] at q
        refine x_next (nxt (x_seq (x_if (b := true) (et_is (et_or (b := true) (c := true) (et_is (et_test (ex_neS (ex_v rfl) ex_cS)) (by rw [decide_eq_false hw]; rfl)) (fun h => nomatch h) (fun _ => rfl)) rfl) (fun hb => ?_) fun hb => nomatch hb)))
        exact x_retD q (wv_of (x := .str "form") ex_cS rfl)
end K88

/-! ## G6 -/
set_option Elab.async false
set_option linter.all false
set_option maxRecDepth 100000
set_option maxHeartbeats 4000000
set_option autoImplicit false
namespace K88
open PySem L2 Fz K80 Ways
variable {P : Program} {w : World} {K : PySem.W.Frag} {mg : Str → Option Value} {base : Heap} {f : Addr} {fd : FuncData}
/-- the pair of ways, i of them read, the next at u -/
def leftW (w0 w1 : Way) (r0 r1 : List Int) (i : Nat) (u : Way) : List PyData := (List.range 2).map fun j => wayD (if j < i then outW (pairN w0 w1 j) (pairN r0 r1 j) else if j = i then u else pairN w0 w1 j)
theorem left_at {w0 w1 u : Way} {r0 r1 : List Int} {i : Nat} (hi : i < 2) : (leftW w0 w1 r0 r1 i u)[i]? = some (wayD u) := by
  unfold leftW
  rw [List.getElem?_map, List.getElem?_range hi]
  show some (wayD (if i < i then _ else if i = i then u else _)) = _
  rw [if_neg (by omega), if_pos rfl]
theorem left_set {w0 w1 u x : Way} {r0 r1 : List Int} {i : Nat} (hi : i < 2) : (leftW w0 w1 r0 r1 i u).set i (wayD x) = leftW w0 w1 r0 r1 i x := by
  match i, hi with
  | 0, _ => rfl
  | 1, _ => rfl
theorem left_next {w0 w1 u : Way} {r0 r1 : List Int} {i : Nat} (hi : i < 2) (ho : outW (pairN w0 w1 i) (pairN r0 r1 i) = u) : leftW w0 w1 r0 r1 i u = leftW w0 w1 r0 r1 (i + 1) (pairN w0 w1 (i + 1)) := by
  subst ho
  match i, hi with
  | 0, _ => rfl
  | 1, _ => rfl
abbrev S_law_due (K : PySem.W.Frag) : Sp := S_ways_paper_error K
theorem okd_law_due (Fn : Fun K "_law_due" "_law_due" s_law_due f fd) (T : Bt P mg base) (D_law_sum : Df P w K mg base 42 "_law_sum" ["way", "word"] (S_law_sum K)) (D_law_is_row : Df P w K mg base 41 "_law_is_row" ["value", "below", "most"] (S_law_is_row K)) (D_law_put : Df P w K mg base 41 "_law_put" ["way", "at"] (S_law_put K)) (D_law_places : Df P w K mg base 41 "_law_places" ["way"] (S_law_places K)) : FnOk P w K mg base CX0 43 f fd ["k", "one", "other", "value"] (S_law_due K) := by
  refine fn_D Fn sc_law_due (by decide) (fun _ => rfl) fun cdv A outer s H E hr => ⟨_, (pss_cons (ps_if (PW.pt (pw_or (pt_not (pt_val (pe_callB (r := rIsi K) call_isi (by rfl) T.n_isinstance (by decide +kernel) (pa_cons (pv 3) (pa_cons (pe_bltn (v := .ty "tuple") (u := .type "tuple") rfl T.n_tuple (by decide +kernel) rfl) pa_nil))))) (pw_or (pt_cmpR op_ne (pe_callB (r := Evl.rLenS K) call_len_seq (by rfl) T.n_len (by decide +kernel) (pa_cons (pv 3) pa_nil)) pe_int (nomark _)) (pw_or1 (pt_not (pt_val (pe_callB (r := rIsi K) call_isi (by rfl) T.n_isinstance (by decide +kernel) (pa_cons (pe_ix (r := rIxT K) ix_tup (pv 3) pe_int (fun _ _ => rfl)) (pa_cons (pe_bltn (v := .ty "str") (u := .type "str") rfl T.n_str (by decide +kernel) rfl) pa_nil))))))))) (pss_one (ps_ret pe_str)) pss_nil)
      (pss_cons (ps_if (pt_cmpR op_eq (pe_ix (r := rIxT K) ix_tup (pv 3) pe_int (fun _ _ => rfl)) pe_str (nomark _)) (pss_cons (ps_if (PW.pt (pw_or (pt_not (pt_val (pe_callB (r := rIsi K) call_isi (by rfl) T.n_isinstance (by decide +kernel) (pa_cons (pe_ix (r := rIxT K) ix_tup (pv 3) pe_int (fun _ _ => rfl)) (pa_cons (pe_bltn (v := .ty "tuple") (u := .type "tuple") rfl T.n_tuple (by decide +kernel) rfl) pa_nil))))) (pw_or1 (pt_cmpR op_ne (pe_callB (r := Evl.rLenS K) call_len_seq (by rfl) T.n_len (by decide +kernel) (pa_cons (pe_ix (r := rIxT K) ix_tup (pv 3) pe_int (fun _ _ => rfl)) pa_nil)) pe_int (nomark _))))) (pss_one (ps_ret pe_str)) pss_nil)
      (pss_cons (ps_if (pt_not (pt_val (pe_callB (r := rAll K) (cr_all rfl) (by rfl) T.n_all (by decide +kernel) (pa_cons (pe_lc (own := [("row", 9)]) rfl sc_law_due.nd (pi_tup (pe_ix (r := rIxT K) ix_tup (pv 3) pe_int (fun _ _ => rfl))) (blkOk_by (own := [("row", 9)]) (N := ["k", "one", "other", "value", "told", "left", "s", "n", "place", "row"]) (sc := defScope s_law_due) (by decide +kernel)) (fun _ _ _ _ _ => (pg_name (i := 9) sc_law_due.nd rfl (Or.inl rfl))) (fun _ _ _ _ _ => pts_nil) (fun _ _ _ _ _ => (pe_callD D_law_is_row (hr.mono (by decide)) (by rfl) (pa_cons (pv 9) (pa_cons pe_int (pa_cons pe_int pa_nil)))))) pa_nil)))) (pss_one (ps_ret pe_str)) pss_nil)
      (pss_cons (ps_set (i := 5) sc_law_due.nd rfl (.inl rfl) (pe_lst (pa_cons (pv 1) (pa_cons (pv 2) pa_nil))))
      (pss_cons (ps_for PassesOwn.never rfl (pi_range1 (by rfl) T.n_range (pa_cons pe_int pa_nil)) (pg_name (i := 6) sc_law_due.nd rfl (Or.inl rfl)) (pss_one (ps_for PassesOwn.never rfl (pi_enumT (by rfl) T.n_enumerate (pa_cons (pe_ix (r := rIxT K) ix_tup (pe_ix (r := rIxT K) ix_tup (pv 3) pe_int (fun _ _ => rfl)) (pv 6) (fun _ _ => rfl)) pa_nil)) (pg_tup rfl (pgs_cons (pg_name (i := 7) sc_law_due.nd rfl (Or.inl rfl)) (pgs_cons (pg_name (i := 8) sc_law_due.nd rfl (Or.inl rfl)) pgs_nil))) (pss_cons (ps_if (pt_cmpR (r := rIn K true) op_notIn_seq (pv 8) (pe_callD D_law_places (hr.mono (by decide)) (by rfl) (pa_cons (pe_ix (r := rIxL K) ix_list (pv 5) (pv 6) (fun _ _ => rfl)) pa_nil)) (by with_unfolding_all rfl)) (pss_one (ps_ret (pe_tup (pa_cons pe_str (pa_cons (pv 6) (pa_cons (pv 7) pa_nil)))))) pss_nil)
      (pss_one (ps_asg (pe_callD D_law_put (hr.mono (by decide)) (by rfl) (pa_cons (pe_ix (r := rIxL K) ix_list (pv 5) (pv 6) (fun _ _ => rfl)) (pa_cons (pv 8) pa_nil))) (pg_sub (pv 5) (pv 6) set_list)))))))
      (pss_one (ps_ret (pe_ifExp (pt_cmpR (r := rEqD K) (op_eqD hr.units) (pe_ix (r := rIxL K) ix_list (pv 5) pe_int (fun _ _ => rfl)) (pe_ix (r := rIxL K) ix_list (pv 5) pe_int (fun _ _ => rfl)) (nomark _)) pe_non (pe_tup (pa_cons pe_str (pa_cons (pe_ix (r := rIxL K) ix_list (pv 5) pe_int (fun _ _ => rfl)) (pa_cons (pe_ix (r := rIxL K) ix_list (pv 5) pe_int (fun _ _ => rfl)) pa_nil))))))))))) pss_nil)
      (pss_cons (ps_if (PW.pt (pw_or (pt_cmpR op_ne (pe_ix (r := rIxT K) ix_tup (pv 3) pe_int (fun _ _ => rfl)) pe_str (nomark _)) (pw_or1 (pt_not (pt_val (pe_callD D_law_is_row (hr.mono (by decide)) (by rfl) (pa_cons (pe_ix (r := rIxT K) ix_tup (pv 3) pe_int (fun _ _ => rfl)) (pa_cons (pv 0) (pa_cons pe_int pa_nil))))))))) (pss_one (ps_ret pe_str)) pss_nil)
      (pss_cons (ps_set (i := 4) sc_law_due.nd rfl (.inl rfl) (pe_callD D_law_sum (hr.mono (by decide)) (by rfl) (pa_cons (pv 1) (pa_cons (pe_ix (r := rIxT K) ix_tup (pv 3) pe_int (fun _ _ => rfl)) pa_nil))))
      (pss_one (ps_ret (pe_ifExp (pt_cmpR (r := rEqD K) (op_eqD hr.units) (pv 4) (pe_callD D_law_sum (hr.mono (by decide)) (by rfl) (pa_cons (pv 2) (pa_cons (pe_ix (r := rIxT K) ix_tup (pv 3) pe_int (fun _ _ => rfl)) pa_nil))) (nomark _)) (pe_tup (pa_cons pe_str (pa_cons (pv 4) pa_nil))) pe_non))))))), ?_⟩
  rintro B Q ⟨k, ⟨one, other⟩, d⟩ rfl ⟨⟨g1, g2⟩, hv⟩ q
  dsimp only at g1 g2 hv q
  have l1 := g1.1
  have l2 := g2.1
  show Ho B _ [iv k, wv one, wv other, dv d, none, none, none, none, none, none] []
  refine x_seq (x_if (b := pairT (fun a _ => !isStr a) d) (et_pair (et_not (et_test (ex_isTup (ex_v rfl)))) (fun ds e => et_test (ex_neI (ex_lenT (ds := ds) (ex_v (congrArg (fun d => some (dv d)) e)) rfl) ex_cI)) (fun a b e => et_not (et_test (ex_isStr (ex_ixT (ds := [a, b]) (ex_v (congrArg (fun d => some (dv d)) e)) ex_cI rfl))))) (fun hb => ?_) fun hb => ?_)
  · exact x_retD q (wv_of (x := .str "form") ex_cS (form_err hb).symm)
  · obtain ⟨a, told, rfl, hs⟩ := pair_no hb
    obtain ⟨s, rfl⟩ := str_no hs
    have v0 : ∀ {ε : Eps} {L : Own}, ε[3]? = some (dv (.tuple [.str s, told])) → EX B (tOp (rIxT B.K) (tVar 3) (tC (.int 0))) ε L (.d (.str s)) L := fun h => ex_ixT (ds := [.str s, told]) (ex_v h) ex_cI rfl
    have v1 : ∀ {ε : Eps} {L : Own}, ε[3]? = some (dv (.tuple [.str s, told])) → EX B (tOp (rIxT B.K) (tVar 3) (tC (.int 1))) ε L (.d told) L := fun h => ex_ixT (ds := [.str s, told]) (ex_v h) ex_cI rfl
    refine x_next (nxt (x_seq (x_if (et_test (ex_eqS (v0 rfl) ex_cS)) (fun hb => ?_) fun hb => ?_)))
    · have hs : s = "same" := of_decide_eq_true hb
      subst hs
      rw [paper_same] at q
      refine x_seq (x_if (b := pairT (fun _ _ => false) told) (et_two (et_not (et_test (ex_isTup (v1 rfl)))) (fun ds e => et_test (ex_neI (ex_lenT (ds := ds) (ex_is (v1 rfl) (congrArg AD.d e)) rfl) ex_cI))) (fun hb => ?_) fun hb => ?_)
      · exact x_retD q (wv_of (x := .str "form") ex_cS (rows_err hb (fun a b h => nomatch h)).symm)
      · obtain ⟨a, b, rfl, _⟩ := pair_no hb
        refine x_next (nxt (x_seq (x_if (b := !(isRow 9 8 a && isRow 9 8 b)) (et_not (et_test (ex_boolE (ex_allB (bs := [isRow 9 8 a, isRow 9 8 b]) (ex_is (ex_frz (en_lcTP (xs := [a, b]) (fun _ => true) (fun d => .bool (isRow 9 8 d)) (fun d => [iv k, wv one, wv other, dv (.tuple [.str "same", .tuple [a, b]]), none, none, none, none, none, some (.d d)]) (v1 rfl) (by show 2 ≤ 90000; decide) (gw_name (by simp)) (fun d hd => gt_name) (fun d hd m => et_yes) (fun d hd _ m => ex_isRow (most := 8) (ex_v rfl) ex_cI ex_cI rfl (by decide)))) rfl) .d) (by show (isRow 9 8 a && (isRow 9 8 b && true)) = _; rw [Bool.and_true])))) (fun hb => ?_) fun hb => ?_)))
        · refine x_retD q (wv_of (x := .str "form") ex_cS ?_)
          show _ = if (isRow 9 8 a && isRow 9 8 b) = true then _ else _
          rw [Bool.not_eq_true'] at hb
          rw [if_neg (by rw [hb]; decide)]
        · have hr : (isRow 9 8 a && isRow 9 8 b) = true := by simpa using hb
          have hr2 := hr
          rw [Bool.and_eq_true] at hr2
          obtain ⟨r0, rfl, _⟩ := isRow_ex hr2.1
          obtain ⟨r1, rfl, _⟩ := isRow_ex hr2.2
          have hq : rowsErr one other (.tuple [ti r0, ti r1]) = sameErr one other r0 r1 := by
            show (if (isRow 9 8 (ti r0) && isRow 9 8 (ti r1)) = true then sameErr one other (intsL (ti r0)) (intsL (ti r1)) else .str "form") = _
            rw [if_pos hr, ints_ti, ints_ti]
          rw [hq] at q
          have hlw : ∀ i, (pairN one other i).length ≤ 5000 := fun i => by unfold pairN; split <;> omega
          refine x_next (nxt (x_seq (x_setN (en_lst (ds := [wayD one, wayD other]) (ea_cons (ex_v rfl) (ea_cons (ex_v rfl) ea_nil)) (Nat.le_of_ble_eq_true rfl)) fun p hp => ?_)))
          refine x_sq (x_forR1 (n := 2) (ea_cons ex_cI ea_nil) (by decide) (fun i ε L => (∀ j, j < i → runRow (pairN one other j) (pairN r0 r1 j) 0 = .inl (outW (pairN one other j) (pairN r0 r1 j))) ∧ ε = [iv k, wv one, wv other, dv (.tuple [.str "same", .tuple [ti r0, ti r1]]), none, some (.v (.ref p)), none, none, none, none] ∧ L = [.lst p (leftW one other r0 r1 i (pairN one other i))]) ⟨(fun j h => by omega), rfl, rfl⟩ ?_ ?_)
          · rintro i ε' L' hi ⟨ok, rfl, rfl⟩
            have hi : i < 2 := by omega
            have hlen := hlw i
            have exr : EX B (tOp (rIxT B.K) (tOp (rIxT B.K) (tVar 3) (tC (.int 1))) (tVar 6)) [iv k, wv one, wv other, dv (.tuple [.str "same", .tuple [ti r0, ti r1]]), none, some (.v (.ref p)), iv (i : Int), none, none, none] [.lst p (leftW one other r0 r1 i (pairN one other i))] (.d (ti (pairN r0 r1 i))) [.lst p (leftW one other r0 r1 i (pairN one other i))] := ex_ixT (ds := [ti r0, ti r1]) (v1 rfl) (ex_v rfl) (by
              match i, hi with
              | 0, _ => rfl
              | 1, _ => rfl)
            refine x_forET (ds := (pairN r0 r1 i).map PyData.int) (ea_cons exr ea_nil) (fun z n ε L => ∃ x : Way, x.length ≤ 5000 ∧ runRow (pairN one other i) (pairN r0 r1 i) 0 = runRow x ((pairN r0 r1 i).drop n) n ∧ ε = [iv k, wv one, wv other, dv (.tuple [.str "same", .tuple [ti r0, ti r1]]), none, some (.v (.ref p)), iv (i : Int), none, none, none] ∧ L = [.lst p (leftW one other r0 r1 i x), .know z (ti (pairN r0 r1 i))]) (fun z => ⟨pairN one other i, hlen, rfl, rfl, rfl⟩) (fun z n ε' L' ⟨_, _, _, _, h⟩ => by rw [h]; simp [ti]) ?_ ?_
            · rintro z n d ε' L' hd ⟨x, hx, hr, rfl, rfl⟩
              obtain ⟨pc, hp2, rfl⟩ := ti_at hd
              rw [drop_at hp2, run_cons] at hr
              refine ⟨_, gt_tup2 (d := .int (n : Int)) (e := .int pc), ?_⟩
              have exl : ∀ {L : Own}, L = [.lst p (leftW one other r0 r1 i x), .know z (ti (pairN r0 r1 i))] → EX B (tOp (rIxL B.K) (tVar 5) (tVar 6)) [iv k, wv one, wv other, dv (.tuple [.str "same", .tuple [ti r0, ti r1]]), none, some (.v (.ref p)), iv (i : Int), iv (n : Int), iv pc, none] L (.d (wayD x)) L := fun h => by
                subst h
                exact ex_ixL (ds := leftW one other r0 r1 i x) (ex_v rfl) (ex_v rfl) (.o (k := 0) rfl) (atI_nat (left_at hi))
              refine x_seq (x_if (b := !hasPlace x pc) (et_is (et_test (ex_ninL (ns := pl x) (ex_v rfl) (ex_like (v := x) (exl rfl) hx) .d)) (by rw [has_any])) (fun hb => ?_) fun hb => ?_)
              · have hn : hasPlace x pc = false := by simpa using hb
                rw [hn, if_neg (by decide)] at hr
                refine x_retD q (wv_of (x := placeD i n) (ex_tup (ds := [.str "place", .int (i : Int), .int (n : Int)]) (ea_cons ex_cS (ea_cons (ex_v rfl) (ea_cons (ex_v rfl) ea_nil))) (Nat.le_of_ble_eq_true rfl)) (same_fail hi ok hr).symm)
              · have hn : hasPlace x pc = true := by simpa using hb
                rw [hn, if_pos rfl] at hr
                obtain ⟨j, rfl, hj⟩ := has_inv hn
                obtain ⟨h1, h2⟩ := mem_places hj
                have := put_len h1
                rw [Int.toNat_natCast] at hr
                refine x_next (nxt (x_setIx (k := 0) (j := i) (ds := leftW one other r0 r1 i x) (d := wayD (putW x j)) (ex_put (exl rfl) (ex_v rfl) ⟨hx, h1⟩) (ex_v rfl) (ex_v rfl) rfl ?_ (nxt (x_end ⟨putW x j, by omega, hr, rfl, ?_⟩))))
                · match i, hi with
                  | 0, _ => rfl
                  | 1, _ => rfl
                · show [MO.lst p ((leftW one other r0 r1 i x).set i (wayD (putW x j))), _] = _
                  rw [left_set hi]
            · rintro z ε' L' ⟨x, hx, hr, rfl, rfl⟩
              rw [List.length_map, List.drop_length] at hr
              have hr : runRow (pairN one other i) (pairN r0 r1 i) 0 = .inl x := hr
              have ho : outW (pairN one other i) (pairN r0 r1 i) = x := by unfold outW; rw [hr]
              refine nxt (ho_drop (k := 1) ?_ rfl (fun p hp => nomatch hp))
              refine x_end ⟨?_, rfl, ?_⟩
              · intro j hlt
                by_cases c : j < i
                · exact ok j c
                · have e : j = i := by omega
                  rw [e, ho]; exact hr
              · rw [← left_next hi ho]; rfl
          · rintro ε' L' ⟨ok, rfl, rfl⟩
            have hd := same_done (w0 := one) (w1 := other) (r0 := r0) (r1 := r1) ok
            show Ho B _ [iv k, wv one, wv other, dv (.tuple [.str "same", .tuple [ti r0, ti r1]]), none, some (.v (.ref p)), none, none, none, none] [.lst p [wayD (outW one r0), wayD (outW other r1)]]
            generalize outW one r0 = x at *
            generalize outW other r1 = y at *
            have i0 : ∀ ε : Eps, ε[5]? = some (some (.v (.ref p))) → EX B (tOp (rIxL B.K) (tVar 5) (tC (.int 0))) ε [.lst p [wayD x, wayD y]] (.d (wayD x)) [.lst p [wayD x, wayD y]] := fun ε h => ex_ixL (ds := [wayD x, wayD y]) (ex_v h) ex_cI (.o (k := 0) rfl) rfl
            have i1 : ∀ ε : Eps, ε[5]? = some (some (.v (.ref p))) → EX B (tOp (rIxL B.K) (tVar 5) (tC (.int 1))) ε [.lst p [wayD x, wayD y]] (.d (wayD y)) [.lst p [wayD x, wayD y]] := fun ε h => ex_ixL (ds := [wayD x, wayD y]) (ex_v h) ex_cI (.o (k := 0) rfl) rfl
            refine nxt (x_retD q (wv_of (x := if x = y then .none else .tuple [.str "ways", wayD x, wayD y]) (ex_if (L2 := [.lst p [wayD x, wayD y]]) (b := decide (x = y)) (et_test (ex_boolE (ex_eqD (i0 _ rfl) (i1 _ rfl) (shaped_way x) (shaped_way y)) (by rw [eq_way]))) (fun h => ?_) fun h => ?_) hd.symm))
            · rw [if_pos (by simpa using h)]
              exact ex_cN
            · rw [if_neg (by simpa using h)]
              exact ex_tup (ds := [.str "ways", wayD x, wayD y]) (ea_cons ex_cS (ea_cons (i0 _ rfl) (ea_cons (i1 _ rfl) ea_nil))) (Nat.le_of_ble_eq_true rfl)
    · have hs : s ≠ "same" := of_decide_eq_false hb
      by_cases hw : s = "word"
      · subst hw
        rw [paper_word] at q
        refine x_next (nxt (x_seq (x_if (b := !isRow k 16 told) (et_is (et_or (b := false) (c := !isRow k 16 told) (et_is (et_test (ex_neS (v0 rfl) ex_cS)) rfl) (fun _ => et_not (et_test (ex_isRow (most := 16) (v1 rfl) (ex_v rfl) ex_cI rfl (by decide)))) (fun h => nomatch h)) rfl) (fun hb => ?_) fun hb => ?_)))
        · exact x_retD q (wv_of (x := .str "form") ex_cS (by rw [if_neg (by simpa using hb)]))
        · have hr : isRow k 16 told = true := by simpa using hb
          rw [if_pos hr] at q
          obtain ⟨l, rfl, hl, _⟩ := isRow_ex hr
          rw [ints_ti] at q
          have w1 := g1.ws (by decide) (by decide) (word := l) (by omega)
          have w2 := g2.ws (by decide) (by decide) (word := l) (by omega)
          refine x_next (nxt (x_seq (x_set (a := .d (wsD (one, l))) (ex_wsum (ex_v rfl) (v1 rfl) w1) ?_)))
          refine nxt (x_retD q (wv_of (x := alikeErr one other l) (ex_if (L2 := []) (b := PyData.eqv (wsD (one, l)) (wsD (other, l))) (et_test (ex_eqD (ex_v rfl) (ex_wsum (ex_v rfl) (v1 rfl) w2) rfl rfl)) (fun h => ?_) fun h => ?_) rfl))
          · unfold alikeErr
            rw [if_pos h]
            exact ex_tup (ds := [.str "alike", wsD (one, l)]) (ea_cons ex_cS (ea_cons (ex_v rfl) ea_nil)) (Nat.le_of_ble_eq_true rfl)
          · unfold alikeErr
            rw [if_neg (by rw [h]; decide)]
            exact ex_cN
      · rw [paper_other hs hw] at q
        refine x_next (nxt (x_seq (x_if (b := true) (et_is (et_or (b := true) (c := true) (et_is (et_test (ex_neS (v0 rfl) ex_cS)) (by rw [decide_eq_false hw]; rfl)) (fun h => nomatch h) (fun _ => rfl)) rfl) (fun hb => ?_) fun hb => nomatch hb)))
        exact x_retD q (wv_of (x := .str "form") ex_cS rfl)
end K88

/-! ## G7 -/
set_option Elab.async false
set_option linter.all false
set_option maxRecDepth 100000
set_option maxHeartbeats 4000000
set_option autoImplicit false
namespace K88
open PySem L2 Fz K80 Ways
variable {P : Program} {w : World} {K : PySem.W.Frag} {mg : Str → Option Value} {base : Heap} {f : Addr} {fd : FuncData}
/-! ### what may be shown -/
theorem nice_fr {t b : Int} (h1 : Bd 1920 t) (h2 : Bd 1920 b) : Nice 1 2 (frD t b) := nice_ints (l := [t / (Int.gcd t b : Int), b / (Int.gcd t b : Int)]) (fun x hx => by
  simp only [List.mem_cons, List.not_mem_nil, or_false] at hx
  rcases hx with e | e
  · rw [e]; exact h1.div
  · rw [e]; exact h2.div) (Nat.le_refl _)
theorem ws_nice {v : Way} {word : List Int} (ht : Ways.tot v ≤ 2 ^ 30) (hw : word.length ≤ 17) : Nice 1 2 (wsD (v, word)) := by
  refine nice_fr ?_ ((fac_bd (n := word.length) (by omega)).mono (by omega))
  have h1 := rowF_le word v word.length
  have h2 : Ways.tot v ^ word.length ≤ (2 ^ 30) ^ word.length := Nat.pow_le_pow_left ht _
  have h3 : (2 ^ 30) ^ word.length ≤ (2 ^ 30) ^ 17 := Nat.pow_le_pow_right (by decide) hw
  have h4 : (2 ^ 30) ^ 17 < 2 ^ 1920 := by rw [← Nat.pow_mul]; exact Nat.pow_lt_pow_right (by decide) (by decide)
  unfold Bd
  show (rowF word v word.length).natAbs < 2 ^ 1920
  omega
theorem GW.tot8 {lb : Int} {v : Way} (h : GW lb 8 (2 ^ 20) v) : Ways.tot v ≤ 2 ^ 30 := Nat.le_trans h.tot (by decide)
theorem nice_str {s : Str} {k m : Nat} (h : (PyData.str s).leavesShort 700 = true := by decide +kernel) (h2 : (PyData.str s).canLay0 = true := by decide +kernel) (h3 : (PyData.str s).bulk ≤ m := by decide +kernel) : Nice k m (.str s) := ⟨rfl, rfl, Nat.zero_le _, h, h3, h2⟩
def JOk (d : PyData) : Prop := VL d ∧ d.showable = true ∧ repOk d = true ∧ d.depth ≤ 64 ∧ d.shown.length ≤ sizeLine
theorem JOk.of {k m : Nat} {d : PyData} (h : Nice k m d) (hk : k ≤ 64) (hm : m ≤ 20000) : JOk d := by
  have s := h.show hk hm
  refine ⟨fun a ds e => ?_, s.1, by unfold repOk; rw [s.2.1]; rfl, s.2.2.1, s.2.2.2⟩
  subst e
  have hb : a.bulk + 1 + (PyData.bulkAll ds + 1 + 0) ≤ m := h.bk
  have := bulk_len ds
  omega
/-- u comes of v by putting together -/
structure LW (v u : Way) : Prop where
  len : u.length ≤ v.length
  tot : Ways.tot u ≤ Ways.tot v
  st : ∀ x ∈ u, (∃ y ∈ v, y.1 = x.1) ∧ x.2 ≠ 0
theorem LW.rfl' {lb : Int} {n c : Nat} {v : Way} (h : GW lb n c v) : LW v v := ⟨Nat.le_refl _, Nat.le_refl _, fun x hx => ⟨⟨x, hx, rfl⟩, (h.2 x hx).2.2.2⟩⟩
theorem LW.gw {lb : Int} {v u : Way} (h : LW v u) {n c : Nat} (g : GW lb n c v) : GW lb n (n * c) u :=
  ⟨Nat.le_trans h.len g.1, fun x hx => by
    obtain ⟨⟨y, hy, e⟩, hz⟩ := h.st x hx
    have := g.2 y hy
    exact ⟨e ▸ this.1, e ▸ this.2.1, Nat.le_trans (tot_ge hx) (Nat.le_trans h.tot g.tot), hz⟩⟩
theorem LW.put {v u : Way} (h : LW v u) {i : Nat} (hi : i ∈ placesW u) : LW v (putW u i) := by
  obtain ⟨h1, h2⟩ := mem_places hi
  have s := split2 h1
  have hl := put_len h1
  refine ⟨by have := h.len; omega, Nat.le_trans ?_ h.tot, fun x hx => ?_⟩
  · conv => rhs; rw [s]
    unfold putW
    rw [tot_app, tot_app, tot_app, tot_app]
    have e : Ways.tot [u.getD i (0, 0), u.getD (i + 1) (0, 0)] = (u.getD i (0, 0)).2.natAbs + ((u.getD (i + 1) (0, 0)).2.natAbs + 0) := rfl
    have e2 : Ways.tot (if bothW u i = 0 then ([] : Way) else [((u.getD i (0, 0)).1, bothW u i)]) ≤ (bothW u i).natAbs := by
      split
      · exact Nat.zero_le _
      · exact Nat.le_refl _
    have e3 : (bothW u i).natAbs ≤ (u.getD i (0, 0)).2.natAbs + (u.getD (i + 1) (0, 0)).2.natAbs := by unfold bothW; omega
    omega
  · have nz := put_nz (i := i) (fun x hx => (h.st x hx).2) x hx
    unfold putW at hx
    rcases List.mem_append.mp hx with q | q
    · rcases List.mem_append.mp q with q | q
      · exact h.st x (List.mem_of_mem_take q)
      · split at q
        · exact nomatch q
        · have hm : u.getD i (0, 0) ∈ u := by
            rw [List.getD_eq_getElem?_getD, List.getElem?_eq_getElem (by omega)]
            exact List.getElem_mem _
          have := h.st _ hm
          rw [List.mem_singleton.mp q] at nz ⊢
          exact ⟨this.1, nz⟩
    · exact h.st x (List.mem_of_mem_drop q)
theorem LW.run {v : Way} : ∀ {r : List Int} {u : Way} {n : Nat} {x : Way}, LW v u → runRow u r n = .inl x → LW v x
  | [], u, n, x, h, e => by
    have e : (.inl u : Way ⊕ Nat) = .inl x := e
    cases e
    exact h
  | p :: r, u, n, x, h, e => by
    rw [run_cons] at e
    split at e
    · rename_i hp
      obtain ⟨i, rfl, hi⟩ := has_inv hp
      exact (h.put hi).run (by rw [Int.toNat_natCast] at e; exact e)
    · exact nomatch e
theorem run_inr : ∀ {r : List Int} {u : Way} {n m : Nat}, runRow u r n = .inr m → m < n + r.length
  | [], u, n, m, e => nomatch e
  | p :: r, u, n, m, e => by
    rw [run_cons] at e
    rw [List.length_cons]
    split at e
    · have := run_inr e
      omega
    · cases e; omega
theorem place_nice {s n : Nat} (hs : s ≤ 2) (hn : n ≤ 100) : Nice 1 8 (placeD s n) :=
  nice_tup (niceL_cons (k := 0) (m := 5) (n := 2) nice_str (niceL_cons (m := 0) (n := 1) (nice_int ((Bd.of (k := 10) (n := 1000) (by omega) (by omega) (by decide)).mono (by decide))) (niceL_cons (m := 0) (n := 0) (nice_int ((Bd.of (k := 10) (n := 1000) (by omega) (by omega) (by decide)).mono (by decide))) niceL_nil)))
theorem err_nice {k : Int} {one other : Way} (g : G8 (one, other)) (d : PyData) : Nice 5 100 (paperErr k one other d) := by
  have form : Nice 5 100 (.str "form") := nice_str
  have g1 : GW 4 8 (2 ^ 20) one := g.1
  have g2 : GW 4 8 (2 ^ 20) other := g.2
  unfold paperErr
  split
  · rename_i s told
    unfold toldErr
    split
    · unfold rowsErr
      split
      · rename_i a b
        split
        · rename_i hr
          rw [Bool.and_eq_true] at hr
          obtain ⟨ea, la, _⟩ := isRow_inv hr.1
          obtain ⟨eb, lb, _⟩ := isRow_inv hr.2
          unfold sameErr
          cases h0 : runRow one (intsL a) 0 with
          | inr n =>
            have := run_inr h0
            exact (place_nice (by decide) (by omega)).mono (by decide) (by decide)
          | inl x =>
            dsimp only
            cases h1 : runRow other (intsL b) 0 with
            | inr n =>
              have := run_inr h1
              exact (place_nice (by decide) (by omega)).mono (by decide) (by decide)
            | inl y =>
              dsimp only
              have gx := ((LW.rfl' g1).run h0).gw g1
              have gy := ((LW.rfl' g2).run h1).gw g2
              split
              · exact nice_none
              · exact (nice_tup (niceL_cons (k := 2) (m := 5) (n := 50) nice_str (niceL_cons (n := 25) (gx.nice (by decide)) (niceL_cons (n := 0) (gy.nice (by decide)) niceL_nil)))).mono (by decide) (by decide)
        · exact form
      · exact form
    · split
      · split
        · rename_i hr
          obtain ⟨e, l, _⟩ := isRow_inv hr
          unfold alikeErr
          split
          · exact (nice_tup (niceL_cons (k := 1) (m := 5) (n := 3) nice_str (niceL_cons (n := 0) (ws_nice g1.tot8 (by omega)) niceL_nil))).mono (by decide) (by decide)
          · exact nice_none
        · exact form
      · exact form
  · exact form
/-! ### judged -/
theorem kwX2 {F : Hp} {zs : List V} {x y : PyData} {K : PySem.W.Frag} (h2 : AdAll K F [.d x, .d y] zs) : DqAll K F (kwG 2 [0, 1] [] zs) [x, y] := by
  match zs, h2 with
  | [a, b], h => exact .cons h.1 (.cons h.2.1 .nil)
theorem kwX4 {F : Hp} {zs : List V} {x y z u : PyData} {K : PySem.W.Frag} (h2 : AdAll K F [.d x, .d y, .d z, .d u] zs) : DqAll K F (kwG 4 [0, 1, 2, 3] [] zs) [x, y, z, u] := by
  match zs, h2 with
  | [a, b, c, d], h => exact .cons h.1 (.cons h.2.1 (.cons h.2.2.1 (.cons h.2.2.2.1 .nil)))
section
variable {B : Bg} {ε : Eps} {L La Lb Lc Ld : Own} {te ta tb tc td : TE} {E : XK} {one other : Way} {d : PyData} {k : Int}
theorem ex_sameT (h : EX B ta ε L (.d d) La) (h2 : EX B tb ε La (.d d) Lb) (s : Fz.SameOk d) : EX B (tCall (S_law_same B.K) [] E (tCons ta (tCons tb tNil))) ε L (.d (.bool true)) Lb :=
  ex_of (e := PyData.bool) fun κ k => w_callD (wa_x h (wa_x h2 (wa_nil ⟨d, rfl, s, fun x hx => hx ▸ k⟩)))
theorem ex_err (h1 : EX B ta ε L (.d (.int k)) La) (h2 : EX B tb ε La (.d (wayD one)) Lb) (h3 : EX B tc ε Lb (.d (wayD other)) Lc) (h4 : EX B td ε Lc (.d d) Ld) (hg : G8 (one, other) ∧ VL d) : EX B (tCall (S_ways_paper_error B.K) [] E (tCons ta (tCons tb (tCons tc (tCons td tNil))))) ε L (.d (paperErr k one other d)) Ld :=
  ex_of (e := eD) fun κ kk => w_callD (wa_x h1 (wa_x h2 (wa_x h3 (wa_x h4 (wa_nil ⟨(k, (one, other), d), rfl, hg, fun x hx => hx ▸ kk⟩)))))
theorem ex_errK (h1 : EX B ta ε L (.d (.int k)) La) (h2 : EX B tb ε La (.d (wayD one)) Lb) (h3 : EX B tc ε Lb (.d (wayD other)) Lc) (h4 : EX B td ε Lc (.d d) Ld) (hg : G8 (one, other) ∧ VL d) : EX B (tCallK (S_ways_paper_error B.K) (kwG 4 [0, 1, 2, 3]) E tNil (tCons ta (tCons tb (tCons tc (tCons td tNil))))) ε L (.d (paperErr k one other d)) Ld :=
  ex_of (e := eD) fun κ kk => w_callKD (wa_x h1 (wa_x h2 (wa_x h3 (wa_x h4 (wa_nil ⟨(k, (one, other), d), (fun K F zs hz => kwX4 hz), hg, fun x hx => hx ▸ kk⟩)))))
end
abbrev S_law_is_judged (K : PySem.W.Frag) : Sp := spD K (fun y : Int × (Way × Way) × PyData => [.int y.1, wayD y.2.1.1, wayD y.2.1.2, y.2.2]) (fun y => G8 y.2.1 ∧ JOk y.2.2) PyData.bool (fun _ x => x = true)
theorem okd_law_is_judged (Fn : Fun K "_law_is_judged" "_law_is_judged" s_law_is_judged f fd) (T : Bt P mg base) (D_law_due : Df P w K mg base 43 "_law_due" ["k", "one", "other", "value"] (S_law_due K)) (D_law_same : GDf P w K mg base 41 "_law_same" ["told", "due"] (S_law_same K)) (D_ways_paper_error : Df P w K mg base 45 "ways_paper_error" ["k", "one", "other", "value"] (S_ways_paper_error K)) (DK_ways_paper_error_k_one_other_value : DfK P w K mg base 45 "ways_paper_error" ["k", "one", "other", "value"] ["k", "one", "other", "value"] (kwG 4 [0, 1, 2, 3]) (kwG 4 [0, 1, 2, 3]) (S_ways_paper_error K)) : GOk P w K mg base 46 f fd ["k", "one", "other", "value"] (S_law_is_judged K) := by
  refine g_D Fn sc_law_is_judged (by decide) (fun _ => rfl) fun cdv A outer s H hr hG => ⟨_, (pss_cons (ps_par (i := 4) (j := 5) (by rfl) sc_law_is_judged.nd rfl rfl (by decide) rfl rfl (pa_cons (pe_callD D_law_due (hr.mono (by decide)) (by rfl) (pa_cons (pv 0) (pa_cons (pv 1) (pa_cons (pv 2) (pa_cons (pv 3) pa_nil))))) (pa_cons (pe_callB (r := rReprD K) (call_reprD hr hG) (by rfl) T.n_repr (by decide +kernel) (pa_cons (pv 3) pa_nil)) pa_nil)) (by rfl))
      (pss_cons (ps_if (pt_not (pt_val (pe_callG hG D_law_same (hr.mono (by decide)) (by rfl) (pa_cons (pe_callD D_ways_paper_error (hr.mono (by decide)) (by rfl) (pa_cons (pv 0) (pa_cons (pv 1) (pa_cons (pv 2) (pa_cons (pv 3) pa_nil))))) (pa_cons (pv 4) pa_nil))))) (pss_one (ps_ret pe_bl)) pss_nil)
      (pss_cons (ps_set (i := 6) sc_law_is_judged.nd rfl (.inl rfl) (pe_callKD DK_ways_paper_error_k_one_other_value (hr.mono (by decide)) (by rfl) (pk_cons (pv 0) (pk_cons (pv 1) (pk_cons (pv 2) (pk_cons (pv 3) pk_nil))))))
      (pss_one (ps_ret (pe_and (pe_callG hG D_law_same (hr.mono (by decide)) (by rfl) (pa_cons (pv 6) (pa_cons (pv 4) pa_nil))) (pe_one (pe_cmpR op_eq (pe_callB (r := rReprD K) (call_reprD hr hG) (by rfl) T.n_repr (by decide +kernel) (pa_cons (pv 3) pa_nil)) (pv 5) (nomark _))))))))), ?_⟩
  rintro B Q ⟨k, ⟨one, other⟩, d⟩ rfl ⟨hg, hv, j1, j2, j3, j4⟩ q
  dsimp only at hg hv j1 j2 j3 j4 q
  show Ho B _ [iv k, wv one, wv other, dv d, none, none, none] []
  have sm : Fz.SameOk (paperErr k one other d) := (err_nice hg d).same (by decide) (by decide)
  refine x_seq (x_par (a := .d (paperErr k one other d)) (b := .d (.str d.shown)) (ea_cons (ex_err (ex_v rfl) (ex_v rfl) (ex_v rfl) (ex_v rfl) ⟨hg, hv⟩) (ea_cons (ex_reprO (ex_v rfl) j1 j2 j3 j4) ea_nil)) ?_)
  refine x_sq (x_skip (et_noT (ex_sameT (ex_err (ex_v rfl) (ex_v rfl) (ex_v rfl) (ex_v rfl) ⟨hg, hv⟩) (ex_v rfl) sm)) ?_)
  refine x_sq (x_set (a := .d (paperErr k one other d)) (ex_errK (ex_v rfl) (ex_v rfl) (ex_v rfl) (ex_v rfl) ⟨hg, hv⟩) ?_)
  exact nxt (x_retD q (wv_of (x := true) (ex_andV (b := true) (c := true) (ex_sameT (ex_v rfl) (ex_v rfl) sm) (fun _ => ex_boolE (ex_eqS (ex_reprO (ex_v rfl) j1 j2 j3 j4) (ex_v rfl)) (decide_eq_true rfl)) (fun h => nomatch h)) rfl))
end K88

/-! ## G8 -/
set_option Elab.async false
set_option linter.all false
set_option maxRecDepth 100000
set_option maxHeartbeats 4000000
set_option autoImplicit false
namespace K88
open PySem L2 Fz K80 Ways
variable {P : Program} {w : World} {K : PySem.W.Frag} {mg : Str → Option Value} {base : Heap} {f : Addr} {fd : FuncData}
/-! ### what a paper tells -/
theorem due_none {one other : Way} (h : dueW one other = none) : redW one = redW other := by
  refine Classical.byContradiction fun hs => ?_
  have hne : redW (one ++ backW other) ≠ [] := fun h => hs (red_nil_same h)
  obtain ⟨p0, hp0, hun⟩ := unlike_rows hne
  rw [← letters_len] at hp0
  unfold dueW at h
  rw [Option.map_eq_none_iff, List.find?_eq_none] at h
  have hp0 : p0 ≤ (apartL one other).length := hp0
  have := h p0 (List.mem_range.mpr (by omega))
  unfold apartT at this
  have hun : rowF (apartL one other) one p0 ≠ rowF (apartL one other) other p0 := hun
  rw [decide_eq_false hun] at this
  exact this rfl
theorem due_same {one other : Way} (hs : redW one = redW other) : dueW one other = none := by
  have hn := red_same_nil hs
  have h0 : (List.range 1).find? (apartT one other) = none := find_no fun j hj => by
    have e : j = 0 := by omega
    rw [e]
    unfold apartT
    rw [row0, row0]; simp
  have hl : (apartL one other).length = 0 := by unfold apartL; rw [hn]; rfl
  unfold dueW
  rw [hl, h0]; rfl
theorem due_word {one other : Way} {W : List Int} (h : dueW one other = some W) : ∃ i, i ≤ (apartL one other).length ∧ W = (apartL one other).take i ∧ rowF (apartL one other) one i ≠ rowF (apartL one other) other i := by
  unfold dueW at h
  rw [Option.map_eq_some_iff] at h
  obtain ⟨i, hi, e⟩ := h
  have h1 := List.mem_of_find?_eq_some hi
  have h2 := List.find?_some hi
  have h1 := List.mem_range.mp h1
  refine ⟨i, by omega, e.symm, ?_⟩
  unfold apartT at h2
  simpa using h2
def sortW (one other : Way) : Str := if redW one = redW other then "same" else "word"
def toldD (one other : Way) : PyData := match dueW one other with
  | some W => .tuple [.str "word", ti W]
  | none => .tuple [.str "same", .tuple [ti (firstRow one.length one), ti (firstRow other.length other)]]
def LB (k : Int) (v : Way) : Prop := ∀ x ∈ v, x.1 < k
theorem apart_in {k : Int} {one other : Way} (g : G8 (one, other)) (h1 : LB k one) (h2 : LB k other) : ∀ x ∈ apartL one other, 0 ≤ x ∧ x < k := fun x hx => by
  unfold apartL lettersW at hx
  obtain ⟨y, hy, rfl⟩ := List.mem_map.mp hx
  obtain ⟨z, hz, e⟩ := red_from _ y hy
  rw [← e]
  rcases List.mem_append.mp hz with m | m
  · exact ⟨(g.1.2 z m).1, h1 z m⟩
  · unfold backW at m
    obtain ⟨u, hu, rfl⟩ := List.mem_map.mp (List.mem_reverse.mp m)
    exact ⟨(g.2.2 u hu).1, h2 u hu⟩
theorem first_row {v : Way} (h : v.length ≤ 8) : isRow 9 8 (ti (firstRow v.length v)) = true := isRow_of (Nat.le_trans (first_len _ _) h) fun x hx => by
  have := first_small _ _ x hx
  omega
theorem told_right {k : Int} {one other : Way} (g : G8 (one, other)) (h1 : LB k one) (h2 : LB k other) : ∃ t, toldD one other = .tuple [.str (sortW one other), t] ∧ paperErr k one other (.tuple [.str (sortW one other), t]) = .none ∧ JOk (.tuple [.str (sortW one other), t]) ∧ Fz.SameOk (.tuple [.str (sortW one other), t]) := by
  have bd9 : ∀ {v : Way}, v.length ≤ 8 → ∀ x ∈ firstRow v.length v, Bd 1920 x := fun hv x hx => by
    have := first_small _ _ x hx
    exact (Bd.of (k := 10) (n := 1000) (by omega) (by omega) (by decide)).mono (by decide)
  by_cases hs : redW one = redW other
  · have ed : dueW one other = none := due_same hs
    have es : sortW one other = "same" := if_pos hs
    rw [es]
    have l1 : one.length ≤ 8 := g.1.1
    have l2 : other.length ≤ 8 := g.2.1
    refine ⟨.tuple [ti (firstRow one.length one), ti (firstRow other.length other)], by unfold toldD; rw [ed], ?_, ?_⟩
    · rw [paper_same]
      show (if (isRow 9 8 (ti (firstRow one.length one)) && isRow 9 8 (ti (firstRow other.length other))) = true then sameErr one other (intsL (ti (firstRow one.length one))) (intsL (ti (firstRow other.length other))) else .str "form") = _
      rw [first_row l1, first_row l2, if_pos (by rfl), ints_ti, ints_ti]
      unfold sameErr
      rw [run_first _ _ _ (Nat.le_refl _) fun x hx => (g.1.2 x hx).2.2.2]
      dsimp only
      rw [run_first _ _ _ (Nat.le_refl _) fun x hx => (g.2.2 x hx).2.2.2]
      dsimp only
      rw [if_pos hs]
    · have n1 : Nice 1 8 (ti (firstRow one.length one)) := nice_ints (bd9 l1) (Nat.le_trans (first_len _ _) l1)
      have n2 : Nice 1 8 (ti (firstRow other.length other)) := nice_ints (bd9 l2) (Nat.le_trans (first_len _ _) l2)
      have n : Nice 3 100 (.tuple [.str "same", .tuple [ti (firstRow one.length one), ti (firstRow other.length other)]]) := (nice_tup (niceL_cons (k := 2) (m := 5) (n := 19) nice_str (niceL_cons (m := 18) (n := 0) (nice_tup (niceL_cons (n := 9) n1 (niceL_cons (n := 0) n2 niceL_nil))) niceL_nil))).mono (by decide) (by decide)
      exact ⟨JOk.of n (by decide) (by decide), n.same (by decide) (by decide)⟩
  · have es : sortW one other = "word" := if_neg hs
    rw [es]
    cases ed : dueW one other with
    | none => exact absurd (due_none ed) hs
    | some W =>
      obtain ⟨i, hi, hW, hne⟩ := due_word ed
      have hin := apart_in g h1 h2
      have hal := apartL_len g
      have hb : ∀ x ∈ W, 0 ≤ x ∧ x < k := fun x hx => hin x (List.mem_of_mem_take (hW ▸ hx))
      have hl : W.length ≤ 16 := by rw [hW, List.length_take]; omega
      have hr : isRow k 16 (ti W) = true := isRow_of hl hb
      refine ⟨ti W, by unfold toldD; rw [ed], ?_, ?_⟩
      · rw [paper_word, if_pos hr, ints_ti]
        unfold alikeErr
        have e := ws_eqv (one := one) (other := other) (W := apartL one other) hi
        rw [hW, e, decide_eq_false hne, if_neg (by decide)]
      · have g4 : ∀ x ∈ W, Bd 1920 x := fun x hx => by
          have h3 := apart_in (k := 4) g (fun x hx => (g.1.2 x hx).2.1) (fun x hx => (g.2.2 x hx).2.1) x (List.mem_of_mem_take (hW ▸ hx))
          exact (Bd.of (k := 10) (n := 1000) (by omega) (by omega) (by decide)).mono (by decide)
        have n1 : Nice 1 16 (ti W) := nice_ints g4 hl
        have n : Nice 3 100 (.tuple [.str "word", ti W]) := (nice_tup (niceL_cons (k := 1) (m := 5) (n := 17) nice_str (niceL_cons (n := 0) n1 niceL_nil))).mono (by decide) (by decide)
        exact ⟨JOk.of n (by decide) (by decide), n.same (by decide) (by decide)⟩
section
variable {B : Bg} {ε : Eps} {L La Lb Lc Ld : Own} {te ta tb tc td : TE} {E : XK} {one other v : Way} {d : PyData} {k : Int}
theorem ex_ptog (h : EX B te ε L (.d (wayD v)) La) (hl : v.length ≤ 5000) : EX B (tCall (S_places_together B.K) [] E (tCons te tNil)) ε L (.d (ti (firstRow v.length v))) La :=
  ex_of (e := ti) fun κ k => w_callD (wa_x h (wa_nil ⟨v, rfl, hl, fun x hx => hx ▸ k⟩))
theorem ex_apartW (h1 : EX B ta ε L (.d (wayD one)) La) (h2 : EX B tb ε La (.d (wayD other)) Lb) (hg : G8 (one, other)) : EX B (tCall (S_apart_ways_word B.K) [] E (tCons ta (tCons tb tNil))) ε L (.d (wordO (dueW one other))) Lb :=
  ex_of (e := wordO) fun κ kk => w_callD (wa_x h1 (wa_x h2 (wa_nil ⟨(one, other), rfl, hg, fun x hx => hx ▸ kk⟩)))
end
abbrev S_ways_paper (K : PySem.W.Frag) : Sp := spD K (fun y : Way × Way => [wayD y.1, wayD y.2]) G8 eD (fun y x => x = toldD y.1 y.2)
theorem okd_ways_paper (Fn : Fun K "ways_paper" "ways_paper" s_ways_paper f fd) (T : Bt P mg base) (D_apart_ways_word : Df P w K mg base 45 "apart_ways_word" ["one", "other"] (S_apart_ways_word K)) (D_places_together : Df P w K mg base 42 "places_together" ["way"] (S_places_together K)) : FnOk P w K mg base CX0 46 f fd ["one", "other"] (S_ways_paper K) := by
  refine fn_D Fn sc_ways_paper (by decide) (fun _ => rfl) fun cdv A outer s H E hr => ⟨_, (pss_cons (ps_set (i := 2) sc_ways_paper.nd rfl (.inl rfl) (pe_callD D_apart_ways_word (hr.mono (by decide)) (by rfl) (pa_cons (pv 0) (pa_cons (pv 1) pa_nil))))
      (pss_one (ps_ret (pe_ifExp (pt_cmp (pc_notN (pv 2)) rfl) (pe_tup (pa_cons pe_str (pa_cons (pv 2) pa_nil))) (pe_tup (pa_cons pe_str (pa_cons (pe_tup (pa_cons (pe_callD D_places_together (hr.mono (by decide)) (by rfl) (pa_cons (pv 0) pa_nil)) (pa_cons (pe_callD D_places_together (hr.mono (by decide)) (by rfl) (pa_cons (pv 1) pa_nil)) pa_nil))) pa_nil))))))), ?_⟩
  rintro B Q ⟨one, other⟩ rfl hg q
  dsimp only at q
  have l1 : one.length ≤ 8 := hg.1.1
  have l2 : other.length ≤ 8 := hg.2.1
  show Ho B _ [wv one, wv other, none] []
  refine x_seq (x_set (a := .d (wordO (dueW one other))) (ex_apartW (ex_v rfl) (ex_v rfl) hg) ?_)
  cases ed : dueW one other with
  | some W =>
    refine nxt (x_retD q (wv_of (L' := []) (x := .tuple [.str "word", ti W]) (ex_if (b := true) (et_is (et_test (ex_notN (ex_v rfl))) rfl) (fun _ => ex_tup (ds := [.str "word", ti W]) (ea_cons ex_cS (ea_cons (ex_v rfl) ea_nil)) (Nat.le_of_ble_eq_true rfl)) (fun h => nomatch h)) ?_))
    unfold toldD; rw [ed]
  | none =>
    refine nxt (x_retD q (wv_of (L' := []) (x := .tuple [.str "same", .tuple [ti (firstRow one.length one), ti (firstRow other.length other)]]) (ex_if (b := false) (et_is (et_test (ex_notN (ex_v rfl))) rfl) (fun h => nomatch h) (fun _ => ex_tup (ds := [.str "same", .tuple [ti (firstRow one.length one), ti (firstRow other.length other)]]) (ea_cons ex_cS (ea_cons (ex_tup (ds := [ti (firstRow one.length one), ti (firstRow other.length other)]) (ea_cons (ex_ptog (ex_v rfl) (by omega)) (ea_cons (ex_ptog (ex_v rfl) (by omega)) ea_nil)) (Nat.le_of_ble_eq_true rfl)) ea_nil)) (Nat.le_of_ble_eq_true rfl))) ?_))
    unfold toldD; rw [ed]
abbrev S_law_word (K : PySem.W.Frag) : Sp := spD K (fun y : Way × Way => [wayD y.1, wayD y.2]) G8 ti (fun y x => x = apartL y.1 y.2)
theorem okd_law_word (Fn : Fun K "_law_word" "_law_word" s_law_word f fd) (T : Bt P mg base) (D_law_left : Df P w K mg base 41 "_law_left" ["way"] (S_law_left K)) (D_law_back : Df P w K mg base 41 "_law_back" ["way"] (S_law_back K)) : FnOk P w K mg base CX0 42 f fd ["one", "other"] (S_law_word K) := by
  refine fn_D Fn sc_law_word (by decide) (fun _ => rfl) fun cdv A outer s H E hr => ⟨_, (pss_one (ps_ret (pe_tupleOf (by rfl) T.n_tuple (pe_lc (g := gTup K 2 (gCons (gName 2) (gCons (gName 3) gNil))) (own := [("letter", 2), ("stride", 3)]) rfl sc_law_word.nd (pi_tup (pe_callD D_law_left (hr.mono (by decide)) (by rfl) (pa_cons (pe_op (r := rCatA K) op_catA (pv 0) (pe_callD D_law_back (hr.mono (by decide)) (by rfl) (pa_cons (pv 1) pa_nil))) pa_nil))) (blkOk_by (own := [("letter", 2), ("stride", 3)]) (N := ["one", "other", "letter", "stride"]) (sc := defScope s_law_word) (by decide +kernel)) (fun _ _ _ _ _ => (pg_tup rfl (pgs_cons (pg_name (i := 2) sc_law_word.nd rfl (Or.inl rfl)) (pgs_cons (pg_name (i := 3) sc_law_word.nd rfl (Or.inl rfl)) pgs_nil)))) (fun _ _ _ _ _ => pts_nil) (fun _ _ _ _ _ => (pv 2)))))), ?_⟩
  rintro B Q ⟨one, other⟩ rfl hg q
  dsimp only at q
  have l1 : one.length ≤ 8 := hg.1.1
  have l2 : other.length ≤ 8 := hg.2.1
  have hb := back_len other
  show Ho B _ [wv one, wv other, none, none] []
  refine x_retD q (wv_of (x := apartL one other) (ex_is (ex_tupL (ds := (wayL (redW (one ++ backW other))).map fst1) (ex_is (ex_frz (en_lcTP (xs := wayL (redW (one ++ backW other))) (fun _ => true) fst1 (fun d => match d with | .tuple [x, y] => [wv one, wv other, some (.d x), some (.d y)] | _ => []) (ex_left (ex_catW (ex_v rfl) (ex_back (ex_v rfl) (by omega)) (by omega)) (by rw [List.length_append]; omega)) (by rw [wayL_len]; have := (tot_red (one ++ backW other)).2; rw [List.length_append] at this; omega) (gw_tup2 (by simp) (by simp)) (fun d hd => ?_) (fun d hd m => et_yes) (fun d hd _ m => ?_))) (by rw [filter_yes])) .d) ?_) rfl)
  · obtain ⟨x, _, rfl⟩ := List.mem_map.mp hd
    exact gt_tup2 (d := .int x.1) (e := .int x.2)
  · obtain ⟨x, _, rfl⟩ := List.mem_map.mp hd
    exact ex_v rfl
  · unfold ti apartL lettersW wayL
    rw [List.map_map, List.map_map]; rfl
section
variable {B : Bg} {ε : Eps} {L La Lb Lc Ld : Own} {te ta tb tc td : TE} {E : XK} {one other v : Way} {d : PyData} {k : Int}
theorem ex_paper (h1 : EX B ta ε L (.d (wayD one)) La) (h2 : EX B tb ε La (.d (wayD other)) Lb) (hg : G8 (one, other)) : EX B (tCall (S_ways_paper B.K) [] E (tCons ta (tCons tb tNil))) ε L (.d (toldD one other)) Lb :=
  ex_of (e := eD) fun κ kk => w_callD (wa_x h1 (wa_x h2 (wa_nil ⟨(one, other), rfl, hg, fun x hx => hx ▸ kk⟩)))
theorem ex_paperK (h1 : EX B ta ε L (.d (wayD one)) La) (h2 : EX B tb ε La (.d (wayD other)) Lb) (hg : G8 (one, other)) : EX B (tCallK (S_ways_paper B.K) (kwG 2 [0, 1]) E tNil (tCons ta (tCons tb tNil))) ε L (.d (toldD one other)) Lb :=
  ex_of (e := eD) fun κ kk => w_callKD (wa_x h1 (wa_x h2 (wa_nil ⟨(one, other), (fun K F zs hz => kwX2 hz), hg, fun x hx => hx ▸ kk⟩)))
theorem ex_judged (h1 : EX B ta ε L (.d (.int k)) La) (h2 : EX B tb ε La (.d (wayD one)) Lb) (h3 : EX B tc ε Lb (.d (wayD other)) Lc) (h4 : EX B td ε Lc (.d d) Ld) (hg : G8 (one, other) ∧ JOk d) : EX B (tCall (S_law_is_judged B.K) [] E (tCons ta (tCons tb (tCons tc (tCons td tNil))))) ε L (.d (.bool true)) Ld :=
  ex_of (e := PyData.bool) fun κ kk => w_callD (wa_x h1 (wa_x h2 (wa_x h3 (wa_x h4 (wa_nil ⟨(k, (one, other), d), rfl, hg, fun x hx => hx ▸ kk⟩)))))
end
abbrev S_law_is_told_right (K : PySem.W.Frag) : Sp := spD K (fun y : Int × Way × Way => [.int y.1, wayD y.2.1, wayD y.2.2]) (fun y => G8 y.2 ∧ LB y.1 y.2.1 ∧ LB y.1 y.2.2) PyData.bool (fun _ x => x = true)
theorem okd_law_is_told_right (Fn : Fun K "_law_is_told_right" "_law_is_told_right" s_law_is_told_right f fd) (T : Bt P mg base) (D_ways_paper : Df P w K mg base 46 "ways_paper" ["one", "other"] (S_ways_paper K)) (D_law_left : Df P w K mg base 41 "_law_left" ["way"] (S_law_left K)) (D_law_is_judged : GDf P w K mg base 46 "_law_is_judged" ["k", "one", "other", "value"] (S_law_is_judged K)) (D_law_same : GDf P w K mg base 41 "_law_same" ["told", "due"] (S_law_same K)) (D_law_due : Df P w K mg base 43 "_law_due" ["k", "one", "other", "value"] (S_law_due K)) (DK_ways_paper_one_other : DfK P w K mg base 46 "ways_paper" ["one", "other"] ["one", "other"] (kwG 2 [0, 1]) (kwG 2 [0, 1]) (S_ways_paper K)) : GOk P w K mg base 47 f fd ["k", "one", "other"] (S_law_is_told_right K) := by
  refine g_D Fn sc_law_is_told_right (by decide) (fun _ => rfl) fun cdv A outer s H hr hG => ⟨_, (pss_cons (ps_par3 (i := 3) (j := 4) (l := 5) (by rfl) sc_law_is_told_right.nd rfl rfl rfl (by decide) (by decide) (by decide) rfl rfl rfl (pa_cons (pe_callD D_ways_paper (hr.mono (by decide)) (by rfl) (pa_cons (pv 1) (pa_cons (pv 2) pa_nil))) (pa_cons (pe_callB (r := rReprD K) (call_reprD hr hG) (by rfl) T.n_repr (by decide +kernel) (pa_cons (pe_lst (pa_cons (pv 1) (pa_cons (pv 2) pa_nil))) pa_nil)) (pa_cons pe_str pa_nil))) (by rfl))
      (pss_cons (ps_if (pt_cmpR (r := rEqD K) (op_eqD hr.units) (pe_callD D_law_left (hr.mono (by decide)) (by rfl) (pa_cons (pv 1) pa_nil)) (pe_callD D_law_left (hr.mono (by decide)) (by rfl) (pa_cons (pv 2) pa_nil)) (nomark _)) (pss_one (ps_set (i := 5) sc_law_is_told_right.nd rfl (.inl rfl) pe_str)) pss_nil)
      (pss_cons (ps_if (PW.pt (pw_or (pt_not (pt_val (pe_callB (r := rIsi K) call_isi (by rfl) T.n_isinstance (by decide +kernel) (pa_cons (pv 3) (pa_cons (pe_bltn (v := .ty "tuple") (u := .type "tuple") rfl T.n_tuple (by decide +kernel) rfl) pa_nil))))) (pw_or (pt_cmpR op_ne (pe_callB (r := Evl.rLenS K) call_len_seq (by rfl) T.n_len (by decide +kernel) (pa_cons (pv 3) pa_nil)) pe_int (nomark _)) (pw_or1 (pt_not (pt_val (pe_callG hG D_law_same (hr.mono (by decide)) (by rfl) (pa_cons (pe_ix (r := rIxT K) ix_tup (pv 3) pe_int (fun _ _ => rfl)) (pa_cons (pv 5) pa_nil))))))))) (pss_one (ps_ret pe_bl)) pss_nil)
      (pss_cons (ps_if (PW.pt (pw_or (pt_cmp (pc_notN (pe_callD D_law_due (hr.mono (by decide)) (by rfl) (pa_cons (pv 0) (pa_cons (pv 1) (pa_cons (pv 2) (pa_cons (pv 3) pa_nil)))))) rfl) (pw_or1 (pt_not (pt_val (pe_callG hG D_law_same (hr.mono (by decide)) (by rfl) (pa_cons (pe_callKD DK_ways_paper_one_other (hr.mono (by decide)) (by rfl) (pk_cons (pv 1) (pk_cons (pv 2) pk_nil))) (pa_cons (pv 3) pa_nil)))))))) (pss_one (ps_ret pe_bl)) pss_nil)
      (pss_one (ps_ret (pe_and (pe_callG hG D_law_is_judged (hr.mono (by decide)) (by rfl) (pa_cons (pv 0) (pa_cons (pv 1) (pa_cons (pv 2) (pa_cons (pv 3) pa_nil))))) (pe_one (pe_cmpR op_eq (pe_callB (r := rReprD K) (call_reprD hr hG) (by rfl) T.n_repr (by decide +kernel) (pa_cons (pe_lst (pa_cons (pv 1) (pa_cons (pv 2) pa_nil))) pa_nil)) (pv 4) (nomark _)))))))))), ?_⟩
  rintro B Q ⟨k, one, other⟩ rfl ⟨hg, b1, b2⟩ q
  dsimp only at hg b1 b2 q
  have l1 : one.length ≤ 8 := hg.1.1
  have l2 : other.length ≤ 8 := hg.2.1
  show Ho B _ [iv k, wv one, wv other, none, none, none] []
  obtain ⟨t, et, ep, hj, hs⟩ := told_right hg b1 b2
  have hp : Fz.Sh (.list [wayD one, wayD other]) := (nice_lst (niceL_cons (hg.1.nice (by decide)) (niceL_cons (hg.2.nice (by decide)) (niceL_nil (m := 0))))).show (by decide) (by decide)
  have exr : ∀ {ε : Eps}, ε[1]? = some (wv one) → ε[2]? = some (wv other) → EX B (tCB (rReprD B.K) (tCons (tLst (tCons (tVar 1) (tCons (tVar 2) tNil))) tNil)) ε [] (.d (.str (PyData.list [wayD one, wayD other]).shown)) [] := fun h h2 => ex_rep hp (ex_frz (en_lst (ds := [wayD one, wayD other]) (ea_cons (ex_v h) (ea_cons (ex_v h2) ea_nil)) (Nat.le_of_ble_eq_true rfl)))
  refine x_seq (x_par3 (a := .d (toldD one other)) (b := .d (.str (PyData.list [wayD one, wayD other]).shown)) (c := .d (.str "word")) (ea_cons (ex_paper (ex_v rfl) (ex_v rfl) hg) (ea_cons (exr rfl rfl) (ea_cons ex_cS ea_nil))) ?_)
  have sW : Fz.SameOk (.str (sortW one other)) := by
    unfold sortW
    split
    · exact (nice_str (k := 0) (m := 10)).same (by decide) (by decide)
    · exact (nice_str (k := 0) (m := 10)).same (by decide) (by decide)
  have exP : ∀ {ε : Eps}, ε[1]? = some (wv one) → ε[2]? = some (wv other) → EX B (tCallK (S_ways_paper B.K) (kwG 2 [0, 1]) E0 tNil (tCons (tVar 1) (tCons (tVar 2) tNil))) ε [] (.d (.tuple [.str (sortW one other), t])) [] := fun h h2 => ex_is (ex_paperK (ex_v h) (ex_v h2) hg) (by rw [et])
  rw [et]
  have exL : ∀ {i : Nat} {v : Way} {ε : Eps}, ε[i]? = some (wv v) → v.length ≤ 8 → EX B (tCall (S_law_left B.K) [] E0 (tCons (tVar i) tNil)) ε [] (.d (wayD (redW v))) [] := fun h hl => ex_left (ex_v h) (by omega)
  refine x_sq ((fun (go : Ho B _ [iv k, wv one, wv other, dv (.tuple [.str (sortW one other), t]), dv (.str (PyData.list [wayD one, wayD other]).shown), dv (.str (sortW one other))] []) => x_if (b := decide (redW one = redW other)) (et_test (ex_boolE (ex_eqD (exL rfl l1) (exL rfl l2) (shaped_way _) (shaped_way _)) (by rw [eq_way]))) (fun hb => x_set (a := .d (.str (sortW one other))) (ex_is ex_cS (by rw [show sortW one other = "same" from if_pos (of_decide_eq_true hb)])) go) (fun hb => x_next (by rw [show sortW one other = "word" from if_neg (of_decide_eq_false hb)] at go ⊢; exact go))) ?_)
  have hgv := And.intro hg hj.1
  refine x_sq (x_skip (et_orF (et_noT (ex_boolE (ex_isTup (ex_v rfl)) rfl)) (et_orF (et_is (et_test (ex_neI (ex_lenT (ds := [.str (sortW one other), t]) (ex_v rfl) rfl) ex_cI)) rfl) (et_noT (ex_sameT (ex_ixT (ds := [.str (sortW one other), t]) (ex_v rfl) ex_cI rfl) (ex_v rfl) sW)))) ?_)
  refine x_sq (x_skip (et_orF (et_is (et_test (ex_notN (ex_is (ex_err (ex_v rfl) (ex_v rfl) (ex_v rfl) (ex_v rfl) hgv) (by rw [ep])))) rfl) (et_noT (ex_sameT (exP rfl rfl) (ex_v rfl) hs))) ?_)
  exact nxt (x_retD q (wv_of (x := true) (ex_andV (b := true) (c := true) (ex_judged (ex_v rfl) (ex_v rfl) (ex_v rfl) (ex_v rfl) ⟨hg, hj⟩) (fun _ => ex_boolE (ex_eqS (exr rfl rfl) (ex_v rfl)) (decide_eq_true rfl)) (fun h => nomatch h)) rfl))
end K88

/-! ## G9 -/
set_option Elab.async false
set_option linter.all false
set_option maxRecDepth 100000
set_option maxHeartbeats 4000000
set_option autoImplicit false
namespace K88
open PySem L2 Fz K80 Ways
variable {P : Program} {w : World} {K : PySem.W.Frag} {mg : Str → Option Value} {base : Heap} {f : Addr} {fd : FuncData}
structure PrOk (v : Way) (y : List Int × List Way) : Prop where
  row : y.1.length ≤ v.length
  small : ∀ x ∈ y.1, 0 ≤ x ∧ x < (v.length : Int)
  all : ∀ u ∈ y.2, LW v u
  len : y.2.length = y.1.length + 1
abbrev S_law_paper_row (K : PySem.W.Frag) : Sp := spG K (fun v : Way => [wayD v]) (fun v => v.length ≤ 5000 ∧ LW v v) (eP ti (eL wayD)) PrOk
theorem mem_pl {v : Way} {i : Int} (h : i ∈ pl v) : ∃ n : Nat, i = (n : Int) ∧ n ∈ placesW v := by
  obtain ⟨n, hn, rfl⟩ := List.mem_map.mp h
  exact ⟨n, rfl, hn⟩
theorem pl_len {v : Way} : (pl v).length ≤ v.length := by
  unfold pl placesW
  rw [List.length_map]
  exact Nat.le_trans (List.length_filter_le _ _) (by rw [List.length_range]; omega)
theorem wr_var {B : Bg} {ε : Eps} {L : Own} {i : Nat} {p : Addr} {κ : Addr → Own → Prop} (hs : ε[i]? = some (some (.v (.ref p)))) (k : κ p L) : WR B (tVar i) ε L κ := fun F σ H r Q q => by
  obtain ⟨s, h1, y, rfl, h2⟩ := r.sl i _ hs
  have e : y = .ref p := h2
  subst e
  exact ⟨_, h1, q p L F H k (Sub.rfl' F) r⟩
theorem okd_law_paper_row (Fn : Fun K "_law_paper_row" "_law_paper_row" s_law_paper_row f fd) (T : Bt P mg base) (D_law_places : Df P w K mg base 41 "_law_places" ["way"] (S_law_places K)) (D_law_pick : Df P w K mg base 42 "_law_pick" ["bag", "some"] (S_law_pick K)) (D_law_put : Df P w K mg base 41 "_law_put" ["way", "at"] (S_law_put K)) : FnOk P w K mg base CX0 43 f fd ["bag", "way"] (S_law_paper_row K) := by
  refine fn_G Fn sc_law_paper_row (by decide) (fun _ => rfl) fun cdv A outer s H E hr => ⟨_, (pss_cons (ps_par3 (i := 2) (j := 3) (l := 4) (by rfl) sc_law_paper_row.nd rfl rfl rfl (by decide) (by decide) (by decide) rfl rfl rfl (pa_cons (pe_lst pa_nil) (pa_cons (pe_lst (pa_cons (pv 1) pa_nil)) (pa_cons (pe_callD D_law_places (hr.mono (by decide)) (by rfl) (pa_cons (pv 1) pa_nil)) pa_nil))) (by rfl))
      (pss_cons (ps_while PassesOwn.never (pt_cmpR (r := rNeD K) (op_neD hr.units) (pv 4) (pe_lst pa_nil) (nomark _)) (pss_cons (ps_expr (pe_bm PySem.F.plainAttrs_list PySem.F.slot_list_append PySem.F.type_list_append mt_append (pv 2) (pa_cons (pe_callD D_law_pick (hr.mono (by decide)) (by rfl) (pa_cons (pv 0) (pa_cons (pv 4) pa_nil))) pa_nil)))
      (pss_cons (ps_expr (pe_bm PySem.F.plainAttrs_list PySem.F.slot_list_append PySem.F.type_list_append mt_append (pv 3) (pa_cons (pe_callD D_law_put (hr.mono (by decide)) (by rfl) (pa_cons (pe_ix (r := rIxL K) ix_list (pv 3) (pe_un un_neg pe_int) (fun _ _ => rfl)) (pa_cons (pe_ix (r := rIxL K) ix_list (pv 2) (pe_un un_neg pe_int) (fun _ _ => rfl)) pa_nil))) pa_nil)))
      (pss_one (ps_set (i := 4) sc_law_paper_row.nd rfl (.inl rfl) (pe_callD D_law_places (hr.mono (by decide)) (by rfl) (pa_cons (pe_ix (r := rIxL K) ix_list (pv 3) (pe_un un_neg pe_int) (fun _ _ => rfl)) pa_nil)))))))
      (pss_one (ps_ret (pe_tup (pa_cons (pe_tupleOf (by rfl) T.n_tuple (pv 2)) (pa_cons (pv 3) pa_nil))))))), ?_⟩
  rintro B Q pb pc b v rfl ⟨hv, hst⟩ q
  show Ho B _ [bagv pb, wv v, none, none, none] [b.at pb pc]
  refine x_seq (x_par3W (wa_cons (wx_r (wr_of (ds := []) (en_lst ea_nil (Nat.zero_le _)) fun p hp => wa_cons (wx_r (wr_of (ds := [wayD v]) (en_lst (ds := [wayD v]) (ea_cons (ex_v rfl) ea_nil) (Nat.le_of_ble_eq_true rfl)) fun r hr => wa_v (e := li) (wv_of (x := pl v) (ex_like (ex_v rfl) hv) (wa_nil ⟨_, _, _, rfl, ?_⟩))))))))
  refine nxt (x_seq (x_while' (fun m ε L => ∃ (row : List Int) (us : List Way) (u : Way) (b : Bag), u.length = m ∧ (∀ z ∈ us ++ [u], LW v z) ∧ us.length = row.length ∧ row.length + u.length ≤ v.length ∧ (∀ x ∈ row, 0 ≤ x ∧ x < (v.length : Int)) ∧ ε = [bagv pb, wv v, bagv p, bagv r, dv (li (pl u))] ∧ L = [.lst r ((us ++ [u]).map wayD), .lst p (row.map PyData.int), b.at pb pc]) (m0 := v.length) ⟨[], [], v, b, rfl, (fun z hz => by rw [List.mem_singleton.mp hz]; exact hst), rfl, by simp, (fun _ h => nomatch h), rfl, rfl⟩ ?_))
  rintro m ε' L' ⟨row, us, u, b, rfl, hall, hul2, hlen, hsm, rfl, rfl⟩
  have hu := hall u (List.mem_append_right _ List.mem_cons_self)
  have hul := hu.len
  refine wt_of (et_test (ex_neNil (ds := (pl u).map PyData.int) (ex_v rfl) .d (shaped_ints _))) ⟨fun hb => ?_, fun hb => ?_⟩
  · have hne : pl u ≠ [] := fun z => by rw [z] at hb; exact nomatch hb
    have hpl := pl_len (v := u)
    refine x_seq (x_appW (e := PyData.int) (ex_v rfl) ⟨_, _, .s .z⟩ (w_pck (pb := pb) (pc := pc) (e := PyData.int) (xs := pl u) rfl (ex_v rfl) (fun b' => .s (.s .z)) hne (by omega) fun i b1 hi => ⟨_, _, .s .z, by rw [List.length_map]; omega, ?_⟩))
    obtain ⟨n, rfl, hn⟩ := mem_pl hi
    have hm := mem_places hn
    have hz := hu.put hn
    have hzl := put_len hm.1
    have er : row.map PyData.int ++ [PyData.int (n : Int)] = (row ++ [(n : Int)]).map PyData.int := by rw [List.map_append]; rfl
    rw [er]
    refine x_sq (x_appW (e := wayD) (ex_v rfl) ⟨_, _, .z⟩ (wv_of (x := putW u n) (ex_put (i := n) (ex_ixL (ds := (us ++ [u]).map wayD) (ex_v rfl) (ex_neg ex_cI) (.o (k := 0) rfl) at_end) (ex_ixL (ds := (row ++ [(n : Int)]).map PyData.int) (ex_v rfl) (ex_neg ex_cI) (.o (k := 1) rfl) at_end) ⟨by omega, hm.1⟩) ⟨_, _, .z, by rw [List.length_map, List.length_append, List.length_singleton]; omega, ?_⟩))
    have e : (us ++ [u]).map wayD ++ [wayD (putW u n)] = (us ++ [u] ++ [putW u n]).map wayD := by rw [List.map_append (l₁ := us ++ [u])]; rfl
    rw [e]
    refine nxt (x_set (a := .d (li (pl (putW u n)))) (ex_like (ex_ixL (ds := (us ++ [u] ++ [putW u n]).map wayD) (ex_v rfl) (ex_neg ex_cI) (.o (k := 0) rfl) at_end) (by omega)) ?_)
    refine nxt (x_end ⟨(putW u n).length, by omega, row ++ [(n : Int)], us ++ [u], putW u n, b1, rfl, fun z hz' => ?_, ?_, ?_, fun x hx => ?_, rfl, rfl⟩)
    · rcases List.mem_append.mp hz' with q | q
      · exact hall z q
      · rw [List.mem_singleton.mp q]; exact hz
    · rw [List.length_append, List.length_append, hul2]; rfl
    · rw [List.length_append, List.length_singleton]; omega
    · rcases List.mem_append.mp hx with q | q
      · exact hsm x q
      · rw [List.mem_singleton.mp q]; omega
  · refine nxt (x_retG q (w_pair (e := ti) (f := eL wayD) (wv_of (x := row) (ex_tupL (ds := row.map PyData.int) (ex_v rfl) (.o (k := 1) rfl)) (w_frz (wr_var rfl ⟨_, _, us ++ [u], hr, rfl, rfl, ⟨⟨by show row.length ≤ _; omega, hsm, hall, ?_⟩, b, by simp⟩⟩)))))
    show (us ++ [u]).length = row.length + 1
    rw [List.length_append, hul2]; rfl
end K88

/-! ## G10 -/
set_option Elab.async false
set_option linter.all false
set_option maxRecDepth 100000
set_option maxHeartbeats 4000000
set_option autoImplicit false
namespace K88
open PySem L2 Fz K80 Ways
variable {P : Program} {w : World} {K : PySem.W.Frag} {mg : Str → Option Value} {base : Heap} {f : Addr} {fd : FuncData}
/-! ### values -/
theorem cut_sub {ds : List PyData} {lo hi : Option Int} : ∀ d ∈ cutD ds lo hi, d ∈ ds := fun d h => List.mem_of_mem_drop (List.mem_of_mem_take h)
theorem cut_le {ds : List PyData} {lo hi : Option Int} : (cutD ds lo hi).length ≤ ds.length := by unfold cutD; rw [List.length_take, List.length_drop]; omega
/-- a small thing: an int of few digits, a short text, .. -/
abbrev Sm (d : PyData) : Prop := Nice 1 5 d
abbrev Vn (d : PyData) : Prop := Nice 3 200 d
theorem sm_int {i : Int} (h : -1000 ≤ i ∧ i ≤ 1000) : Sm (.int i) := nice_int ((Bd.of (k := 10) (n := 1001) (by omega) (by omega) (by decide)).mono (by decide))
theorem vn_int {i : Int} (h : -1000 ≤ i ∧ i ≤ 1000) : Vn (.int i) := (sm_int h).mono (by decide) (by decide)
theorem nice_ts {ds : List PyData} (h : ∀ d ∈ ds, Sm d) (hl : ds.length ≤ 20) : Nice 2 120 (.tuple ds) := nice_tup ((niceL_all h).mono (Nat.le_refl _) (by omega))
theorem nice_ls {ds : List PyData} (h : ∀ d ∈ ds, Sm d) (hl : ds.length ≤ 20) : Nice 2 120 (.list ds) := nice_lst ((niceL_all h).mono (Nat.le_refl _) (by omega))
theorem vn_ts {ds : List PyData} (h : ∀ d ∈ ds, Sm d) (hl : ds.length ≤ 20) : Vn (.tuple ds) := (nice_ts h hl).mono (by decide) (by decide)
theorem vn_ls {ds : List PyData} (h : ∀ d ∈ ds, Sm d) (hl : ds.length ≤ 20) : Vn (.list ds) := (nice_ls h hl).mono (by decide) (by decide)
theorem sm_app {xs ys : List PyData} (h : ∀ d ∈ xs, Sm d) (h2 : ∀ d ∈ ys, Sm d) : ∀ d ∈ xs ++ ys, Sm d := fun d hd => (List.mem_append.mp hd).elim (h d) (h2 d)
theorem sm_one {x : PyData} (h : Sm x) : ∀ d ∈ [x], Sm d := fun d hd => by rw [List.mem_singleton.mp hd]; exact h
theorem sm_cut {ds : List PyData} {lo hi : Option Int} (h : ∀ d ∈ ds, Sm d) : ∀ d ∈ cutD ds lo hi, Sm d := fun d hd => h d (cut_sub d hd)
theorem rep_mem {x d : PyData} : ∀ {n : Nat}, d ∈ (List.replicate n [x]).flatten → d = x
  | 0, h => nomatch h
  | n + 1, h => by
    rw [List.replicate_succ, List.flatten_cons] at h
    rcases List.mem_append.mp h with m | m
    · exact List.mem_singleton.mp m
    · exact rep_mem m
theorem rep_len {x : PyData} : ∀ n : Nat, ((List.replicate n [x]).flatten).length = n
  | 0 => rfl
  | n + 1 => by rw [List.replicate_succ, List.flatten_cons, List.length_append, rep_len n, List.length_singleton]; omega
structure RowOk (r : List Int) : Prop where
  len : r.length ≤ 8
  small : ∀ x ∈ r, 0 ≤ x ∧ x ≤ 9
theorem RowOk.sm {r : List Int} (h : RowOk r) : ∀ d ∈ r.map PyData.int, Sm d := fun d hd => by
  obtain ⟨x, hx, rfl⟩ := List.mem_map.mp hd
  have := h.small x hx
  exact sm_int (by omega)
theorem map_eD (ds : List PyData) : ds.map eD = ds := List.map_id' ds
theorem wv_tup {B : Bg} {ε : Eps} {L La : Own} {te : TE} {ds : List PyData} {κ : List PyData → Own → Prop} (h : EX B te ε L (.d (.tuple ds)) La) (k : κ ds La) : WV B (eT eD) te ε L κ := wv_of (x := ds) (ex_is h (by unfold eT; rw [map_eD])) k
theorem digit_nice {i : Int} (h : 0 ≤ i ∧ i ≤ 9) : Sm (.str (Str.ofString (toString i))) := by
  have : i = 0 ∨ i = 1 ∨ i = 2 ∨ i = 3 ∨ i = 4 ∨ i = 5 ∨ i = 6 ∨ i = 7 ∨ i = 8 ∨ i = 9 := by omega
  rcases this with e | e | e | e | e | e | e | e | e | e <;> rw [e] <;> exact nice_str
structure BentOk (xs : List PyData) : Prop where
  all : ∀ d ∈ xs, Nice 4 300 d
  len : xs.length ≤ 100
  ne : xs ≠ []
abbrev S_law_bent_rows (K : PySem.W.Frag) : Sp := spG K (fun y : List Int × List Int => [.tuple [ti y.1, ti y.2]]) (fun y => RowOk y.1 ∧ RowOk y.2) (eL eD) (fun _ xs => BentOk xs)
theorem okd_law_bent_rows (Fn : Fun K "_law_bent_rows" "_law_bent_rows" s_law_bent_rows f fd) (T : Bt P mg base) (D_law_pick : Df P w K mg base 42 "_law_pick" ["bag", "some"] (S_law_pick K)) (D_law_draw : Df P w K mg base 41 "_law_draw" ["bag", "below"] (S_law_draw K)) : FnOk P w K mg base CX0 43 f fd ["bag", "rows"] (S_law_bent_rows K) := by
  refine fn_G Fn sc_law_bent_rows (by decide) (fun _ => rfl) fun cdv A outer s H E hr => ⟨_, (pss_cons (ps_set (i := 2) sc_law_bent_rows.nd rfl (.inl rfl) (pe_lst pa_nil))
      (pss_cons (ps_for PassesOwn.never rfl (pi_range1 (by rfl) T.n_range (pa_cons pe_int pa_nil)) (pg_name (i := 3) sc_law_bent_rows.nd rfl (Or.inl rfl)) (pss_cons (ps_par (i := 4) (j := 5) (by rfl) sc_law_bent_rows.nd rfl rfl (by decide) rfl rfl (pa_cons (pe_ix (r := rIxT K) ix_tup (pv 1) (pv 3) (fun _ _ => rfl)) (pa_cons (pe_ix (r := rIxT K) ix_tup (pv 1) (pe_op op_sub pe_int (pv 3)) (fun _ _ => rfl)) pa_nil)) (by rfl))
      (pss_cons (ps_set (i := 6) sc_law_bent_rows.nd rfl (.inl rfl) (pe_lst (pa_cons (pe_op (r := rCatA K) op_catA (pv 4) (pe_tup (pa_cons (pe_callD D_law_draw (hr.mono (by decide)) (by rfl) (pa_cons (pv 0) (pa_cons pe_int pa_nil))) pa_nil))) (pa_cons (pe_slice (r := rSlA K) sl_tupA (pv 4) po_none (po_some (pe_un un_neg pe_int))) (pa_cons (pe_op (r := rCatA K) op_catA (pv 4) (pe_slice (r := rSlA K) sl_tupA (pv 4) (po_some (pe_un un_neg pe_int)) po_none)) (pa_cons (pe_op (r := rRepT1 K) op_repT1 (pe_tup (pa_cons pe_int pa_nil)) pe_int) (pa_cons (pe_op (r := rRepT1 K) op_repT1 (pe_tup (pa_cons pe_int pa_nil)) pe_int) (pa_cons (pe_slice (r := rSlA K) sl_tupA (pv 4) (po_some pe_int) po_none) (pa_cons (pe_callTy (r := rListOf K) call_list_of (by rfl) T.n_list (by decide +kernel) (pa_cons (pv 4) pa_nil)) (pa_cons pe_non pa_nil))))))))))
      (pss_cons (ps_expr (pe_bm PySem.F.plainAttrs_list PySem.F.slot_list_extend PySem.F.type_list_extend mt_extend (pv 6) (pa_cons (pe_lst (pa_cons (pe_tup (pa_cons pe_int pa_nil)) (pa_cons (pe_tup (pa_cons pe_int pa_nil)) (pa_cons (pe_op (r := rCatA K) op_catA (pv 4) (pe_tup (pa_cons pe_int pa_nil))) (pa_cons (pe_op (r := rCatA K) op_catA (pv 4) (pe_tup (pa_cons (pe_un un_neg pe_int) pa_nil))) (pa_cons (pe_op (r := rCatA K) op_catA (pv 4) (pe_tup (pa_cons pe_bl pa_nil))) (pa_cons (pe_op (r := rCatA K) op_catA (pv 4) (pe_tup (pa_cons pe_non pa_nil))) (pa_cons (pe_op (r := rCatA K) op_catA (pv 4) (pe_tup (pa_cons pe_str pa_nil))) (pa_cons (pe_tup (pa_cons (pv 4) pa_nil)) (pa_cons pe_int (pa_cons pe_str pa_nil))))))))))) pa_nil)))
      (pss_cons (ps_for PassesOwn.never rfl (pi_range1 (by rfl) T.n_range (pa_cons (pe_callB (r := Evl.rLenS K) call_len_seq (by rfl) T.n_len (by decide +kernel) (pa_cons (pv 4) pa_nil)) pa_nil)) (pg_name (i := 7) sc_law_bent_rows.nd rfl (Or.inl rfl)) (pss_cons (ps_set (i := 9) sc_law_bent_rows.nd rfl (.inl rfl) (pe_callD D_law_pick (hr.mono (by decide)) (by rfl) (pa_cons (pv 0) (pa_cons (pe_lst (pa_cons (pe_callD D_law_draw (hr.mono (by decide)) (by rfl) (pa_cons (pv 0) (pa_cons pe_int pa_nil))) (pa_cons (pe_op op_add (pe_ix (r := rIxT K) ix_tup (pv 4) (pv 7) (fun _ _ => rfl)) pe_int) (pa_cons (pe_callB (call_max2 rfl) (by rfl) T.n_max (by decide +kernel) (pa_cons pe_int (pa_cons (pe_op op_sub (pe_ix (r := rIxT K) ix_tup (pv 4) (pv 7) (fun _ _ => rfl)) pe_int) pa_nil))) pa_nil)))) pa_nil))))
      (pss_cons (ps_expr (pe_bm PySem.F.plainAttrs_list PySem.F.slot_list_append PySem.F.type_list_append mt_append (pv 6) (pa_cons (pe_op (r := rCatA K) op_catA (pe_op (r := rCatA K) op_catA (pe_slice (r := rSlA K) sl_tupA (pv 4) po_none (po_some (pv 7))) (pe_tup (pa_cons (pv 9) pa_nil))) (pe_slice (r := rSlA K) sl_tupA (pv 4) (po_some (pe_op op_add (pv 7) pe_int)) po_none)) pa_nil)))
      (pss_one (ps_expr (pe_bm PySem.F.plainAttrs_list PySem.F.slot_list_append PySem.F.type_list_append mt_append (pv 6) (pa_cons (pe_op (r := rCatA K) op_catA (pe_op (r := rCatA K) op_catA (pe_slice (r := rSlA K) sl_tupA (pv 4) po_none (po_some (pv 7))) (pe_tup (pa_cons (pe_callD D_law_pick (hr.mono (by decide)) (by rfl) (pa_cons (pv 0) (pa_cons (pe_lst (pa_cons (pe_callTy call_bool1 (by rfl) T.n_bool (by decide +kernel) (pa_cons (pe_ix (r := rIxT K) ix_tup (pv 4) (pv 7) (fun _ _ => rfl)) pa_nil)) (pa_cons (pe_un un_neg pe_int) (pa_cons pe_int (pa_cons (pe_tup (pa_cons pe_int pa_nil)) (pa_cons (pe_callTy call_str_int (by rfl) T.n_str (by decide +kernel) (pa_cons (pe_ix (r := rIxT K) ix_tup (pv 4) (pv 7) (fun _ _ => rfl)) pa_nil)) (pa_cons pe_non pa_nil))))))) pa_nil))) pa_nil))) (pe_slice (r := rSlA K) sl_tupA (pv 4) (po_some (pe_op op_add (pv 7) pe_int)) po_none)) pa_nil)))))))
      (pss_one (ps_for PassesOwn.never rfl (pi_list (pv 6)) (pg_name (i := 8) sc_law_bent_rows.nd rfl (Or.inl rfl)) (pss_one (ps_expr (pe_bm PySem.F.plainAttrs_list PySem.F.slot_list_append PySem.F.type_list_append mt_append (pv 2) (pa_cons (pe_ifExp (pt_cmpR op_eq (pv 3) pe_int (nomark _)) (pe_tup (pa_cons (pv 8) (pa_cons (pv 5) pa_nil))) (pe_tup (pa_cons (pv 5) (pa_cons (pv 8) pa_nil)))) pa_nil)))))))))))
      (pss_one (ps_ret (pv 2))))), ?_⟩
  rintro B Q pb pc b ⟨r0, r1⟩ rfl ⟨h0, h1⟩ q
  dsimp only at h0 h1
  show Ho B _ [bagv pb, dv (.tuple [ti r0, ti r1]), none, none, none, none, none, none, none, none] [b.at pb pc]
  refine x_seq (x_setN (en_lst (ds := []) ea_nil (Nat.zero_le _)) fun p hp => ?_)
  refine x_sq (x_forR1 (n := 2) (ea_cons ex_cI ea_nil) (by decide) (fun i ε L => ∃ (acc : List PyData) (b : Bag), (∀ d ∈ acc, Nice 4 300 d) ∧ acc.length ≤ 40 * i ∧ (1 ≤ i → acc ≠ []) ∧ ε = [bagv pb, dv (.tuple [ti r0, ti r1]), bagv p, none, none, none, none, none, none, none] ∧ L = [.lst p acc, b.at pb pc]) ⟨[], b, (fun _ h => nomatch h), Nat.zero_le _, (fun h => by omega), rfl, rfl⟩ ?_ ?_)
  · rintro i ε' L' hi ⟨acc, b, ha, hal, _, rfl, rfl⟩
    have hi : i < 2 := by omega
    refine x_seq (x_par (a := .d (ti (pairN r0 r1 i))) (b := .d (ti (pairN r1 r0 i))) (ea_cons (ex_ixT (ds := [ti r0, ti r1]) (ex_v rfl) (ex_v rfl) (by
      match i, hi with
      | 0, _ => rfl
      | 1, _ => rfl)) (ea_cons (ex_ixT (ds := [ti r0, ti r1]) (ex_v rfl) (ex_sub ex_cI (ex_v rfl)) (by
      match i, hi with
      | 0, _ => rfl
      | 1, _ => rfl)) ea_nil)) ?_)
    have hr : RowOk (pairN r0 r1 i) := by unfold pairN; split <;> assumption
    have ht : RowOk (pairN r1 r0 i) := by unfold pairN; split <;> assumption
    generalize pairN r0 r1 i = row at *
    generalize pairN r1 r0 i = rest at *
    have hrl := hr.len
    have hrs := hr.sm
    have z7 : ∀ n : Int, 1 ≤ n ∧ n ≤ 1000 → ∀ {ε : Eps} {L : Own}, EX B (tOp (rRepT1 B.K) (tTup (tCons (tC (.int 0)) tNil)) (tC (.int n))) ε L (.d (.tuple (List.replicate n.toNat [PyData.int 0]).flatten)) L := fun n hn => ex_rep1 (ds := [.int 0]) (ex_tup (ds := [.int 0]) (ea_cons ex_cI ea_nil) (Nat.le_of_ble_eq_true rfl)) ex_cI (List.cons_ne_nil _ _) (by decide) hn
    have vz : ∀ n : Nat, n ≤ 20 → Vn (.tuple (List.replicate n [PyData.int 0]).flatten) := fun n hn => vn_ts (fun d hd => by rw [rep_mem hd]; exact sm_int (by omega)) (by rw [rep_len]; exact hn)
    have one : ∀ {x : PyData} {tx : TE} {ε : Eps} {L : Own}, EX B tx ε L (.d x) L → EX B (tTup (tCons tx tNil)) ε L (.d (.tuple [x])) L := fun {x} {tx} {_} {_} h => ex_tup (ds := [x]) (ea_cons h ea_nil) (Nat.le_of_ble_eq_true rfl)
    have more : ∀ {x : PyData} {tx : TE} {ε : Eps} {L : Own}, ε[4]? = some (dv (ti row)) → EX B tx ε L (.d x) L → EX B (tOp (rCatA B.K) (tVar 4) (tTup (tCons tx tNil))) ε L (.d (.tuple (row.map PyData.int ++ [x]))) L := fun {x} {tx} {_} {_} h h2 => ex_catT (ds := row.map PyData.int) (es := [x]) (ex_v h) (one h2) (by rw [List.length_map]; show _ + 1 ≤ 100000; omega)
    have vmore : ∀ {x : PyData}, Sm x → Vn (.tuple (row.map PyData.int ++ [x])) := fun hx => vn_ts (sm_app hrs (sm_one hx)) (by rw [List.length_append, List.length_map]; show _ + 1 ≤ 20; omega)
    have cl : ∀ {lo hi : Option Int}, (cutD (row.map PyData.int) lo hi).length ≤ 8 := fun {lo hi} => by
      have := cut_le (ds := row.map PyData.int) (lo := lo) (hi := hi)
      rw [List.length_map] at this
      omega
    refine x_sq (x_setO (ε' := fun p2 => [bagv pb, dv (.tuple [ti r0, ti r1]), bagv p, iv (i : Int), dv (ti row), dv (ti rest), bagv p2, none, none, none]) (w_lst (wa_v (e := ti) (w_catT (e := PyData.int) (wv_of (x := row) (ex_v rfl) (w_dispT (e := PyData.int) (wa_v (e := PyData.int) (w_drw (pb := pb) (pc := pc) rfl ex_cI (fun b' => .s .z) (by decide) fun x b1 g0 g1 => wa_nil ⟨[x], rfl, by show 1 ≤ 100000; decide, by show _ + 1 ≤ 100000; omega, ?_⟩))))))) (fun p2 => .s (.s (.s (.s (.s (.s .z)))))))
    refine wa_x (ex_slT (ds := row.map PyData.int) (ex_v rfl) eo_n (eo_s (ex_neg ex_cI))) (wa_x (ex_catT (ds := row.map PyData.int) (ex_v rfl) (ex_slT (ds := row.map PyData.int) (ex_v rfl) (eo_s (ex_neg ex_cI)) eo_n) (by rw [List.length_map]; have := cl (lo := some (-1)) (hi := none); omega)) (wa_x (z7 8 (by decide)) (wa_x (z7 9 (by decide)) (wa_x (ex_slT (ds := row.map PyData.int) (ex_v rfl) (eo_s ex_cI) eo_n) (wa_x (ex_frz (en_listT (ds := row.map PyData.int) (ex_v rfl))) (wa_x ex_cN ?_))))))
    refine wa_nil ⟨[ti (row ++ [x]), _, _, _, _, _, _, _], rfl, by show 8 ≤ 100000; decide, fun p2 hp2 => ?_⟩
    have hb0 : ∀ d ∈ [ti (row ++ [x]), .tuple (cutD (row.map PyData.int) none (some (-1))), .tuple (row.map PyData.int ++ cutD (row.map PyData.int) (some (-1)) none), .tuple (List.replicate (8 : Int).toNat [PyData.int 0]).flatten, .tuple (List.replicate (9 : Int).toNat [PyData.int 0]).flatten, .tuple (cutD (row.map PyData.int) (some 1) none), .list (row.map PyData.int), .none], Vn d := fun d hd => by
      simp only [List.mem_cons, List.not_mem_nil, or_false] at hd
      rcases hd with e | e | e | e | e | e | e | e <;> rw [e]
      · have : ti (row ++ [x]) = .tuple (row.map PyData.int ++ [.int x]) := by unfold ti; rw [List.map_append]; rfl
        rw [this]; exact vmore (sm_int (by omega))
      · exact vn_ts (sm_cut hrs) (Nat.le_trans cl (by decide))
      · exact vn_ts (sm_app hrs (sm_cut hrs)) (by rw [List.length_append, List.length_map]; have := cl (lo := some (-1)) (hi := none); omega)
      · exact vz 8 (by decide)
      · exact vz 9 (by decide)
      · exact vn_ts (sm_cut hrs) (Nat.le_trans cl (by decide))
      · exact vn_ls hrs (by rw [List.length_map]; omega)
      · exact nice_none
    refine x_sq (x_extW (ex_v rfl) ⟨_, _, .z⟩ (wv_of (x := .list [.tuple [.int 8], .tuple [.int 9], .tuple (row.map PyData.int ++ [.int 9]), .tuple (row.map PyData.int ++ [.int (-1)]), .tuple (row.map PyData.int ++ [.bool true]), .tuple (row.map PyData.int ++ [.none]), .tuple (row.map PyData.int ++ [.str "0"]), .tuple [ti row], .int 0, .str ""]) (ex_frz (en_lst (ds := [.tuple [.int 8], .tuple [.int 9], .tuple (row.map PyData.int ++ [.int 9]), .tuple (row.map PyData.int ++ [.int (-1)]), .tuple (row.map PyData.int ++ [.bool true]), .tuple (row.map PyData.int ++ [.none]), .tuple (row.map PyData.int ++ [.str "0"]), .tuple [ti row], .int 0, .str ""]) (ea_cons (one ex_cI) (ea_cons (one ex_cI) (ea_cons (more rfl ex_cI) (ea_cons (more rfl (ex_neg ex_cI)) (ea_cons (more rfl ex_cB) (ea_cons (more rfl ex_cN) (ea_cons (more rfl ex_cS) (ea_cons (one (ex_v rfl)) (ea_cons ex_cI (ea_cons ex_cS ea_nil)))))))))) (Nat.le_of_ble_eq_true rfl))) ⟨_, _, _, rfl, .z, by show 18 ≤ 100000; decide, ?_⟩))
    have hb1 : ∀ d ∈ [PyData.tuple [.int 8], .tuple [.int 9], .tuple (row.map PyData.int ++ [.int 9]), .tuple (row.map PyData.int ++ [.int (-1)]), .tuple (row.map PyData.int ++ [.bool true]), .tuple (row.map PyData.int ++ [.none]), .tuple (row.map PyData.int ++ [.str "0"]), .tuple [ti row], .int 0, .str ""], Vn d := fun d hd => by
      simp only [List.mem_cons, List.not_mem_nil, or_false] at hd
      rcases hd with e | e | e | e | e | e | e | e | e | e <;> rw [e]
      · exact vn_ts (sm_one (sm_int (by omega))) (by show 1 ≤ 20; decide)
      · exact vn_ts (sm_one (sm_int (by omega))) (by show 1 ≤ 20; decide)
      · exact vmore (sm_int (by omega))
      · exact vmore (sm_int (by omega))
      · exact vmore (nice_bool _)
      · exact vmore nice_none
      · exact vmore nice_str
      · exact (nice_tup (niceL_cons (n := 0) (nice_ts hrs (by rw [List.length_map]; omega)) niceL_nil)).mono (by decide) (by decide)
      · exact vn_int (by omega)
      · exact nice_str
    have hb : ∀ d ∈ _ ++ _, Vn d := fun d hd => (List.mem_append.mp hd).elim (hb0 d) (hb1 d)
    have hbl : (([ti (row ++ [x]), .tuple (cutD (row.map PyData.int) none (some (-1))), .tuple (row.map PyData.int ++ cutD (row.map PyData.int) (some (-1)) none), .tuple (List.replicate (8 : Int).toNat [PyData.int 0]).flatten, .tuple (List.replicate (9 : Int).toNat [PyData.int 0]).flatten, .tuple (cutD (row.map PyData.int) (some 1) none), .list (row.map PyData.int), .none] : List PyData) ++ [PyData.tuple [.int 8], .tuple [.int 9], .tuple (row.map PyData.int ++ [.int 9]), .tuple (row.map PyData.int ++ [.int (-1)]), .tuple (row.map PyData.int ++ [.bool true]), .tuple (row.map PyData.int ++ [.none]), .tuple (row.map PyData.int ++ [.str "0"]), .tuple [ti row], .int 0, .str ""]).length = 18 := rfl
    show Ho B _ _ [MO.lst p2 (_ ++ _), _, _]
    clear hb0 hb1
    generalize (([ti (row ++ [x]), .tuple (cutD (row.map PyData.int) none (some (-1))), .tuple (row.map PyData.int ++ cutD (row.map PyData.int) (some (-1)) none), .tuple (List.replicate (8 : Int).toNat [PyData.int 0]).flatten, .tuple (List.replicate (9 : Int).toNat [PyData.int 0]).flatten, .tuple (cutD (row.map PyData.int) (some 1) none), .list (row.map PyData.int), .none] : List PyData) ++ [PyData.tuple [.int 8], .tuple [.int 9], .tuple (row.map PyData.int ++ [.int 9]), .tuple (row.map PyData.int ++ [.int (-1)]), .tuple (row.map PyData.int ++ [.bool true]), .tuple (row.map PyData.int ++ [.none]), .tuple (row.map PyData.int ++ [.str "0"]), .tuple [ti row], .int 0, .str ""]) = bent0 at *
    refine x_sq (x_forR1 (n := (row.length : Int)) (ea_cons (ex_len (e := PyData.int) (xs := row) (ex_v rfl)) ea_nil) (by omega) (fun n ε L => ∃ (bent : List PyData) (b : Bag), (∀ d ∈ bent, Vn d) ∧ bent.length = 18 + 2 * n ∧ ε = [bagv pb, dv (.tuple [ti r0, ti r1]), bagv p, iv (i : Int), dv (ti row), dv (ti rest), bagv p2, none, none, none] ∧ L = [.lst p2 bent, .lst p acc, b.at pb pc]) ⟨bent0, b1, hb, hbl, rfl, rfl⟩ ?_ ?_)
    · rintro n ε' L' hn ⟨bent, b2, hbe, hbel, rfl, rfl⟩
      have hn : n < row.length := by omega
      have hx : row[n]? = some row[n] := List.getElem?_eq_getElem hn
      have hxs := hr.small _ (List.getElem_mem hn)
      generalize row[n] = rn at *
      have at4 : ∀ {ε : Eps} {L : Own}, ε[4]? = some (dv (ti row)) → ε[7]? = some (iv (n : Int)) → EX B (tOp (rIxT B.K) (tVar 4) (tVar 7)) ε L (.d (.int rn)) L := fun h h2 => ex_at (e := PyData.int) (xs := row) (ex_v h) (ex_v h2) rfl hx
      refine x_seq (x_setV (e := PyData.int) (w_pick (pb := pb) (pc := pc) (wa_x (ex_v rfl) (wa_v (w_dispL (e := PyData.int) (wa_v (e := PyData.int) (w_drw (pb := pb) (pc := pc) rfl ex_cI (fun b' => .s (.s .z)) (by decide) fun z b3 g2 g3 => wa_x (ex_add (at4 rfl rfl) ex_cI) (wa_x (ex_max2 ex_cI (ex_sub (at4 rfl rfl) ex_cI)) (wa_nil ⟨[z, rn + 1, if rn - 1 > 0 then rn - 1 else 0], rfl, by show 3 ≤ 100000; decide, wa_nil ⟨_, b3, _, rfl, fun b' => .s (.s .z), List.cons_ne_nil _ _, by show 3 ≤ 100000; decide, fun worth b4 hworth => ?_⟩⟩)))))))) (fun x => .s (.s (.s (.s (.s (.s (.s (.s (.s .z))))))))))
      have hwb : -1000 ≤ worth ∧ worth ≤ 1000 := by
        simp only [List.mem_cons, List.not_mem_nil, or_false] at hworth
        rcases hworth with e | e | e
        · omega
        · omega
        · rw [e]; split <;> omega
      clear hworth
      refine x_sq (x_appW (e := eD) (ex_v rfl) ⟨_, _, .z⟩ (wv_of (x := .tuple (cutD (row.map PyData.int) none (some (n : Int)) ++ [.int worth] ++ cutD (row.map PyData.int) (some ((n : Int) + 1)) none)) (ex_catT (ds := cutD (row.map PyData.int) none (some (n : Int)) ++ [.int worth]) (ex_catT (ds := cutD (row.map PyData.int) none (some (n : Int))) (es := [.int worth]) (ex_slT (ds := row.map PyData.int) (ex_v rfl) eo_n (eo_s (ex_v rfl))) (one (ex_v rfl)) ?_) (ex_slT (ds := row.map PyData.int) (ex_v rfl) (eo_s (ex_add (ex_v rfl) ex_cI)) eo_n) ?_) ⟨bent, _, .z, by omega, ?_⟩))
      · have := cl (lo := none) (hi := some (n : Int))
        show _ + 1 ≤ 100000
        omega
      · have := cl (lo := none) (hi := some (n : Int))
        have := cl (lo := some ((n : Int) + 1)) (hi := none)
        rw [List.length_append]
        show _ + 1 + _ ≤ 100000
        omega
      have ns : ∀ {z : PyData}, Sm z → Vn (.tuple (cutD (row.map PyData.int) none (some (n : Int)) ++ [z] ++ cutD (row.map PyData.int) (some ((n : Int) + 1)) none)) := fun hz => vn_ts (sm_app (sm_app (sm_cut hrs) (sm_one hz)) (sm_cut hrs)) (by
        have := cl (lo := none) (hi := some (n : Int))
        have := cl (lo := some ((n : Int) + 1)) (hi := none)
        rw [List.length_append, List.length_append, List.length_singleton]
        omega)
      have hv1 := ns (sm_int hwb)
      refine nxt (x_appW (e := eT eD) (ex_v rfl) ⟨_, _, .z⟩ (w_catT (e := eD) (w_catT (e := eD) (wv_tup (ds := cutD (row.map PyData.int) none (some (n : Int))) (ex_slT (ds := row.map PyData.int) (ex_v rfl) eo_n (eo_s (ex_v rfl))) (w_dispT (e := eD) (wa_v (e := eD) (w_pck (pb := pb) (pc := pc) (e := eD) (xs := [.bool (rn != 0), .int (-1), .int 9, .tuple [.int 0], .str (Str.ofString (toString rn)), .none]) rfl (ex_frz (en_lst (ds := [.bool (rn != 0), .int (-1), .int 9, .tuple [.int 0], .str (Str.ofString (toString rn)), .none]) (ea_cons (ex_boolI (at4 rfl rfl)) (ea_cons (ex_neg ex_cI) (ea_cons ex_cI (ea_cons (one ex_cI) (ea_cons (ex_strS (at4 rfl rfl) ?_) (ea_cons ex_cN ea_nil)))))) (Nat.le_of_ble_eq_true rfl))) (fun b' => .s (.s .z)) (List.cons_ne_nil _ _) (by show 6 ≤ 100000; decide) fun z b5 hz => wa_nil ⟨[z], rfl, by show 1 ≤ 100000; decide, ?_, ?_⟩)))))))
      · have : rn.natAbs < 2 ^ 1920 := by
          have : rn.natAbs < 2 ^ 10 := by omega
          exact Nat.lt_trans this (Nat.pow_lt_pow_right (by decide) (by decide))
        by_cases c : rn.natAbs = 0
        · rw [c]; decide
        · exact (Nat.log2_lt c).mpr this
      · have := cl (lo := none) (hi := some (n : Int))
        show _ + 1 ≤ 100000
        omega
      · refine wv_tup (ds := cutD (row.map PyData.int) (some ((n : Int) + 1)) none) (ex_slT (ds := row.map PyData.int) (ex_v rfl) (eo_s (ex_add (ex_v rfl) ex_cI)) eo_n) ⟨?_, ?_⟩
        · have := cl (lo := none) (hi := some (n : Int))
          have := cl (lo := some ((n : Int) + 1)) (hi := none)
          rw [List.length_append]
          show _ + 1 + _ ≤ 100000
          omega
        · have hzs : Sm z := by
            simp only [List.mem_cons, List.not_mem_nil, or_false] at hz
            rcases hz with e | e | e | e | e | e <;> rw [e]
            · exact nice_bool _
            · exact sm_int (by omega)
            · exact sm_int (by omega)
            · exact (nice_tup (niceL_cons (k := 0) (m := 0) (n := 0) (nice_int (bd_zero _)) niceL_nil)).mono (by decide) (by decide)
            · exact digit_nice hxs
            · exact nice_none
          have hv2 := ns hzs
          have e2 : eT eD (cutD (row.map PyData.int) none (some (n : Int)) ++ [z] ++ cutD (row.map PyData.int) (some ((n : Int) + 1)) none) = .tuple (cutD (row.map PyData.int) none (some (n : Int)) ++ [z] ++ cutD (row.map PyData.int) (some ((n : Int) + 1)) none) := by unfold eT; rw [map_eD]
          rw [e2]
          refine ⟨_, _, .z, by rw [List.length_append]; show bent.length + 1 < 100000; omega, nxt (x_end ⟨_, b5, fun d hd => ?_, ?_, rfl, rfl⟩)⟩
          · rcases List.mem_append.mp hd with m | m
            · rcases List.mem_append.mp m with m | m
              · exact hbe d m
              · rw [List.mem_singleton.mp m]; exact hv1
            · rw [List.mem_singleton.mp m]; exact hv2
          · rw [List.length_append, List.length_append, hbel, List.length_singleton, List.length_singleton]; omega
    · rintro ε' L' ⟨bent, b2, hbe, hbel, rfl, rfl⟩
      rw [Int.toNat_natCast] at hbel
      refine nxt (x_forO (p := p2) (ds := bent) (ex_v rfl) (fun n ε L => ∃ acc2 : List PyData, (∀ d ∈ acc2, Nice 4 300 d) ∧ acc2.length = acc.length + n ∧ ε = [bagv pb, dv (.tuple [ti r0, ti r1]), bagv p, iv (i : Int), dv (ti row), dv (ti rest), bagv p2, none, none, none] ∧ L = [.lst p2 bent, .lst p acc2, b2.at pb pc]) ⟨acc, ha, rfl, rfl, rfl⟩ (fun n ε' L' ⟨_, _, _, _, h⟩ => by rw [h]; exact List.mem_cons_self) ?_ ?_)
      · rintro n d ε' L' hd ⟨acc2, ha2, hal2, rfl, rfl⟩
        have hnl := (List.getElem?_eq_some_iff.mp hd).1
        have hdv := hbe d (List.mem_of_getElem? hd)
        refine ⟨_, gt_name, ?_⟩
        have hrest : Nice 2 120 (ti rest) := nice_ts ht.sm (by rw [List.length_map]; have := ht.len; omega)
        have key : Nice 4 300 (if decide ((i : Int) = 0) = true then .tuple [d, ti rest] else .tuple [ti rest, d]) := by
          split
          · exact (nice_tup (niceL_cons (k := 3) (m := 200) hdv (niceL_cons (m := 60) (n := 0) ((nice_tup ((niceL_all ht.sm).mono (Nat.le_refl _) (by rw [List.length_map]; have := ht.len; omega))).mono (by decide) (Nat.le_refl _)) niceL_nil))).mono (by decide) (by decide)
          · exact (nice_tup (niceL_cons (k := 3) (m := 60) ((nice_tup ((niceL_all ht.sm).mono (Nat.le_refl _) (by rw [List.length_map]; have := ht.len; omega))).mono (by decide) (Nat.le_refl _)) (niceL_cons (m := 200) (n := 0) hdv niceL_nil))).mono (by decide) (by decide)
        refine x_appW (e := eD) (ex_v rfl) ⟨_, _, .s .z⟩ (wv_of (L' := [.lst p2 bent, .lst p acc2, b2.at pb pc]) (x := if decide ((i : Int) = 0) = true then .tuple [d, ti rest] else .tuple [ti rest, d]) (ex_if (b := decide ((i : Int) = 0)) (et_test (ex_eqI (ex_v rfl) ex_cI)) (fun h => ?_) fun h => ?_) ⟨_, _, .s .z, by omega, nxt (x_end ⟨_, fun d' hd' => ?_, ?_, rfl, rfl⟩)⟩)
        · rw [if_pos h]
          exact ex_tup (ds := [d, ti rest]) (ea_cons (ex_v rfl) (ea_cons (ex_v rfl) ea_nil)) (Nat.le_of_ble_eq_true rfl)
        · rw [if_neg (by rw [h]; decide)]
          exact ex_tup (ds := [ti rest, d]) (ea_cons (ex_v rfl) (ea_cons (ex_v rfl) ea_nil)) (Nat.le_of_ble_eq_true rfl)
        · rcases List.mem_append.mp hd' with m | m
          · exact ha2 d' m
          · rw [List.mem_singleton.mp m]; exact key
        · rw [List.length_append, hal2, List.length_singleton]; omega
      · rintro ε' L' ⟨acc2, ha2, hal2, rfl, rfl⟩
        refine nxt (ho_off hp2 (x_end ⟨acc2, b2, ha2, by omega, fun _ => ?_, rfl, rfl⟩))
        intro e
        rw [e] at hal2
        have : (0 : Nat) = acc.length + bent.length := hal2
        omega
  · rintro ε' L' ⟨acc, b, ha, hal, hne, rfl, rfl⟩
    exact nxt (x_retG' q (wr_var rfl ⟨_, _, acc, hp, rfl, (by unfold eL; rw [map_eD]), ⟨ha, by have e : (2 : Int).toNat = 2 := rfl; omega, hne (by decide)⟩, b, by simp⟩))
end K88

/-! ## G11 -/
set_option Elab.async false
set_option linter.all false
set_option maxRecDepth 100000
set_option maxHeartbeats 4000000
set_option autoImplicit false
namespace K88
open PySem L2 Fz K80 Ways
variable {P : Program} {w : World} {K : PySem.W.Frag} {mg : Str → Option Value} {base : Heap} {f : Addr} {fd : FuncData}
/-! ### texts of words -/
def Low (s : Str) : Prop := ∀ c ∈ s.cps.toList, c < 16 ^ 8
theorem low_app {a b : Str} (h : Low a) (h2 : Low b) : Low (a ++ b) := fun c hc => by
  have e : (a ++ b).cps.toList = a.cps.toList ++ b.cps.toList := by
    show (a.cps ++ b.cps).toList = _
    rw [Array.toList_append]
  rw [e] at hc
  exact (List.mem_append.mp hc).elim (h c) (h2 c)
theorem low_join : ∀ ts : List Str, (∀ t ∈ ts, Low t) → Low (Str.join ", " ts)
  | [], _ => fun c hc => nomatch hc
  | [x], h => h x List.mem_cons_self
  | x :: y :: r, h => by
    have ih := low_join (y :: r) fun t ht => h t (List.mem_cons_of_mem _ ht)
    show Low (x ++ ", " ++ Str.join ", " (y :: r))
    exact low_app (low_app (h x List.mem_cons_self) (by unfold Low; decide)) ih
theorem low_tuple {ts : List Str} (h : ∀ t ∈ ts, Low t) : Low (tupleText ts) := by
  unfold tupleText
  refine low_app (low_app (by unfold Low; decide) (low_join ts h)) ?_
  split <;> (unfold Low; decide)
theorem shownAll_map : ∀ ds : List PyData, PyData.shownAll ds = ds.map PyData.shown
  | [] => by simp only [PyData.shownAll, List.map_nil]
  | d :: ds => by simp only [PyData.shownAll, List.map_cons, shownAll_map ds]
theorem low_digit {i : Int} (h : 0 ≤ i ∧ i ≤ 9) : Low (PyData.int i).shown := by
  rw [PyData.shown_int]
  have : i = 0 ∨ i = 1 ∨ i = 2 ∨ i = 3 ∨ i = 4 ∨ i = 5 ∨ i = 6 ∨ i = 7 ∨ i = 8 ∨ i = 9 := by omega
  rcases this with e | e | e | e | e | e | e | e | e | e <;> rw [e] <;> (unfold Low; decide +kernel)
structure WordOk (r : List Int) : Prop where
  len : r.length ≤ 16
  small : ∀ x ∈ r, 0 ≤ x ∧ x ≤ 9
theorem WordOk.sm {r : List Int} (h : WordOk r) : ∀ d ∈ r.map PyData.int, Sm d := fun d hd => by
  obtain ⟨x, hx, rfl⟩ := List.mem_map.mp hd
  have := h.small x hx
  exact sm_int (by omega)
theorem low_word {W : List Int} (h : WordOk W) : Low (PyData.tuple (W.map PyData.int)).shown := by
  simp only [PyData.shown]
  rw [shownAll_map]
  refine low_tuple fun t ht => ?_
  obtain ⟨d, hd, rfl⟩ := List.mem_map.mp ht
  obtain ⟨x, hx, rfl⟩ := List.mem_map.mp hd
  exact low_digit (h.small x hx)
theorem word_shown {W : List Int} (h : WordOk W) : (PyData.tuple (W.map PyData.int)).shown.length ≤ 200000 := by
  have n : Nice 2 120 (.tuple (W.map PyData.int)) := nice_ts h.sm (by rw [List.length_map]; have := h.len; omega)
  have := PyData.shown_le_bulk 700 (by decide) _ n.lf
  have h2 := n.bk
  have : (700 + 2) * (PyData.tuple (W.map PyData.int)).bulk ≤ 702 * 120 := Nat.mul_le_mul_left _ h2
  omega
theorem jok_text {z : Str} (h : Low z) (hl : z.length ≤ 200000) : JOk (.tuple [.str "word", .str z]) := by
  refine ⟨fun a ds e => ?_, rfl, rfl, Nat.le_of_ble_eq_true rfl, ?_⟩
  · cases e
  · have h1 := StrLaws.reprText_len z h
    have h2 := tupleText_len_le [(PyData.str "word").shown, (PyData.str z).shown]
    have e : (PyData.tuple [.str "word", .str z]).shown = tupleText [(PyData.str "word").shown, (PyData.str z).shown] := by simp only [PyData.shown, PyData.shownAll]
    have e2 : (PyData.str z).shown = reprText z := by simp only [PyData.shown]
    have e3 : (PyData.str "word").shown.length ≤ 100 := by decide +kernel
    have e4 : z.length = z.cps.size := rfl
    rw [e, sizeLine_eq]
    rw [e2] at h2
    simp only [List.map_cons, List.map_nil, List.sum_cons, List.sum_nil, List.length_cons, List.length_nil] at h2
    rw [e2]
    omega
/-! ### other values -/
abbrev Nv (d : PyData) : Prop := Nice 5 500 d
theorem nv2 {a b : PyData} (h : Nv a) (h2 : Nv b) : JOk (.tuple [a, b]) := JOk.of (nice_tup (niceL_cons h (niceL_cons (n := 0) h2 niceL_nil))) (by decide) (by decide)
theorem nv3 {a b c : PyData} (h : Nv a) (h2 : Nv b) (h3 : Nv c) : JOk (.tuple [a, b, c]) := JOk.of (nice_tup (niceL_cons h (niceL_cons h2 (niceL_cons (n := 0) h3 niceL_nil)))) (by decide) (by decide)
theorem nvl2 {a b : PyData} (h : Nv a) (h2 : Nv b) : JOk (.list [a, b]) := JOk.of (nice_lst (niceL_cons h (niceL_cons (n := 0) h2 niceL_nil))) (by decide) (by decide)
theorem nv1 {a : PyData} (h : Nv a) : JOk (.tuple [a]) := JOk.of (nice_tup (niceL_cons (n := 0) h niceL_nil)) (by decide) (by decide)
theorem nv0 {a : PyData} (h : Nv a) : JOk a := JOk.of h (by decide) (by decide)
theorem jok_dict : JOk (.dict []) := ⟨(fun _ _ e => by cases e), rfl, rfl, by decide, by rw [sizeLine_eq]; decide +kernel⟩
structure OtherOk (xs : List PyData) : Prop where
  all : ∀ d ∈ xs, JOk d
  len : xs.length ≤ 100
abbrev S_law_other_values (K : PySem.W.Frag) : Sp := spG K (fun y : (List Int × List Int) × List Int => [.tuple [ti y.1.1, ti y.1.2], ti y.2]) (fun y => RowOk y.1.1 ∧ RowOk y.1.2 ∧ WordOk y.2) (eL eD) (fun _ xs => OtherOk xs)
section
variable {B : Bg} {ε : Eps} {L : Own} {ta tb tc : TE} {a b c : PyData}
theorem t1 (h : EX B ta ε L (.d a) L) : EX B (tTup (tCons ta tNil)) ε L (.d (.tuple [a])) L := ex_tup (ds := [a]) (ea_cons h ea_nil) (Nat.le_of_ble_eq_true rfl)
theorem t2 (h : EX B ta ε L (.d a) L) (h2 : EX B tb ε L (.d b) L) : EX B (tTup (tCons ta (tCons tb tNil))) ε L (.d (.tuple [a, b])) L := ex_tup (ds := [a, b]) (ea_cons h (ea_cons h2 ea_nil)) (Nat.le_of_ble_eq_true rfl)
theorem t3 (h : EX B ta ε L (.d a) L) (h2 : EX B tb ε L (.d b) L) (h3 : EX B tc ε L (.d c) L) : EX B (tTup (tCons ta (tCons tb (tCons tc tNil)))) ε L (.d (.tuple [a, b, c])) L := ex_tup (ds := [a, b, c]) (ea_cons h (ea_cons h2 (ea_cons h3 ea_nil))) (Nat.le_of_ble_eq_true rfl)
theorem l2 (h : EX B ta ε L (.d a) L) (h2 : EX B tb ε L (.d b) L) : EX B (tLst (tCons ta (tCons tb tNil))) ε L (.d (.list [a, b])) L := ex_frz (en_lst (ds := [a, b]) (ea_cons h (ea_cons h2 ea_nil)) (Nat.le_of_ble_eq_true rfl))
theorem t0 : EX B (tTup tNil) ε L (.d (.tuple [])) L := ex_tup (ds := []) ea_nil (Nat.zero_le _)
end
theorem all_app {p : PyData → Prop} {xs ys : List PyData} (h : ∀ d ∈ xs, p d) (h2 : ∀ d ∈ ys, p d) : ∀ d ∈ xs ++ ys, p d := fun d hd => (List.mem_append.mp hd).elim (h d) (h2 d)
theorem all_cons {p : PyData → Prop} {x : PyData} {ys : List PyData} (h : p x) (h2 : ∀ d ∈ ys, p d) : ∀ d ∈ x :: ys, p d := fun d hd => by
  rcases List.mem_cons.mp hd with e | m
  · rw [e]; exact h
  · exact h2 d m
theorem all_nil {p : PyData → Prop} : ∀ d ∈ ([] : List PyData), p d := fun _ h => nomatch h
theorem okd_law_other_values (Fn : Fun K "_law_other_values" "_law_other_values" s_law_other_values f fd) (T : Bt P mg base) (D_law_pick : Df P w K mg base 42 "_law_pick" ["bag", "some"] (S_law_pick K)) : GOk P w K mg base 43 f fd ["bag", "rows", "word"] (S_law_other_values K) := by
  refine g_G Fn sc_law_other_values (by decide) (fun _ => rfl) fun cdv A outer s H hr hG => ⟨_, (pss_cons (ps_set (i := 3) sc_law_other_values.nd rfl (.inl rfl) (pe_lst (pa_cons pe_non (pa_cons (pe_tup pa_nil) (pa_cons pe_str (pa_cons pe_str (pa_cons pe_int (pa_cons pe_bl (pa_cons (pe_lst pa_nil) (pa_cons pe_dnewK (pa_cons (pe_tup (pa_cons pe_str pa_nil)) (pa_cons (pe_tup (pa_cons pe_str pa_nil)) (pa_cons (pe_tup (pa_cons (pv 1) (pa_cons pe_str pa_nil))) (pa_cons (pe_tup (pa_cons (pv 2) (pa_cons pe_str pa_nil))) pa_nil))))))))))))))
      (pss_cons (ps_expr (pe_bm PySem.F.plainAttrs_list PySem.F.slot_list_extend PySem.F.type_list_extend mt_extend (pv 3) (pa_cons (pe_lst (pa_cons (pe_lst (pa_cons pe_str (pa_cons (pv 1) pa_nil))) (pa_cons (pe_lst (pa_cons pe_str (pa_cons (pv 2) pa_nil))) (pa_cons (pe_tup (pa_cons pe_str (pa_cons (pv 1) (pa_cons (pe_tup pa_nil) pa_nil)))) (pa_cons (pe_tup (pa_cons pe_str (pa_cons (pv 2) (pa_cons (pe_tup pa_nil) pa_nil)))) (pa_cons (pe_tup (pa_cons pe_str (pa_cons (pv 1) pa_nil))) pa_nil)))))) pa_nil)))
      (pss_cons (ps_expr (pe_bm PySem.F.plainAttrs_list PySem.F.slot_list_extend PySem.F.type_list_extend mt_extend (pv 3) (pa_cons (pe_lst (pa_cons (pe_tup (pa_cons pe_str (pa_cons (pv 2) pa_nil))) (pa_cons (pe_tup (pa_cons pe_str (pa_cons (pv 1) pa_nil))) (pa_cons (pe_tup (pa_cons pe_non (pa_cons (pv 2) pa_nil))) (pa_cons (pe_tup (pa_cons pe_int (pa_cons (pv 1) pa_nil))) (pa_cons (pe_tup (pa_cons pe_str (pa_cons (pe_callTy (r := rListOf K) call_list_of (by rfl) T.n_list (by decide +kernel) (pa_cons (pv 1) pa_nil)) pa_nil))) (pa_cons (pe_tup (pa_cons pe_str (pa_cons (pe_ix (r := rIxT K) ix_tup (pv 1) pe_int (fun _ _ => rfl)) pa_nil))) pa_nil))))))) pa_nil)))
      (pss_cons (ps_expr (pe_bm PySem.F.plainAttrs_list PySem.F.slot_list_extend PySem.F.type_list_extend mt_extend (pv 3) (pa_cons (pe_lst (pa_cons (pe_tup (pa_cons pe_str (pa_cons (pe_op (r := rCatA K) op_catA (pv 1) (pe_tup (pa_cons (pe_tup pa_nil) pa_nil))) pa_nil))) (pa_cons (pe_tup (pa_cons pe_str (pa_cons (pe_slice (r := rSlA K) sl_tupA (pv 1) po_none (po_some pe_int)) pa_nil))) (pa_cons (pe_tup (pa_cons pe_str (pa_cons (pv 2) pa_nil))) (pa_cons (pe_tup (pa_cons pe_str (pa_cons (pv 1) pa_nil))) (pa_cons (pe_tup (pa_cons pe_str (pa_cons (pe_callTy (r := rListOf K) call_list_of (by rfl) T.n_list (by decide +kernel) (pa_cons (pv 2) pa_nil)) pa_nil))) pa_nil)))))) pa_nil)))
      (pss_cons (ps_expr (pe_bm PySem.F.plainAttrs_list PySem.F.slot_list_extend PySem.F.type_list_extend mt_extend (pv 3) (pa_cons (pe_lst (pa_cons (pe_tup (pa_cons pe_str (pa_cons pe_non pa_nil))) (pa_cons (pe_tup (pa_cons pe_str (pa_cons pe_str pa_nil))) (pa_cons (pe_tup (pa_cons pe_str (pa_cons pe_str pa_nil))) (pa_cons (pe_tup (pa_cons pe_str (pa_cons pe_non pa_nil))) (pa_cons (pe_tup (pa_cons (pe_tup (pa_cons pe_str pa_nil)) (pa_cons (pv 1) pa_nil))) (pa_cons (pe_tup (pa_cons pe_str (pa_cons pe_str pa_nil))) pa_nil))))))) pa_nil)))
      (pss_cons (ps_expr (pe_bm PySem.F.plainAttrs_list PySem.F.slot_list_extend PySem.F.type_list_extend mt_extend (pv 3) (pa_cons (pe_lst (pa_cons (pe_tup (pa_cons pe_str (pa_cons (pv 1) pa_nil))) (pa_cons (pe_tup (pa_cons pe_str (pa_cons (pe_callTy (r := rStrD K) (call_strD hr hG) (by rfl) T.n_str (by decide +kernel) (pa_cons (pv 2) pa_nil)) pa_nil))) (pa_cons (pe_tup (pa_cons pe_str (pa_cons (pe_callD D_law_pick (hr.mono (by decide)) (by rfl) (pa_cons (pv 0) (pa_cons (pe_lst (pa_cons pe_int (pa_cons pe_bl (pa_cons (pe_tup (pa_cons pe_non pa_nil)) (pa_cons (pe_tup (pa_cons (pe_tup pa_nil) pa_nil)) pa_nil))))) pa_nil))) pa_nil))) pa_nil)))) pa_nil)))
      (pss_one (ps_ret (pv 3))))))))), ?_⟩
  rintro B Q pb pc b ⟨⟨r0, r1⟩, W⟩ rfl ⟨h0, h1, hW⟩ q
  dsimp only at h0 h1 hW
  show Ho B _ [bagv pb, dv (.tuple [ti r0, ti r1]), dv (ti W), none] [b.at pb pc]
  have n0 : Nice 2 60 (ti r0) := nice_tup ((niceL_all h0.sm).mono (Nat.le_refl _) (by rw [List.length_map]; have := h0.len; omega))
  have n1 : Nice 2 60 (ti r1) := nice_tup ((niceL_all h1.sm).mono (Nat.le_refl _) (by rw [List.length_map]; have := h1.len; omega))
  have nr : Nv (.tuple [ti r0, ti r1]) := (nice_tup (niceL_cons n0 (niceL_cons (n := 0) n1 niceL_nil))).mono (by decide) (by decide)
  have nrl : Nv (.list [ti r0, ti r1]) := (nice_lst (niceL_cons n0 (niceL_cons (n := 0) n1 niceL_nil))).mono (by decide) (by decide)
  have nr3 : Nv (.tuple [ti r0, ti r1, .tuple []]) := (nice_tup (niceL_cons n0 (niceL_cons n1 (niceL_cons (k := 2) (m := 0) (n := 0) (nice_tup niceL_nil) niceL_nil)))).mono (by decide) (by decide)
  have nr1 : Nv (.tuple [ti r0]) := (nice_tup (niceL_cons (n := 0) n0 niceL_nil)).mono (by decide) (by decide)
  have nr0 : Nv (ti r0) := n0.mono (by decide) (by decide)
  have nw : Nv (ti W) := (nice_ts hW.sm (by rw [List.length_map]; have := hW.len; omega)).mono (by decide) (by decide)
  have nwl : Nv (.list (W.map PyData.int)) := (nice_ls hW.sm (by rw [List.length_map]; have := hW.len; omega)).mono (by decide) (by decide)
  have nt : Nv (.tuple []) := nice_tup niceL_nil
  have n5 : ∀ i : Int, -1000 ≤ i ∧ i ≤ 1000 → Nv (.int i) := fun i hi => (sm_int hi).mono (by decide) (by decide)
  have nsame : Nv (.tuple [.str "same"]) := (nice_tup (niceL_cons (k := 2) (m := 5) (n := 0) nice_str niceL_nil)).mono (by decide) (by decide)
  have rw' : ∀ {ε : Eps} {L : Own}, ε[1]? = some (dv (.tuple [ti r0, ti r1])) → EX B (tVar 1) ε L (.d (.tuple [ti r0, ti r1])) L := fun h => ex_v h
  have wd' : ∀ {ε : Eps} {L : Own}, ε[2]? = some (dv (ti W)) → EX B (tVar 2) ε L (.d (ti W)) L := fun h => ex_v h
  refine x_seq (x_setN (en_lst (ds := [.none, .tuple [], .str "same", .str "word", .int 0, .bool true, .list [], .dict [], .tuple [.str "same"], .tuple [.str "word"], .tuple [.tuple [ti r0, ti r1], .str "same"], .tuple [ti W, .str "word"]]) (ea_cons ex_cN (ea_cons t0 (ea_cons ex_cS (ea_cons ex_cS (ea_cons ex_cI (ea_cons ex_cB (ea_cons (ex_frz (en_lst (ds := []) ea_nil (Nat.zero_le _))) (ea_cons ex_dnew (ea_cons (t1 ex_cS) (ea_cons (t1 ex_cS) (ea_cons (t2 (rw' rfl) ex_cS) (ea_cons (t2 (wd' rfl) ex_cS) ea_nil)))))))))))) (Nat.le_of_ble_eq_true rfl)) fun p hp => ?_)
  have a1 : ∀ d ∈ [PyData.none, .tuple [], .str "same", .str "word", .int 0, .bool true, .list [], .dict [], .tuple [.str "same"], .tuple [.str "word"], .tuple [.tuple [ti r0, ti r1], .str "same"], .tuple [ti W, .str "word"]], JOk d := all_cons (nv0 nice_none) (all_cons (nv0 nt) (all_cons (nv0 nice_str) (all_cons (nv0 nice_str) (all_cons (nv0 (n5 0 (by decide))) (all_cons (nv0 (nice_bool _)) (all_cons (nv0 (nice_lst niceL_nil)) (all_cons jok_dict (all_cons (nv1 nice_str) (all_cons (nv1 nice_str) (all_cons (nv2 nr nice_str) (all_cons (nv2 nw nice_str) all_nil)))))))))))
  have c1 : ([PyData.none, .tuple [], .str "same", .str "word", .int 0, .bool true, .list [], .dict [], .tuple [.str "same"], .tuple [.str "word"], .tuple [.tuple [ti r0, ti r1], .str "same"], .tuple [ti W, .str "word"]] : List PyData).length = 12 := rfl
  generalize ([PyData.none, .tuple [], .str "same", .str "word", .int 0, .bool true, .list [], .dict [], .tuple [.str "same"], .tuple [.str "word"], .tuple [.tuple [ti r0, ti r1], .str "same"], .tuple [ti W, .str "word"]] : List PyData) = f1 at *
  refine x_sq (x_extW (ex_v rfl) ⟨_, _, .z⟩ (wv_of (x := .list [.list [.str "same", .tuple [ti r0, ti r1]], .list [.str "word", ti W], .tuple [.str "same", .tuple [ti r0, ti r1], .tuple []], .tuple [.str "word", ti W, .tuple []], .tuple [.str "Same", .tuple [ti r0, ti r1]]]) (ex_frz (en_lst (ds := [.list [.str "same", .tuple [ti r0, ti r1]], .list [.str "word", ti W], .tuple [.str "same", .tuple [ti r0, ti r1], .tuple []], .tuple [.str "word", ti W, .tuple []], .tuple [.str "Same", .tuple [ti r0, ti r1]]]) (ea_cons (l2 ex_cS (rw' rfl)) (ea_cons (l2 ex_cS (wd' rfl)) (ea_cons (t3 ex_cS (rw' rfl) t0) (ea_cons (t3 ex_cS (wd' rfl) t0) (ea_cons (t2 ex_cS (rw' rfl)) ea_nil))))) (Nat.le_of_ble_eq_true rfl))) ⟨_, f1, _, rfl, .z, by rw [c1]; show 12 + 5 ≤ 100000; decide, ?_⟩))
  have a2 : ∀ d ∈ f1 ++ [PyData.list [.str "same", .tuple [ti r0, ti r1]], .list [.str "word", ti W], .tuple [.str "same", .tuple [ti r0, ti r1], .tuple []], .tuple [.str "word", ti W, .tuple []], .tuple [.str "Same", .tuple [ti r0, ti r1]]], JOk d := all_app a1 (all_cons (nvl2 nice_str nr) (all_cons (nvl2 nice_str nw) (all_cons (nv3 nice_str nr nt) (all_cons (nv3 nice_str nw nt) (all_cons (nv2 nice_str nr) all_nil)))))
  have c2 : (f1 ++ [PyData.list [.str "same", .tuple [ti r0, ti r1]], .list [.str "word", ti W], .tuple [.str "same", .tuple [ti r0, ti r1], .tuple []], .tuple [.str "word", ti W, .tuple []], .tuple [.str "Same", .tuple [ti r0, ti r1]]]).length = 17 := by rw [List.length_append, c1]; rfl
  generalize f1 ++ [PyData.list [.str "same", .tuple [ti r0, ti r1]], .list [.str "word", ti W], .tuple [.str "same", .tuple [ti r0, ti r1], .tuple []], .tuple [.str "word", ti W, .tuple []], .tuple [.str "Same", .tuple [ti r0, ti r1]]] = f2 at *
  refine x_sq (x_extW (ex_v rfl) ⟨_, _, .z⟩ (wv_of (x := .list [.tuple [.str "words", ti W], .tuple [.str "", .tuple [ti r0, ti r1]], .tuple [.none, ti W], .tuple [.int 0, .tuple [ti r0, ti r1]], .tuple [.str "same", .list [ti r0, ti r1]], .tuple [.str "same", ti r0]]) (ex_frz (en_lst (ds := [.tuple [.str "words", ti W], .tuple [.str "", .tuple [ti r0, ti r1]], .tuple [.none, ti W], .tuple [.int 0, .tuple [ti r0, ti r1]], .tuple [.str "same", .list [ti r0, ti r1]], .tuple [.str "same", ti r0]]) (ea_cons (t2 ex_cS (wd' rfl)) (ea_cons (t2 ex_cS (rw' rfl)) (ea_cons (t2 ex_cN (wd' rfl)) (ea_cons (t2 ex_cI (rw' rfl)) (ea_cons (t2 ex_cS (ex_frz (en_listT (ds := [ti r0, ti r1]) (rw' rfl)))) (ea_cons (t2 ex_cS (ex_ixT (ds := [ti r0, ti r1]) (rw' rfl) ex_cI rfl)) ea_nil)))))) (Nat.le_of_ble_eq_true rfl))) ⟨_, f2, _, rfl, .z, by rw [c2]; show 17 + 6 ≤ 100000; decide, ?_⟩))
  have a3 : ∀ d ∈ f2 ++ [PyData.tuple [.str "words", ti W], .tuple [.str "", .tuple [ti r0, ti r1]], .tuple [.none, ti W], .tuple [.int 0, .tuple [ti r0, ti r1]], .tuple [.str "same", .list [ti r0, ti r1]], .tuple [.str "same", ti r0]], JOk d := all_app a2 (all_cons (nv2 nice_str nw) (all_cons (nv2 nice_str nr) (all_cons (nv2 nice_none nw) (all_cons (nv2 (n5 0 (by decide)) nr) (all_cons (nv2 nice_str nrl) (all_cons (nv2 nice_str nr0) all_nil))))))
  have c3 : (f2 ++ [PyData.tuple [.str "words", ti W], .tuple [.str "", .tuple [ti r0, ti r1]], .tuple [.none, ti W], .tuple [.int 0, .tuple [ti r0, ti r1]], .tuple [.str "same", .list [ti r0, ti r1]], .tuple [.str "same", ti r0]]).length = 23 := by rw [List.length_append, c2]; rfl
  generalize f2 ++ [PyData.tuple [.str "words", ti W], .tuple [.str "", .tuple [ti r0, ti r1]], .tuple [.none, ti W], .tuple [.int 0, .tuple [ti r0, ti r1]], .tuple [.str "same", .list [ti r0, ti r1]], .tuple [.str "same", ti r0]] = f3 at *
  refine x_sq (x_extW (ex_v rfl) ⟨_, _, .z⟩ (wv_of (x := .list [.tuple [.str "same", .tuple [ti r0, ti r1, .tuple []]], .tuple [.str "same", .tuple [ti r0]], .tuple [.str "same", ti W], .tuple [.str "word", .tuple [ti r0, ti r1]], .tuple [.str "word", .list (W.map PyData.int)]]) (ex_frz (en_lst (ds := [.tuple [.str "same", .tuple [ti r0, ti r1, .tuple []]], .tuple [.str "same", .tuple [ti r0]], .tuple [.str "same", ti W], .tuple [.str "word", .tuple [ti r0, ti r1]], .tuple [.str "word", .list (W.map PyData.int)]]) (ea_cons (t2 ex_cS (ex_catT (ds := [ti r0, ti r1]) (es := [.tuple []]) (rw' rfl) (t1 t0) (by show 2 + 1 ≤ 100000; decide))) (ea_cons (t2 ex_cS (ex_slT (ds := [ti r0, ti r1]) (rw' rfl) eo_n (eo_s ex_cI))) (ea_cons (t2 ex_cS (wd' rfl)) (ea_cons (t2 ex_cS (rw' rfl)) (ea_cons (t2 ex_cS (ex_frz (en_listT (ds := W.map PyData.int) (wd' rfl)))) ea_nil))))) (Nat.le_of_ble_eq_true rfl))) ⟨_, f3, _, rfl, .z, by rw [c3]; show 23 + 5 ≤ 100000; decide, ?_⟩))
  have a4 : ∀ d ∈ f3 ++ [PyData.tuple [.str "same", .tuple [ti r0, ti r1, .tuple []]], .tuple [.str "same", .tuple [ti r0]], .tuple [.str "same", ti W], .tuple [.str "word", .tuple [ti r0, ti r1]], .tuple [.str "word", .list (W.map PyData.int)]], JOk d := all_app a3 (all_cons (nv2 nice_str nr3) (all_cons (nv2 nice_str nr1) (all_cons (nv2 nice_str nw) (all_cons (nv2 nice_str nr) (all_cons (nv2 nice_str nwl) all_nil)))))
  have c4 : (f3 ++ [PyData.tuple [.str "same", .tuple [ti r0, ti r1, .tuple []]], .tuple [.str "same", .tuple [ti r0]], .tuple [.str "same", ti W], .tuple [.str "word", .tuple [ti r0, ti r1]], .tuple [.str "word", .list (W.map PyData.int)]]).length = 28 := by rw [List.length_append, c3]; rfl
  generalize f3 ++ [PyData.tuple [.str "same", .tuple [ti r0, ti r1, .tuple []]], .tuple [.str "same", .tuple [ti r0]], .tuple [.str "same", ti W], .tuple [.str "word", .tuple [ti r0, ti r1]], .tuple [.str "word", .list (W.map PyData.int)]] = f4 at *
  refine x_sq (x_extW (ex_v rfl) ⟨_, _, .z⟩ (wv_of (x := .list [.tuple [.str "word", .none], .tuple [.str "word", .str ""], .tuple [.str "word", .str "01"], .tuple [.str "same", .none], .tuple [.tuple [.str "same"], .tuple [ti r0, ti r1]], .tuple [.str "same", .str ""]]) (ex_frz (en_lst (ds := [.tuple [.str "word", .none], .tuple [.str "word", .str ""], .tuple [.str "word", .str "01"], .tuple [.str "same", .none], .tuple [.tuple [.str "same"], .tuple [ti r0, ti r1]], .tuple [.str "same", .str ""]]) (ea_cons (t2 ex_cS ex_cN) (ea_cons (t2 ex_cS ex_cS) (ea_cons (t2 ex_cS ex_cS) (ea_cons (t2 ex_cS ex_cN) (ea_cons (t2 (t1 ex_cS) (rw' rfl)) (ea_cons (t2 ex_cS ex_cS) ea_nil)))))) (Nat.le_of_ble_eq_true rfl))) ⟨_, f4, _, rfl, .z, by rw [c4]; show 28 + 6 ≤ 100000; decide, ?_⟩))
  have a5 : ∀ d ∈ f4 ++ [PyData.tuple [.str "word", .none], .tuple [.str "word", .str ""], .tuple [.str "word", .str "01"], .tuple [.str "same", .none], .tuple [.tuple [.str "same"], .tuple [ti r0, ti r1]], .tuple [.str "same", .str ""]], JOk d := all_app a4 (all_cons (nv2 nice_str nice_none) (all_cons (nv2 nice_str nice_str) (all_cons (nv2 nice_str nice_str) (all_cons (nv2 nice_str nice_none) (all_cons (nv2 nsame nr) (all_cons (nv2 nice_str nice_str) all_nil))))))
  have c5 : (f4 ++ [PyData.tuple [.str "word", .none], .tuple [.str "word", .str ""], .tuple [.str "word", .str "01"], .tuple [.str "same", .none], .tuple [.tuple [.str "same"], .tuple [ti r0, ti r1]], .tuple [.str "same", .str ""]]).length = 34 := by rw [List.length_append, c4]; rfl
  generalize f4 ++ [PyData.tuple [.str "word", .none], .tuple [.str "word", .str ""], .tuple [.str "word", .str "01"], .tuple [.str "same", .none], .tuple [.tuple [.str "same"], .tuple [ti r0, ti r1]], .tuple [.str "same", .str ""]] = f5 at *
  have hlow := low_word hW
  have hsh := word_shown hW
  have nwd : Nice 2 120 (.tuple (W.map PyData.int)) := nice_ts hW.sm (by rw [List.length_map]; have := hW.len; omega)
  have shw := nwd.show (by decide) (by decide)
  have dpw := nwd.dp
  have jst := jok_text hlow hsh
  refine x_sq (x_extW (ex_v rfl) ⟨_, _, .z⟩ (wv_as (e := eL eD) (w_dispL (e := eD) (wa_x (t2 (a := .str "place") ex_cS (rw' rfl)) (wa_x (t2 (a := .str "word") ex_cS (ex_strT (ds := W.map PyData.int) (wd' rfl) shw.1 (by unfold repOk; rw [shw.2.1]; rfl) (by omega) shw.2.2.2)) (wa_v (e := eP PyData.str eD) (w_pair (e := PyData.str) (f := eD) (wv_of (e := PyData.str) (x := ("word" : Str)) ex_cS (w_pck (pb := pb) (pc := pc) (e := eD) (xs := [.int 5, .bool false, .tuple [.none], .tuple [.tuple []]]) rfl (ex_frz (en_lst (ds := [.int 5, .bool false, .tuple [.none], .tuple [.tuple []]]) (ea_cons ex_cI (ea_cons ex_cB (ea_cons (t1 ex_cN) (ea_cons (t1 t0) ea_nil)))) (Nat.le_of_ble_eq_true rfl))) (fun b' => .s .z) (List.cons_ne_nil _ _) (by show 4 ≤ 100000; decide) fun z b1 hz => wa_nil ⟨[_, _, _], rfl, by show 3 ≤ 100000; decide, _, rfl, [.tuple [.str "place", .tuple [ti r0, ti r1]], .tuple [.str "word", .str (PyData.tuple (W.map PyData.int)).shown], .tuple [.str "word", z]], f5, _, rfl, .z, by rw [c5]; show 34 + 3 ≤ 100000; decide, ?_⟩)))))))))
  have hzn : Nv z := by
    simp only [List.mem_cons, List.not_mem_nil, or_false] at hz
    rcases hz with e | e | e | e <;> rw [e]
    · exact n5 5 (by decide)
    · exact nice_bool _
    · exact (nice_tup (niceL_cons (k := 2) (m := 0) (n := 0) nice_none niceL_nil)).mono (by decide) (by decide)
    · exact (nice_tup (niceL_cons (k := 2) (m := 0) (n := 0) (nice_tup niceL_nil) niceL_nil)).mono (by decide) (by decide)
  have aa : ∀ d ∈ f5 ++ [PyData.tuple [.str "place", .tuple [ti r0, ti r1]], .tuple [.str "word", .str (PyData.tuple (W.map PyData.int)).shown], .tuple [.str "word", z]], JOk d := all_app a5 (all_cons (nv2 nice_str nr) (all_cons jst (all_cons (nv2 nice_str hzn) all_nil)))
  have cc : (f5 ++ [PyData.tuple [.str "place", .tuple [ti r0, ti r1]], .tuple [.str "word", .str (PyData.tuple (W.map PyData.int)).shown], .tuple [.str "word", z]]).length = 37 := by rw [List.length_append, c5]; rfl
  generalize f5 ++ [PyData.tuple [.str "place", .tuple [ti r0, ti r1]], .tuple [.str "word", .str (PyData.tuple (W.map PyData.int)).shown], .tuple [.str "word", z]] = ff at *
  exact nxt (x_retG' q (wr_var rfl ⟨_, _, ff, hp, rfl, (by unfold eL; rw [map_eD]), ⟨aa, by omega⟩, b1, by simp⟩))
end K88

/-! ## G12 -/
set_option Elab.async false
set_option linter.all false
set_option maxRecDepth 100000
set_option maxHeartbeats 4000000
set_option autoImplicit false
namespace K88
open PySem L2 Fz K80 Ways
variable {P : Program} {w : World} {K : PySem.W.Frag} {mg : Str → Option Value} {base : Heap} {f : Addr} {fd : FuncData}
abbrev Wn (d : PyData) : Prop := Nice 2 240 d
theorem wn_ts {ds : List PyData} (h : ∀ d ∈ ds, Sm d) (hl : ds.length ≤ 40) : Wn (.tuple ds) := nice_tup ((niceL_all h).mono (Nat.le_refl _) (by omega))
structure WordsOk (xs : List PyData) : Prop where
  all : ∀ d ∈ xs, Wn d
  len : xs.length ≤ 100
abbrev S_law_words (K : PySem.W.Frag) : Sp := spG K (fun y : Int × (Way × Way) × List Int => [.int y.1, wayD y.2.1.1, wayD y.2.1.2, ti y.2.2]) (fun y => (1 ≤ y.1 ∧ y.1 ≤ 4) ∧ G8 y.2.1 ∧ WordOk y.2.2) (eL eD) (fun _ xs => WordsOk xs)
theorem okd_law_words (Fn : Fun K "_law_words" "_law_words" s_law_words f fd) (T : Bt P mg base) (D_law_draw : Df P w K mg base 41 "_law_draw" ["bag", "below"] (S_law_draw K)) (D_law_pick : Df P w K mg base 42 "_law_pick" ["bag", "some"] (S_law_pick K)) : FnOk P w K mg base CX0 43 f fd ["bag", "k", "one", "other", "word"] (S_law_words K) := by
  refine fn_G Fn sc_law_words (by decide) (fun _ => rfl) fun cdv A outer s H E hr => ⟨_, (pss_cons (ps_set (i := 5) sc_law_words.nd rfl (.inl rfl) (pe_op op_cat (pe_lc (own := [("n", 8)]) rfl sc_law_words.nd (pi_range1 (by rfl) T.n_range (pa_cons (pe_op op_add (pe_callB (call_min2 rfl) (by rfl) T.n_min (by decide +kernel) (pa_cons (pe_callB (r := Evl.rLenS K) call_len_seq (by rfl) T.n_len (by decide +kernel) (pa_cons (pv 4) pa_nil)) (pa_cons pe_int pa_nil))) pe_int) pa_nil)) (blkOk_by (own := [("n", 8)]) (N := ["bag", "k", "one", "other", "word", "found", "short", "first", "n", "both", "some", "letter", "own", "stride"]) (sc := defScope s_law_words) (by decide +kernel)) (fun _ _ _ _ _ => (pg_name (i := 8) sc_law_words.nd rfl (Or.inl rfl))) (fun _ _ _ _ _ => pts_nil) (fun _ _ _ _ _ => (pe_slice (r := rSlA K) sl_tupA (pv 4) po_none (po_some (pv 8))))) (pe_lst (pa_cons (pv 4) pa_nil))))
      (pss_cons (ps_par (i := 6) (j := 7) (by rfl) sc_law_words.nd rfl rfl (by decide) rfl rfl (pa_cons (pe_callB (call_min2 rfl) (by rfl) T.n_min (by decide +kernel) (pa_cons (pe_callB (r := Evl.rLenS K) call_len_seq (by rfl) T.n_len (by decide +kernel) (pa_cons (pv 4) pa_nil)) (pa_cons pe_int pa_nil))) (pa_cons (pe_callD D_law_draw (hr.mono (by decide)) (by rfl) (pa_cons (pv 0) (pa_cons pe_int pa_nil))) pa_nil)) (by rfl))
      (pss_cons (ps_for PassesOwn.never rfl (pi_range3 (by rfl) T.n_range (pa_cons (pv 7) (pa_cons (pv 6) (pa_cons pe_int pa_nil)))) (pg_name (i := 8) sc_law_words.nd rfl (Or.inl rfl)) (pss_cons (ps_set (i := 11) sc_law_words.nd rfl (.inl rfl) (pe_callD D_law_pick (hr.mono (by decide)) (by rfl) (pa_cons (pv 0) (pa_cons (pe_lst (pa_cons (pe_callD D_law_draw (hr.mono (by decide)) (by rfl) (pa_cons (pv 0) (pa_cons (pv 1) pa_nil))) (pa_cons (pe_callD D_law_draw (hr.mono (by decide)) (by rfl) (pa_cons (pv 0) (pa_cons (pv 1) pa_nil))) (pa_cons (pv 1) (pa_cons (pe_un un_neg pe_int) (pa_cons pe_bl (pa_cons pe_non (pa_cons pe_str (pa_cons (pe_tup (pa_cons pe_int pa_nil)) pa_nil))))))))) pa_nil))))
      (pss_one (ps_expr (pe_bm PySem.F.plainAttrs_list PySem.F.slot_list_append PySem.F.type_list_append mt_append (pv 5) (pa_cons (pe_op (r := rCatA K) op_catA (pe_op (r := rCatA K) op_catA (pe_slice (r := rSlA K) sl_tupA (pv 4) po_none (po_some (pv 8))) (pe_tup (pa_cons (pv 11) pa_nil))) (pe_slice (r := rSlA K) sl_tupA (pv 4) (po_some (pe_op op_add (pv 8) pe_int)) (po_some (pv 6)))) pa_nil))))))
      (pss_cons (ps_expr (pe_bm PySem.F.plainAttrs_list PySem.F.slot_list_extend PySem.F.type_list_extend mt_extend (pv 5) (pa_cons (pe_lst (pa_cons (pe_op (r := rCatA K) op_catA (pe_slice (r := rSlA K) sl_tupA (pv 4) po_none (po_some pe_int)) (pe_tup (pa_cons (pe_callD D_law_draw (hr.mono (by decide)) (by rfl) (pa_cons (pv 0) (pa_cons (pv 1) pa_nil))) pa_nil))) (pa_cons (pe_op (r := rCatA K) op_catA (pe_slice (r := rSlA K) sl_tupA (pv 4) po_none (po_some pe_int)) (pe_slice (r := rSlA K) sl_tupA (pv 4) po_none (po_some pe_int))) (pa_cons (pe_slice (r := rSlA K) sl_tupA (pv 4) (po_some pe_int) (po_some pe_int)) (pa_cons (pe_tup (pa_cons (pe_op op_sub (pv 1) pe_int) pa_nil)) (pa_cons (pe_tup (pa_cons (pv 1) pa_nil)) (pa_cons (pe_tup (pa_cons pe_bl pa_nil)) pa_nil))))))) pa_nil)))
      (pss_cons (ps_par (i := 9) (j := 10) (by rfl) sc_law_words.nd rfl rfl (by decide) rfl rfl (pa_cons (pe_op (r := rCatA K) op_catA (pv 2) (pv 3)) (pa_cons (pe_lst pa_nil) pa_nil)) (by rfl))
      (pss_cons (ps_set (i := 11) sc_law_words.nd rfl (.inl rfl) (pe_ifExp (pt_cmpR (r := rNeD K) (op_neD hr.units) (pv 9) (pe_tup pa_nil) (nomark _)) (pe_ix (r := rIxT K) ix_tup (pe_callD D_law_pick (hr.mono (by decide)) (by rfl) (pa_cons (pv 0) (pa_cons (pv 9) pa_nil))) pe_int (fun _ _ => rfl)) pe_int))
      (pss_cons (ps_for PassesOwn.never rfl (pi_tup (pv 9)) (pg_tup rfl (pgs_cons (pg_name (i := 12) sc_law_words.nd rfl (Or.inl rfl)) (pgs_cons (pg_name (i := 13) sc_law_words.nd rfl (Or.inl rfl)) pgs_nil))) (pss_one (ps_expr (pe_bm PySem.F.plainAttrs_list PySem.F.slot_list_extend PySem.F.type_list_extend mt_extend (pv 10) (pa_cons (pe_op op_rep (pe_lst (pa_cons (pv 12) pa_nil)) (pe_callD D_law_draw (hr.mono (by decide)) (by rfl) (pa_cons (pv 0) (pa_cons pe_int pa_nil)))) pa_nil)))))
      (pss_cons (ps_expr (pe_bm PySem.F.plainAttrs_list PySem.F.slot_list_extend PySem.F.type_list_extend mt_extend (pv 5) (pa_cons (pe_lst (pa_cons (pe_callD D_law_pick (hr.mono (by decide)) (by rfl) (pa_cons (pv 0) (pa_cons (pe_lst (pa_cons (pe_op (r := rRepT1 K) op_repT1 (pe_tup (pa_cons (pv 11) pa_nil)) (pe_op op_add pe_int (pe_callD D_law_draw (hr.mono (by decide)) (by rfl) (pa_cons (pv 0) (pa_cons pe_int pa_nil))))) (pa_cons (pe_tupleOf (by rfl) T.n_tuple (pe_slice (r := rSlL K) sl_list (pv 10) po_none (po_some pe_int))) pa_nil))) pa_nil))) (pa_cons (pe_op (r := rRepT1 K) op_repT1 (pe_tup (pa_cons (pv 11) pa_nil)) pe_int) pa_nil))) pa_nil)))
      (pss_one (ps_ret (pe_op op_cat (pv 5) (pe_lst (pa_cons (pe_tup (pa_cons (pe_op op_sub (pv 1) pe_int) (pa_cons (pv 1) pa_nil))) (pa_cons (pe_op (r := rCatA K) op_catA (pe_op (r := rRepT1 K) op_repT1 (pe_tup (pa_cons pe_int pa_nil)) pe_int) (pe_tup (pa_cons (pv 1) pa_nil))) (pa_cons (pe_op (r := rCatA K) op_catA (pe_op (r := rRepT1 K) op_repT1 (pe_tup (pa_cons pe_int pa_nil)) pe_int) (pe_tup (pa_cons (pv 1) pa_nil))) pa_nil))))))))))))))), ?_⟩
  rintro B Q pb pc b ⟨k, ⟨one, other⟩, W⟩ rfl ⟨hk, ⟨g1, g2⟩, hW⟩ q
  dsimp only at hk g1 g2 hW
  have lo := g1.1
  have lt := g2.1
  have hWl := hW.len
  have hWs := hW.sm
  show Ho B _ [bagv pb, iv k, wv one, wv other, dv (ti W), none, none, none, none, none, none, none, none, none] [b.at pb pc]
  have cl : ∀ {lo hi : Option Int}, (cutD (W.map PyData.int) lo hi).length ≤ 16 := fun {lo hi} => by
    have := cut_le (ds := W.map PyData.int) (lo := lo) (hi := hi)
    rw [List.length_map] at this
    omega
  have wcut : ∀ {lo hi : Option Int}, Wn (.tuple (cutD (W.map PyData.int) lo hi)) := fun {lo hi} => wn_ts (sm_cut hWs) (Nat.le_trans cl (by decide))
  have hmin : ∃ sh : Int, (if (8 : Int) < (W.length : Int) then 8 else (W.length : Int)) = sh ∧ 0 ≤ sh ∧ sh ≤ 8 := ⟨_, rfl, by split <;> omega, by split <;> omega⟩
  obtain ⟨sh, hsh, hsh0, hsh8⟩ := hmin
  have exmin : ∀ {ε : Eps} {L : Own}, ε[4]? = some (dv (ti W)) → EX B _ ε L (.d (.int sh)) L := fun h => ex_is (ex_min2 (ex_len (e := PyData.int) (xs := W) (ex_v h)) ex_cI) (by rw [hsh])
  refine x_seq (x_setN (en_cat (ds := (List.range (sh + 1).toNat).map fun (i : Nat) => .tuple (cutD (W.map PyData.int) none (some (i : Int)))) (es := [ti W]) (ex_frz (en_is (en_lcR1P (n := sh + 1) (fun _ => true) (fun i => .tuple (cutD (W.map PyData.int) none (some (i : Int)))) (ea_cons (ex_add (exmin rfl) ex_cI) ea_nil) (by omega) (by simp) (fun i m hi => et_yes) (fun i m hi _ => ex_slT (ds := W.map PyData.int) (ex_v rfl) eo_n (eo_s (ex_v rfl)))) (by rw [filter_yes]))) (ex_frz (en_lst (ds := [ti W]) (ea_cons (ex_v rfl) ea_nil) (Nat.le_of_ble_eq_true rfl))) .d .d ?_) fun p hp => ?_)
  · rw [List.length_map, List.length_range]; show _ + 1 ≤ 100000; omega
  have a1 : ∀ d ∈ ((List.range (sh + 1).toNat).map fun (i : Nat) => PyData.tuple (cutD (W.map PyData.int) none (some (i : Int)))) ++ [ti W], Wn d := all_app (fun d hd => by
    obtain ⟨i, _, rfl⟩ := List.mem_map.mp hd
    exact wcut) (all_cons (wn_ts hWs (by rw [List.length_map]; omega)) all_nil)
  have c1 : (((List.range (sh + 1).toNat).map fun (i : Nat) => PyData.tuple (cutD (W.map PyData.int) none (some (i : Int)))) ++ [ti W]).length ≤ 10 := by
    rw [List.length_append, List.length_map, List.length_range]; show _ + 1 ≤ 10; omega
  generalize ((List.range (sh + 1).toNat).map fun (i : Nat) => PyData.tuple (cutD (W.map PyData.int) none (some (i : Int)))) ++ [ti W] = f1 at *
  refine x_sq (x_parW (wa_x (exmin rfl) (wa_v (e := PyData.int) (w_drw (pb := pb) (pc := pc) rfl ex_cI (fun b' => .s .z) (by decide) fun fi b1 g3 g4 => wa_nil ⟨_, _, rfl, ?_⟩))))
  obtain ⟨n, hn8, hrg⟩ := rg_two (a := fi) (b := sh) (by omega) ⟨hsh0, hsh8⟩
  refine x_sq (x_forR3 (n := n) (ea_cons (ex_v rfl) (ea_cons (ex_v rfl) (ea_cons ex_cI ea_nil))) hrg (fun i ε L => ∃ (fs : List PyData) (b : Bag), (∀ d ∈ fs, Wn d) ∧ fs.length ≤ 10 + i ∧ ε = [bagv pb, iv k, wv one, wv other, dv (ti W), bagv p, iv sh, iv fi, none, none, none, none, none, none] ∧ L = [.lst p fs, b.at pb pc]) ⟨f1, b1, a1, c1, rfl, rfl⟩ ?_ ?_)
  · rintro i ε' L' hi ⟨fs, b2, ha, hl, rfl, rfl⟩
    generalize fi + (i : Int) * 2 = ni at *
    refine x_seq (x_setV (e := eD) (w_pick (pb := pb) (pc := pc) (wa_x (ex_v rfl) (wa_v (w_dispL (e := eD) (wa_v (e := PyData.int) (w_drw (pb := pb) (pc := pc) rfl (ex_v rfl) (fun b' => .s .z) (by omega) fun x b3 g5 g6 => wa_v (e := PyData.int) (w_drw (pb := pb) (pc := pc) rfl (ex_v rfl) (fun b' => .s .z) (by omega) fun y b4 g7 g8 => wa_x (ex_v rfl) (wa_x (ex_neg ex_cI) (wa_x ex_cB (wa_x ex_cN (wa_x ex_cS (wa_x (t1 ex_cI) (wa_nil ⟨[.int x, .int y, .int k, .int (-1), .bool true, .none, .str "0", .tuple [.int 0]], rfl, by show 8 ≤ 100000; decide, wa_nil ⟨_, b4, _, rfl, fun b' => .s .z, List.cons_ne_nil _ _, by show 8 ≤ 100000; decide, fun z b5 hz => ?_⟩⟩))))))))))))) (fun _ => .s (.s (.s (.s (.s (.s (.s (.s (.s (.s (.s (.z)))))))))))))
    have hzs : Sm z := by
      simp only [List.mem_cons, List.not_mem_nil, or_false] at hz
      rcases hz with e | e | e | e | e | e | e | e <;> rw [e]
      · exact sm_int (by omega)
      · exact sm_int (by omega)
      · exact sm_int (by omega)
      · exact sm_int (by omega)
      · exact nice_bool _
      · exact nice_none
      · exact nice_str
      · exact (nice_tup (niceL_cons (k := 0) (m := 0) (n := 0) (nice_int (bd_zero _)) niceL_nil)).mono (by decide) (by decide)
    clear hz
    have e1 := cl (lo := none) (hi := some ni)
    have e2 := cl (lo := some (ni + 1)) (hi := some sh)
    refine nxt (x_appW (e := eD) (ex_v rfl) ⟨_, _, .z⟩ (wv_of (x := .tuple (cutD (W.map PyData.int) none (some ni) ++ [z] ++ cutD (W.map PyData.int) (some (ni + 1)) (some sh))) (ex_catT (ds := cutD (W.map PyData.int) none (some ni) ++ [z]) (ex_catT (ds := cutD (W.map PyData.int) none (some ni)) (es := [z]) (ex_slT (ds := W.map PyData.int) (ex_v rfl) eo_n (eo_s (ex_v rfl))) (t1 (ex_v rfl)) (by show _ + 1 ≤ 100000; omega)) (ex_slT (ds := W.map PyData.int) (ex_v rfl) (eo_s (ex_add (ex_v rfl) ex_cI)) (eo_s (ex_v rfl))) (by rw [List.length_append]; show _ + 1 + _ ≤ 100000; omega)) ⟨_, _, .z, by omega, nxt (x_end ⟨_, b5, all_app ha (all_cons (wn_ts (sm_app (sm_app (sm_cut hWs) (sm_one hzs)) (sm_cut hWs)) ?_) all_nil), ?_, rfl, rfl⟩)⟩))
    · rw [List.length_append, List.length_append]; show _ + 1 + _ ≤ 40; omega
    · rw [List.length_append]; show _ + 1 ≤ _; omega
  · rintro ε' L' ⟨f2, b2, a2, c2, rfl, rfl⟩
    have e3 := cl (lo := none) (hi := some 3)
    have e4 := cl (lo := none) (hi := some 2)
    refine nxt (x_seq (x_extW (ex_v rfl) ⟨_, _, .z⟩ (wv_as (e := eL eD) (w_dispL (e := eD) (wa_v (e := eT eD) (w_catT (e := eD) (wv_tup (ds := cutD (W.map PyData.int) none (some 3)) (ex_slT (ds := W.map PyData.int) (ex_v rfl) eo_n (eo_s ex_cI)) (w_dispT (e := eD) (wa_v (e := PyData.int) (w_drw (pb := pb) (pc := pc) rfl (ex_v rfl) (fun b' => .s .z) (by omega) fun x b3 g5 g6 => wa_nil ⟨[.int x], rfl, by show 1 ≤ 100000; decide, by show _ + 1 ≤ 100000; omega, ?_⟩))))))))))
    refine wa_x (ex_catT (ds := cutD (W.map PyData.int) none (some 2)) (es := cutD (W.map PyData.int) none (some 2)) (ex_slT (ds := W.map PyData.int) (ex_v rfl) eo_n (eo_s ex_cI)) (ex_slT (ds := W.map PyData.int) (ex_v rfl) eo_n (eo_s ex_cI)) (by omega)) (wa_x (ex_slT (ds := W.map PyData.int) (ex_v rfl) (eo_s ex_cI) (eo_s ex_cI)) (wa_x (t1 (ex_sub (ex_v rfl) ex_cI)) (wa_x (t1 (ex_v rfl)) (wa_x (t1 ex_cB) ?_))))
    have e5 : eT eD (cutD (W.map PyData.int) none (some 3) ++ [PyData.int x]) = .tuple (cutD (W.map PyData.int) none (some 3) ++ [PyData.int x]) := by unfold eT; rw [map_eD]
    rw [e5]
    refine wa_nil ⟨[_, _, _, _, _, _], rfl, by show 6 ≤ 100000; decide, _, rfl, [.tuple (cutD (W.map PyData.int) none (some 3) ++ [.int x]), .tuple (cutD (W.map PyData.int) none (some 2) ++ cutD (W.map PyData.int) none (some 2)), .tuple (cutD (W.map PyData.int) (some 1) (some 4)), .tuple [.int (k - 1)], .tuple [.int k], .tuple [.bool false]], f2, _, rfl, .z, by show _ + 6 ≤ 100000; omega, ?_⟩
    have a3 : ∀ d ∈ f2 ++ [.tuple (cutD (W.map PyData.int) none (some 3) ++ [.int x]), .tuple (cutD (W.map PyData.int) none (some 2) ++ cutD (W.map PyData.int) none (some 2)), .tuple (cutD (W.map PyData.int) (some 1) (some 4)), .tuple [.int (k - 1)], .tuple [.int k], .tuple [.bool false]], Wn d := all_app a2 (all_cons (wn_ts (sm_app (sm_cut hWs) (sm_one (sm_int (by omega)))) (by rw [List.length_append]; show _ + 1 ≤ 40; omega)) (all_cons (wn_ts (sm_app (sm_cut hWs) (sm_cut hWs)) (by rw [List.length_append]; omega)) (all_cons wcut (all_cons (wn_ts (sm_one (sm_int (by omega))) (by show 1 ≤ 40; decide)) (all_cons (wn_ts (sm_one (sm_int (by omega))) (by show 1 ≤ 40; decide)) (all_cons (wn_ts (sm_one (nice_bool _)) (by show 1 ≤ 40; decide)) all_nil))))))
    have c3 : (f2 ++ [PyData.tuple (cutD (W.map PyData.int) none (some 3) ++ [.int x]), .tuple (cutD (W.map PyData.int) none (some 2) ++ cutD (W.map PyData.int) none (some 2)), .tuple (cutD (W.map PyData.int) (some 1) (some 4)), .tuple [.int (k - 1)], .tuple [.int k], .tuple [.bool false]]).length ≤ 24 := by rw [List.length_append]; show _ + 6 ≤ 24; omega
    generalize f2 ++ [PyData.tuple (cutD (W.map PyData.int) none (some 3) ++ [.int x]), .tuple (cutD (W.map PyData.int) none (some 2) ++ cutD (W.map PyData.int) none (some 2)), .tuple (cutD (W.map PyData.int) (some 1) (some 4)), .tuple [.int (k - 1)], .tuple [.int k], .tuple [.bool false]] = f3 at *
    refine x_sq (x_parN (ex_catW (ex_v rfl) (ex_v rfl) (by omega)) (en_lst (ds := []) ea_nil (Nat.zero_le _)) fun p2 hp2 => ?_)
    have gb : GW 4 16 (2 ^ 20) (one ++ other) := g1.app g2
    generalize one ++ other = both at *
    have lb := gb.1
    refine x_sq (x_setV (e := PyData.int) (wv_mono (κ := fun x L1 => (-1000 ≤ x ∧ x ≤ 1000) ∧ ∃ b : Bag, L1 = [.lst p2 [], .lst p f3, b.at pb pc]) (w_if (wt_of (et_test (ex_wayNe (v := both) (ex_v rfl))) ⟨fun hne => w_op (e := stD) (f := PyData.int) (wq_pckT (pb := pb) (pc := pc) (e := stD) (xs := both) rfl (ex_v rfl) (fun b' => .s (.s .z)) (by simpa using hne) (by omega) fun st b4 hst => wv_of (x := 0) ex_cI ⟨st.1, rx_ixT (ds := [.int st.1, .int st.2]) rfl, ⟨by have := gb.2 st hst; have := this.1; omega, by have := gb.2 st hst; have := this.2.1; omega⟩, b4, rfl⟩), fun _ => wv_of (x := 0) ex_cI ⟨by omega, b3, rfl⟩⟩)) fun le L1 ⟨hle, b4, hL1⟩ => ?_) (fun _ => .s (.s (.s (.s (.s (.s (.s (.s (.s (.s (.s (.z)))))))))))))
    subst hL1
    refine x_sq (x_forT (ds := wayL both) (ex_v rfl) (fun u i ε L => ∃ (so : List PyData) (b : Bag), (∀ d ∈ so, Sm d) ∧ so.length ≤ 3 * i ∧ ε = [bagv pb, iv k, wv one, wv other, dv (ti W), bagv p, iv sh, iv fi, none, wv both, bagv p2, iv le, none, none] ∧ L = [.lst p2 so, .lst p f3, b.at pb pc, .know u (wayD both)]) (fun u => ⟨[], b4, all_nil, Nat.zero_le _, rfl, rfl⟩) (fun u i ε' L' ⟨_, _, _, _, _, h⟩ => by rw [h]; simp [wayD]) ?_ ?_)
    · rintro u i d ε' L' hd ⟨so, b5, hso, hsl, rfl, rfl⟩
      obtain ⟨x, hx, rfl⟩ := way_get hd
      have hi : i < both.length := (List.getElem?_eq_some_iff.mp hx).1
      have hg := gb.2 x (List.mem_of_getElem? hx)
      refine ⟨_, gt_tup2 (d := .int x.1) (e := .int x.2), ?_⟩
      refine x_extW (ex_v rfl) ⟨_, _, .z⟩ (wv_as (e := eL PyData.int) (w_repF (e := PyData.int) (wv_of (x := [x.1]) (ex_frz (en_lst (ds := [.int x.1]) (ea_cons (ex_v rfl) ea_nil) (Nat.le_of_ble_eq_true rfl))) (w_drw (pb := pb) (pc := pc) rfl ex_cI (fun b' => .s (.s .z)) (by decide) fun m b6 g7 g8 => ⟨⟨g7, by omega, by show 1 * _ ≤ 100000; omega⟩, _, rfl, ((List.replicate m.toNat [x.1]).flatten.map PyData.int), so, _, rfl, .z, ?_, nxt (x_end ⟨_, b6, all_app hso ?_, ?_, rfl, rfl⟩)⟩))))
      · have e : ∀ n : Nat, ((List.replicate n [x.1]).flatten).length = n := fun n => by
          induction n with
          | zero => rfl
          | succ n ih => rw [List.replicate_succ, List.flatten_cons, List.length_append, ih, List.length_singleton]; omega
        rw [List.length_map, e]; omega
      · intro d hd
        obtain ⟨y, hy, rfl⟩ := List.mem_map.mp hd
        have e : ∀ n : Nat, y ∈ (List.replicate n [x.1]).flatten → y = x.1 := fun n => by
          induction n with
          | zero => exact fun h => nomatch h
          | succ n ih =>
            intro h
            rw [List.replicate_succ, List.flatten_cons] at h
            exact (List.mem_append.mp h).elim (fun m => List.mem_singleton.mp m) ih
        rw [e _ hy]
        exact sm_int ⟨by have := hg.1; omega, by have := hg.2.1; omega⟩
      · have e : ∀ n : Nat, ((List.replicate n [x.1]).flatten).length = n := fun n => by
          induction n with
          | zero => rfl
          | succ n ih => rw [List.replicate_succ, List.flatten_cons, List.length_append, ih, List.length_singleton]; omega
        rw [List.length_append, List.length_map, e]; omega
    · rintro u ε' L' ⟨so, b5, hso, hsl, rfl, rfl⟩
      rw [wayL_len] at hsl
      refine nxt (ho_drop (k := 3) ?_ rfl (fun p hp => nomatch hp))
      show Ho B _ _ [.lst p2 so, .lst p f3, b5.at pb pc]
      have hcs : (cutD so none (some 16)).length ≤ 16 := by unfold cutD; rw [List.length_take]; refine Nat.le_trans (Nat.min_le_left _ _) ?_; unfold HT.sIx; simp; omega
      have z0 : ∀ n : Int, 1 ≤ n ∧ n ≤ 1000 → ∀ {a : Int} {ta : TE} {ε : Eps} {L : Own}, EX B ta ε L (.d (.int a)) L → EX B (tOp (rRepT1 B.K) (tTup (tCons ta tNil)) (tC (.int n))) ε L (.d (.tuple (List.replicate n.toNat [PyData.int a]).flatten)) L := fun n hn {a} {_} {_} {_} h => ex_rep1 (ds := [.int a]) (t1 h) ex_cI (List.cons_ne_nil _ _) (by show 1 ≤ 1000; decide) hn
      have wz : ∀ (n : Nat) {a : Int}, -1000 ≤ a ∧ a ≤ 1000 → n ≤ 20 → ∀ d ∈ (List.replicate n [PyData.int a]).flatten, Sm d := fun n {a} ha hn d hd => by rw [rep_mem hd]; exact sm_int ha
      refine x_seq (x_extW (ex_v rfl) ⟨_, _, .s .z⟩ (wv_as (e := eL eD) (w_dispL (e := eD) (wa_v (e := eD) (w_pick (pb := pb) (pc := pc) (wa_x (ex_v rfl) (wa_v (w_dispL (e := eD) (wa_v (e := eD) (w_op (e := eT PyData.int) (f := PyData.int) (g := eD) (wv_of (x := [le]) (t1 (ex_v rfl)) (w_add (wv_of ex_cI (w_drw (pb := pb) (pc := pc) rfl ex_cI (fun b' => .s (.s .z)) (by decide) fun m b6 g7 g8 => ⟨.tuple (List.replicate (15 + m).toNat [PyData.int le]).flatten, rx_rep1 (ds := [.int le]) (List.cons_ne_nil _ _) (by show 1 ≤ 1000; decide) (by omega), ?_⟩))))))))))))))
      refine wa_x (ex_tupL (ds := cutD so none (some 16)) (ex_frz (en_slL (ds := so) (ex_v rfl) eo_n (eo_s ex_cI) (.o (k := 0) rfl))) .d) (wa_nil ⟨[.tuple (List.replicate (15 + m).toNat [PyData.int le]).flatten, .tuple (cutD so none (some 16))], rfl, by show 2 ≤ 100000; decide, wa_nil ⟨_, b6, _, rfl, fun b' => .s (.s .z), List.cons_ne_nil _ _, by show 2 ≤ 100000; decide, fun z b7 hz => ?_⟩⟩)
      have hzw : Wn z := by
        simp only [List.mem_cons, List.not_mem_nil, or_false] at hz
        rcases hz with e | e <;> rw [e]
        · exact wn_ts (wz _ hle (by omega)) (by rw [rep_len]; omega)
        · exact wn_ts (sm_cut hso) (by omega)
      clear hz
      refine wa_x (z0 17 (by decide) (ex_v rfl)) (wa_nil ⟨[z, .tuple (List.replicate (17 : Int).toNat [PyData.int le]).flatten], rfl, by show 2 ≤ 100000; decide, _, rfl, [z, .tuple (List.replicate (17 : Int).toNat [PyData.int le]).flatten], f3, _, rfl, .s .z, by show _ + 2 ≤ 100000; omega, ?_⟩)
      have a4 : ∀ d ∈ f3 ++ [z, .tuple (List.replicate (17 : Int).toNat [PyData.int le]).flatten], Wn d := all_app a3 (all_cons hzw (all_cons (wn_ts (wz _ hle (by decide)) (by rw [rep_len]; decide)) all_nil))
      have c4 : (f3 ++ [z, PyData.tuple (List.replicate (17 : Int).toNat [PyData.int le]).flatten]).length ≤ 26 := by rw [List.length_append]; show _ + 2 ≤ 26; omega
      generalize f3 ++ [z, PyData.tuple (List.replicate (17 : Int).toNat [PyData.int le]).flatten] = f4 at *
      have hkb : -1000 ≤ k ∧ k ≤ 1000 := by omega
      have r0 : ∀ n : Nat, n ≤ 20 → Wn (.tuple ((List.replicate n [PyData.int 0]).flatten ++ [.int k])) := fun n hn => wn_ts (sm_app (wz n (by omega) hn) (sm_one (sm_int hkb))) (by rw [List.length_append, rep_len]; show _ + 1 ≤ 40; omega)
      refine nxt (x_retG' q (wr_of (en_cat (ds := f4) (es := [.tuple [.int (k - 1), .int k], .tuple ((List.replicate (15 : Int).toNat [PyData.int 0]).flatten ++ [.int k]), .tuple ((List.replicate (16 : Int).toNat [PyData.int 0]).flatten ++ [.int k])]) (ex_v rfl) (ex_frz (en_lst (ds := [.tuple [.int (k - 1), .int k], .tuple ((List.replicate (15 : Int).toNat [PyData.int 0]).flatten ++ [.int k]), .tuple ((List.replicate (16 : Int).toNat [PyData.int 0]).flatten ++ [.int k])]) (ea_cons (t2 (ex_sub (ex_v rfl) ex_cI) (ex_v rfl)) (ea_cons (ex_catT (es := [.int k]) (z0 15 (by decide) ex_cI) (t1 (ex_v rfl)) (by rw [rep_len]; show 15 + 1 ≤ 100000; decide)) (ea_cons (ex_catT (es := [.int k]) (z0 16 (by decide) ex_cI) (t1 (ex_v rfl)) (by rw [rep_len]; show 16 + 1 ≤ 100000; decide)) ea_nil))) (Nat.le_of_ble_eq_true rfl))) (.o (k := 1) rfl) .d (by show _ + 3 ≤ 100000; omega)) fun p3 hp3 => ⟨_, _, f4 ++ [.tuple [.int (k - 1), .int k], .tuple ((List.replicate (15 : Int).toNat [PyData.int 0]).flatten ++ [.int k]), .tuple ((List.replicate (16 : Int).toNat [PyData.int 0]).flatten ++ [.int k])], hp3, rfl, by unfold eL; rw [map_eD], ⟨all_app a4 (all_cons (wn_ts (all_cons (sm_int (by omega)) (sm_one (sm_int hkb))) (by show 2 ≤ 40; decide)) (all_cons (r0 15 (by decide)) (all_cons (r0 16 (by decide)) all_nil))), by rw [List.length_append]; show _ + 3 ≤ 100; omega⟩, b7, by simp⟩))
end K88

/-! ## G13 -/
set_option Elab.async false
set_option linter.all false
set_option maxRecDepth 100000
set_option maxHeartbeats 4000000
set_option autoImplicit false
namespace K88
open PySem L2 Fz K80 Ways
variable {P : Program} {w : World} {K : PySem.W.Frag} {mg : Str → Option Value} {base : Heap} {f : Addr} {fd : FuncData}
theorem PrOk.rok {v : Way} {y : List Int × List Way} (h : PrOk v y) (hv : v.length ≤ 8) : RowOk y.1 := ⟨Nat.le_trans h.row hv, fun x hx => by have := h.small x hx; omega⟩
theorem pn {a b : PyData} (h : Nice 3 200 a) (h2 : Nice 3 200 b) : Nv (.tuple [a, b]) := (nice_tup (niceL_cons h (niceL_cons (n := 0) h2 niceL_nil))).mono (by decide) (by decide)
theorem told_jok {a : PyData} (h : Nv a) : JOk (.tuple [.str "same", a]) := nv2 nice_str h
theorem word_jok {a : PyData} (h : Wn a) : JOk (.tuple [.str "word", a]) := nv2 nice_str (h.mono (by decide) (by decide))
section
variable {B : Bg} {ε : Eps} {L La Lb Lc Ld : Own} {te ta tb tc td : TE} {E : XK} {one other v : Way} {d : PyData} {k : Int} {pb pc : Addr}
theorem ex_toldR (h1 : EX B ta ε L (.d (.int k)) La) (h2 : EX B tb ε La (.d (wayD one)) Lb) (h3 : EX B tc ε Lb (.d (wayD other)) Lc) (hg : G8 (one, other) ∧ LB k one ∧ LB k other) : EX B (tCall (S_law_is_told_right B.K) [] E (tCons ta (tCons tb (tCons tc tNil)))) ε L (.d (.bool true)) Lc :=
  ex_of (e := PyData.bool) fun κ kk => w_callD (wa_x h1 (wa_x h2 (wa_x h3 (wa_nil ⟨(k, one, other), rfl, hg, fun x hx => hx ▸ kk⟩))))
theorem w_row {i j : Nat} {b : Bag} {L2 : Bag → Own} {κ : List Int → Own → Prop} (hb : ε[i]? = some (bagv pb)) (hv : ε[j]? = some (wv v)) (hup : ∀ b', Up L (b.at pb pc) (b'.at pb pc) (L2 b')) (g : GW 4 8 (2 ^ 20) v) (q : ∀ r b', RowOk r → κ r (L2 b')) : WV B ti (tOp (rIxT B.K) (tCall (S_law_paper_row B.K) [] E (tCons (tVar i) (tCons (tVar j) tNil))) (tC (.int 0))) ε L κ :=
  w_op (e := eP ti (eL wayD)) (f := PyData.int) (w_callG (pb := pb) (pc := pc) (wa_x (ex_v hb) (wa_x (ex_v hv) (wa_nil ⟨v, b, L2, rfl, hup, ⟨by have := g.1; omega, LW.rfl' g⟩, fun y b' hy => wv_of (x := 0) ex_cI ⟨y.1, rx_ixT (ds := [ti y.1, eL wayD y.2]) rfl, q _ _ (hy.rok g.1)⟩⟩))))
end
abbrev S_law_is_pair_right (K : PySem.W.Frag) : Sp := spG K (fun y : Int × Way × Way => [.int y.1, wayD y.2.1, wayD y.2.2]) (fun y => (1 ≤ y.1 ∧ y.1 ≤ 4) ∧ G8 y.2 ∧ LB y.1 y.2.1 ∧ LB y.1 y.2.2) PyData.bool (fun _ x => x = true)
theorem okd_law_is_pair_right (Fn : Fun K "_law_is_pair_right" "_law_is_pair_right" s_law_is_pair_right f fd) (T : Bt P mg base) (D_law_pick : Df P w K mg base 42 "_law_pick" ["bag", "some"] (S_law_pick K)) (D_law_bent_rows : Df P w K mg base 43 "_law_bent_rows" ["bag", "rows"] (S_law_bent_rows K)) (D_law_words : Df P w K mg base 43 "_law_words" ["bag", "k", "one", "other", "word"] (S_law_words K)) (D_law_other_values : GDf P w K mg base 43 "_law_other_values" ["bag", "rows", "word"] (S_law_other_values K)) (D_law_word : Df P w K mg base 42 "_law_word" ["one", "other"] (S_law_word K)) (D_law_paper_row : Df P w K mg base 43 "_law_paper_row" ["bag", "way"] (S_law_paper_row K)) (D_law_is_told_right : GDf P w K mg base 47 "_law_is_told_right" ["k", "one", "other"] (S_law_is_told_right K)) (D_law_is_judged : GDf P w K mg base 46 "_law_is_judged" ["k", "one", "other", "value"] (S_law_is_judged K)) : GOk P w K mg base 48 f fd ["bag", "k", "one", "other"] (S_law_is_pair_right K) := by
  refine g_G Fn sc_law_is_pair_right (by decide) (fun _ => rfl) fun cdv A outer s H hr hG => ⟨_, (pss_cons (ps_par3 (i := 4) (j := 5) (l := 6) (by rfl) sc_law_is_pair_right.nd rfl rfl rfl (by decide) (by decide) (by decide) rfl rfl rfl (pa_cons (pe_ix (r := rIxT K) ix_tup (pe_callD D_law_paper_row (hr.mono (by decide)) (by rfl) (pa_cons (pv 0) (pa_cons (pv 2) pa_nil))) pe_int (fun _ _ => rfl)) (pa_cons (pe_ix (r := rIxT K) ix_tup (pe_callD D_law_paper_row (hr.mono (by decide)) (by rfl) (pa_cons (pv 0) (pa_cons (pv 3) pa_nil))) pe_int (fun _ _ => rfl)) (pa_cons (pe_callD D_law_word (hr.mono (by decide)) (by rfl) (pa_cons (pv 2) (pa_cons (pv 3) pa_nil))) pa_nil))) (by rfl))
      (pss_cons (ps_set (i := 7) sc_law_is_pair_right.nd rfl (.inl rfl) (pe_tup (pa_cons (pv 4) (pa_cons (pv 5) pa_nil))))
      (pss_cons (ps_if (PW.pt (pw_or (pt_not (pt_val (pe_callG hG D_law_is_told_right (hr.mono (by decide)) (by rfl) (pa_cons (pv 1) (pa_cons (pv 2) (pa_cons (pv 3) pa_nil)))))) (pw_or1 (pt_not (pt_val (pe_callG hG D_law_is_told_right (hr.mono (by decide)) (by rfl) (pa_cons (pv 1) (pa_cons (pv 3) (pa_cons (pv 2) pa_nil))))))))) (pss_one (ps_ret pe_bl)) pss_nil)
      (pss_cons (ps_set (i := 8) sc_law_is_pair_right.nd rfl (.inl rfl) (pe_lst (pa_cons (pv 7) (pa_cons (pe_tup (pa_cons (pe_tup pa_nil) (pa_cons (pe_tup pa_nil) pa_nil))) (pa_cons (pe_tup (pa_cons (pv 5) (pa_cons (pv 4) pa_nil))) (pa_cons (pe_tup (pa_cons (pv 4) (pa_cons (pe_tup pa_nil) pa_nil))) (pa_cons (pe_tup (pa_cons (pe_tup pa_nil) (pa_cons (pv 5) pa_nil))) (pa_cons (pe_tup (pa_cons (pe_slice (r := rSlA K) sl_tupA (pv 4) po_none (po_some (pe_un un_neg pe_int))) (pa_cons (pe_slice (r := rSlA K) sl_tupA (pv 5) po_none (po_some (pe_un un_neg pe_int))) pa_nil))) (pa_cons (pe_tup (pa_cons (pe_tup (pa_cons pe_int pa_nil)) (pa_cons (pe_tup (pa_cons pe_int pa_nil)) pa_nil))) pa_nil)))))))))
      (pss_cons (ps_set (i := 9) sc_law_is_pair_right.nd rfl (.inl rfl) (pe_callD D_law_pick (hr.mono (by decide)) (by rfl) (pa_cons (pv 0) (pa_cons (pe_lst (pa_cons pe_int (pa_cons pe_non (pa_cons pe_bl (pa_cons (pe_un un_neg pe_int) (pa_cons pe_str (pa_cons (pe_tup pa_nil) pa_nil))))))) pa_nil))))
      (pss_cons (ps_expr (pe_bm PySem.F.plainAttrs_list PySem.F.slot_list_extend PySem.F.type_list_extend mt_extend (pv 8) (pa_cons (pe_lst (pa_cons (pe_tup (pa_cons (pe_tup (pa_cons pe_int pa_nil)) (pa_cons (pe_tup (pa_cons pe_int pa_nil)) pa_nil))) (pa_cons (pe_tup (pa_cons (pe_tup (pa_cons pe_int pa_nil)) (pa_cons (pe_lst (pa_cons pe_int pa_nil)) pa_nil))) (pa_cons (pe_tup (pa_cons (pe_op (r := rCatA K) op_catA (pv 4) (pe_tup (pa_cons pe_int pa_nil))) (pa_cons (pe_op (r := rCatA K) op_catA (pv 5) (pe_tup (pa_cons (pv 9) pa_nil))) pa_nil))) (pa_cons (pe_tup (pa_cons (pe_op (r := rCatA K) op_catA (pe_op (r := rCatA K) op_catA (pe_tup (pa_cons pe_int pa_nil)) (pe_slice (r := rSlA K) sl_tupA (pv 4) po_none (po_some pe_int))) (pe_tup (pa_cons (pv 9) pa_nil))) (pa_cons (pv 5) pa_nil))) pa_nil))))) pa_nil)))
      (pss_cons (ps_expr (pe_bm PySem.F.plainAttrs_list PySem.F.slot_list_extend PySem.F.type_list_extend mt_extend (pv 8) (pa_cons (pe_lst (pa_cons (pe_tup (pa_cons (pe_op (r := rCatA K) op_catA (pv 4) (pe_tup (pa_cons pe_int pa_nil))) (pa_cons (pe_op (r := rCatA K) op_catA (pe_tup (pa_cons pe_int pa_nil)) (pv 5)) pa_nil))) (pa_cons (pe_tup (pa_cons (pe_tup (pa_cons (pv 9) pa_nil)) (pa_cons (pe_tup (pa_cons pe_int pa_nil)) pa_nil))) (pa_cons (pe_tup (pa_cons (pv 4) (pa_cons (pe_op (r := rCatA K) op_catA (pe_op (r := rCatA K) op_catA (pe_tup (pa_cons pe_int pa_nil)) (pe_slice (r := rSlA K) sl_tupA (pv 5) po_none (po_some pe_int))) (pe_tup (pa_cons (pv 9) pa_nil))) pa_nil))) pa_nil)))) pa_nil)))
      (pss_cons (ps_set (i := 10) sc_law_is_pair_right.nd rfl (.inr rfl) (pe_callD D_law_bent_rows (hr.mono (by decide)) (by rfl) (pa_cons (pv 0) (pa_cons (pv 7) pa_nil))))
      (pss_cons (ps_expr (pe_bm PySem.F.plainAttrs_list PySem.F.slot_list_extend PySem.F.type_list_extend mt_extend (pv 8) (pa_cons (pe_ifExp (pt_cmpR (r := rEqD K) (op_eqD hr.units) (pv 6) (pe_tup pa_nil) (nomark _)) (pv 10) (pe_lc (own := [("turn", 14)]) rfl sc_law_is_pair_right.nd (pi_range1 (by rfl) T.n_range (pa_cons pe_int pa_nil)) (blkOk_by (own := [("turn", 14)]) (N := ["bag", "k", "one", "other", "first", "second", "word", "rows", "some", "odd", "bent", "own", "short", "more", "turn"]) (sc := defScope s_law_is_pair_right) (by decide +kernel)) (fun _ _ _ _ _ => (pg_name (i := 14) sc_law_is_pair_right.nd rfl (Or.inl rfl))) (fun _ _ _ _ _ => pts_nil) (fun _ _ _ _ _ => (pe_callD D_law_pick (hr.mono (by decide)) (by rfl) (pa_cons (pv 0) (pa_cons (pv 10) pa_nil)))))) pa_nil)))
      (pss_cons (ps_for PassesOwn.never rfl (pi_list (pv 8)) (pg_name (i := 11) sc_law_is_pair_right.nd rfl (Or.inl rfl)) (pss_one (ps_if (pt_not (pt_val (pe_callG hG D_law_is_judged (hr.mono (by decide)) (by rfl) (pa_cons (pv 1) (pa_cons (pv 2) (pa_cons (pv 3) (pa_cons (pe_tup (pa_cons pe_str (pa_cons (pv 11) pa_nil))) pa_nil))))))) (pss_one (ps_ret pe_bl)) pss_nil)))
      (pss_cons (ps_for PassesOwn.never rfl (pi_list (pe_callD D_law_words (hr.mono (by decide)) (by rfl) (pa_cons (pv 0) (pa_cons (pv 1) (pa_cons (pv 2) (pa_cons (pv 3) (pa_cons (pv 6) pa_nil))))))) (pg_name (i := 11) sc_law_is_pair_right.nd rfl (Or.inl rfl)) (pss_one (ps_if (pt_not (pt_val (pe_callG hG D_law_is_judged (hr.mono (by decide)) (by rfl) (pa_cons (pv 1) (pa_cons (pv 2) (pa_cons (pv 3) (pa_cons (pe_tup (pa_cons pe_str (pa_cons (pv 11) pa_nil))) pa_nil))))))) (pss_one (ps_ret pe_bl)) pss_nil)))
      (pss_cons (ps_for PassesOwn.never rfl (pi_list (pe_callG hG D_law_other_values (hr.mono (by decide)) (by rfl) (pa_cons (pv 0) (pa_cons (pv 7) (pa_cons (pv 6) pa_nil))))) (pg_name (i := 11) sc_law_is_pair_right.nd rfl (Or.inl rfl)) (pss_one (ps_if (pt_not (pt_val (pe_callG hG D_law_is_judged (hr.mono (by decide)) (by rfl) (pa_cons (pv 1) (pa_cons (pv 2) (pa_cons (pv 3) (pa_cons (pv 11) pa_nil))))))) (pss_one (ps_ret pe_bl)) pss_nil)))
      (pss_cons (ps_set (i := 12) sc_law_is_pair_right.nd rfl (.inr rfl) (pe_ifExp (pt_cmpR op_lt (pv 1) pe_int (nomark _)) (pe_op (r := rCatA K) op_catA (pe_slice (r := rSlA K) sl_tupA (pv 6) po_none (po_some pe_int)) (pe_tup (pa_cons (pv 1) pa_nil))) (pe_slice (r := rSlA K) sl_tupA (pv 6) po_none (po_some pe_int))))
      (pss_one (ps_ret (pe_callB (r := rAll K) (cr_all rfl) (by rfl) T.n_all (by decide +kernel) (pa_cons (pe_lc (own := [("more", 13)]) rfl sc_law_is_pair_right.nd (pi_list (pe_listRg rfl (by rfl) T.n_list (prg_2 (by rfl) T.n_range (pv 1) pe_int))) (blkOk_by (own := [("more", 13)]) (N := ["bag", "k", "one", "other", "first", "second", "word", "rows", "some", "odd", "bent", "own", "short", "more", "turn"]) (sc := defScope s_law_is_pair_right) (by decide +kernel)) (fun _ _ _ _ _ => (pg_name (i := 13) sc_law_is_pair_right.nd rfl (Or.inl rfl))) (fun _ _ _ _ _ => pts_nil) (fun _ _ _ _ _ => (pe_callG hG D_law_is_judged (hr.mono (by decide)) (by rfl) (pa_cons (pv 13) (pa_cons (pv 2) (pa_cons (pv 3) (pa_cons (pe_tup (pa_cons pe_str (pa_cons (pv 12) pa_nil))) pa_nil))))))) pa_nil))))))))))))))))), ?_⟩
  rintro B Q pb pc b ⟨k, one, other⟩ rfl ⟨hk, hg, b1, b2⟩ q
  dsimp only at hk hg b1 b2
  show Ho B _ [bagv pb, iv k, wv one, wv other, none, none, none, none, none, none, none, none, none, none, none] [b.at pb pc]
  refine x_seq (x_par3W (wa_v (e := ti) (w_row (pb := pb) (pc := pc) rfl rfl (fun b' => .z) hg.1 fun first b3 hf => wa_v (e := ti) (w_row (pb := pb) (pc := pc) rfl rfl (fun b' => .z) hg.2 fun second b4 hs => ?_))))
  refine wa_v (e := ti) (w_callD (wa_x (ex_v rfl) (wa_x (ex_v rfl) (wa_nil ⟨(one, other), rfl, hg, fun W hWx => wa_nil ⟨_, _, _, rfl, ?_⟩⟩))))
  have hW : WordOk W := by
    rw [hWx]
    exact ⟨apartL_len hg, fun x hx => by have := apart_in (k := 4) hg (fun x hx => (hg.1.2 x hx).2.1) (fun x hx => (hg.2.2 x hx).2.1) x hx; omega⟩
  clear hWx
  have nf : Nice 2 60 (ti first) := nice_tup ((niceL_all hf.sm).mono (Nat.le_refl _) (by rw [List.length_map]; have := hf.len; omega))
  have ns : Nice 2 60 (ti second) := nice_tup ((niceL_all hs.sm).mono (Nat.le_refl _) (by rw [List.length_map]; have := hs.len; omega))
  have hfl := hf.len
  have hsl := hs.len
  have hfs := hf.sm
  have hss := hs.sm
  refine x_sq (x_set (a := .d (.tuple [ti first, ti second])) (ex_tup (ds := [ti first, ti second]) (ea_cons (ex_v rfl) (ea_cons (ex_v rfl) ea_nil)) (Nat.le_of_ble_eq_true rfl)) ?_)
  refine x_sq (x_skip (et_orF (et_noT (ex_toldR (ex_v rfl) (ex_v rfl) (ex_v rfl) ⟨hg, b1, b2⟩)) (et_noT (ex_toldR (ex_v rfl) (ex_v rfl) (ex_v rfl) ⟨⟨hg.2, hg.1⟩, b2, b1⟩))) ?_)
  have cf : ∀ {r : List Int} {lo hi : Option Int}, RowOk r → (cutD (r.map PyData.int) lo hi).length ≤ 8 := fun {r lo hi} hr => by
    have := cut_le (ds := r.map PyData.int) (lo := lo) (hi := hi)
    rw [List.length_map] at this
    have := hr.len
    omega
  have ts : ∀ {ds : List PyData}, (∀ d ∈ ds, Sm d) → ds.length ≤ 20 → Nice 3 200 (.tuple ds) := fun h hl => vn_ts h hl
  have t20 : Nice 3 200 (ti first) := nf.mono (by decide) (by decide)
  have t21 : Nice 3 200 (ti second) := ns.mono (by decide) (by decide)
  have t22 : Nice 3 200 (.tuple []) := nice_tup niceL_nil
  have i8 : Sm (.int 8) := sm_int (by omega)
  have i9 : Sm (.int 9) := sm_int (by omega)
  have o8 : Nice 3 200 (.tuple [.int 8]) := ts (sm_one i8) (by decide)
  have exF : ∀ {ε : Eps} {L : Own}, ε[4]? = some (dv (ti first)) → EX B (tVar 4) ε L (.d (.tuple (first.map PyData.int))) L := fun h => ex_v h
  have exS : ∀ {ε : Eps} {L : Own}, ε[5]? = some (dv (ti second)) → EX B (tVar 5) ε L (.d (.tuple (second.map PyData.int))) L := fun h => ex_v h
  refine x_sq (x_setN (en_lst (ds := [.tuple [ti first, ti second], .tuple [.tuple [], .tuple []], .tuple [ti second, ti first], .tuple [ti first, .tuple []], .tuple [.tuple [], ti second], .tuple [.tuple (cutD (first.map PyData.int) none (some (-1))), .tuple (cutD (second.map PyData.int) none (some (-1)))], .tuple [.tuple [.int 8], .tuple [.int 8]]]) (ea_cons (ex_v rfl) (ea_cons (t2 t0 t0) (ea_cons (t2 (exS rfl) (exF rfl)) (ea_cons (t2 (exF rfl) t0) (ea_cons (t2 t0 (exS rfl)) (ea_cons (t2 (ex_slT (exF rfl) eo_n (eo_s (ex_neg ex_cI))) (ex_slT (exS rfl) eo_n (eo_s (ex_neg ex_cI)))) (ea_cons (t2 (t1 ex_cI) (t1 ex_cI)) ea_nil))))))) (Nat.le_of_ble_eq_true rfl)) fun p hp => ?_)
  have a1 : ∀ d ∈ [PyData.tuple [ti first, ti second], .tuple [.tuple [], .tuple []], .tuple [ti second, ti first], .tuple [ti first, .tuple []], .tuple [.tuple [], ti second], .tuple [.tuple (cutD (first.map PyData.int) none (some (-1))), .tuple (cutD (second.map PyData.int) none (some (-1)))], .tuple [.tuple [.int 8], .tuple [.int 8]]], Nv d := all_cons (pn t20 t21) (all_cons (pn t22 t22) (all_cons (pn t21 t20) (all_cons (pn t20 t22) (all_cons (pn t22 t21) (all_cons (pn (ts (sm_cut hfs) (Nat.le_trans (cf hf) (by decide))) (ts (sm_cut hss) (Nat.le_trans (cf hs) (by decide)))) (all_cons (pn o8 o8) all_nil))))))
  have c1 : ([PyData.tuple [ti first, ti second], .tuple [.tuple [], .tuple []], .tuple [ti second, ti first], .tuple [ti first, .tuple []], .tuple [.tuple [], ti second], .tuple [.tuple (cutD (first.map PyData.int) none (some (-1))), .tuple (cutD (second.map PyData.int) none (some (-1)))], .tuple [.tuple [.int 8], .tuple [.int 8]]] : List PyData).length = 7 := rfl
  generalize ([PyData.tuple [ti first, ti second], .tuple [.tuple [], .tuple []], .tuple [ti second, ti first], .tuple [ti first, .tuple []], .tuple [.tuple [], ti second], .tuple [.tuple (cutD (first.map PyData.int) none (some (-1))), .tuple (cutD (second.map PyData.int) none (some (-1)))], .tuple [.tuple [.int 8], .tuple [.int 8]]] : List PyData) = s1 at *
  refine x_sq (x_setV (e := eD) (w_pck (pb := pb) (pc := pc) (e := eD) (xs := [.int 9, .none, .bool true, .int (-1), .str "0", .tuple []]) rfl (ex_frz (en_lst (ds := [.int 9, .none, .bool true, .int (-1), .str "0", .tuple []]) (ea_cons ex_cI (ea_cons ex_cN (ea_cons ex_cB (ea_cons (ex_neg ex_cI) (ea_cons ex_cS (ea_cons t0 ea_nil)))))) (Nat.le_of_ble_eq_true rfl))) (fun b' => .s .z) (List.cons_ne_nil _ _) (by show 6 ≤ 100000; decide) fun odd b5 hodd => ?_) (fun _ => .s (.s (.s (.s (.s (.s (.s (.s (.s (.z)))))))))))
  have ho : Sm odd := by
    simp only [List.mem_cons, List.not_mem_nil, or_false] at hodd
    rcases hodd with e | e | e | e | e | e <;> rw [e]
    · exact i9
    · exact nice_none
    · exact nice_bool _
    · exact sm_int (by omega)
    · exact nice_str
    · exact nice_tup niceL_nil
  clear hodd
  have cat1 : ∀ {r : List Int} {x : PyData} {ta tx : TE} {ε : Eps} {L : Own}, RowOk r → EX B ta ε L (.d (.tuple (r.map PyData.int))) L → EX B tx ε L (.d x) L → EX B (tOp (rCatA B.K) ta (tTup (tCons tx tNil))) ε L (.d (.tuple (r.map PyData.int ++ [x]))) L := fun {r x _ _ _ _} hr h h2 => ex_catT (ds := r.map PyData.int) (es := [x]) h (t1 h2) (by rw [List.length_map]; have := hr.len; show _ + 1 ≤ 100000; omega)
  have cut5 : ∀ {r : List Int} {ta tx : TE} {ε : Eps} {L : Own}, RowOk r → EX B ta ε L (.d (.tuple (r.map PyData.int))) L → EX B tx ε L (.d odd) L → EX B (tOp (rCatA B.K) (tOp (rCatA B.K) (tTup (tCons (tC (.int 8)) tNil)) (tSl (rSlA B.K) ta tNoPart (tPart (tC (.int 5))))) (tTup (tCons tx tNil))) ε L (.d (.tuple ([.int 8] ++ cutD (r.map PyData.int) none (some 5) ++ [odd]))) L := fun {r _ _ _ _} hr h h2 => ex_catT (ds := [.int 8] ++ cutD (r.map PyData.int) none (some 5)) (es := [odd]) (ex_catT (ds := [.int 8]) (t1 ex_cI) (ex_slT h eo_n (eo_s ex_cI)) (by have := cf (lo := none) (hi := some 5) hr; show 1 + _ ≤ 100000; omega)) (t1 h2) (by have := cf (lo := none) (hi := some 5) hr; rw [List.length_append]; show 1 + _ + 1 ≤ 100000; omega)
  have n1 : ∀ {r : List Int} {x : PyData}, RowOk r → Sm x → Nice 3 200 (.tuple (r.map PyData.int ++ [x])) := fun {r x} hr hx => ts (sm_app hr.sm (sm_one hx)) (by rw [List.length_append, List.length_map]; have := hr.len; show _ + 1 ≤ 20; omega)
  have n5 : ∀ {r : List Int}, RowOk r → Nice 3 200 (.tuple ([.int 8] ++ cutD (r.map PyData.int) none (some 5) ++ [odd])) := fun {r} hr => ts (sm_app (sm_app (sm_one i8) (sm_cut hr.sm)) (sm_one ho)) (by have := cf (lo := none) (hi := some 5) hr; rw [List.length_append, List.length_append]; show 1 + _ + 1 ≤ 20; omega)
  refine x_sq (x_extW (ex_v rfl) ⟨_, _, .z⟩ (wv_of (x := .list [.tuple [.tuple [.int 8], .tuple [.int 9]], .tuple [.tuple [.int 8], .list [.int 8]], .tuple [.tuple (first.map PyData.int ++ [.int 8]), .tuple (second.map PyData.int ++ [odd])], .tuple [.tuple ([.int 8] ++ cutD (first.map PyData.int) none (some 5) ++ [odd]), ti second]]) (ex_frz (en_lst (ds := [.tuple [.tuple [.int 8], .tuple [.int 9]], .tuple [.tuple [.int 8], .list [.int 8]], .tuple [.tuple (first.map PyData.int ++ [.int 8]), .tuple (second.map PyData.int ++ [odd])], .tuple [.tuple ([.int 8] ++ cutD (first.map PyData.int) none (some 5) ++ [odd]), ti second]]) (ea_cons (t2 (t1 ex_cI) (t1 ex_cI)) (ea_cons (t2 (t1 ex_cI) (ex_frz (en_lst (ds := [.int 8]) (ea_cons ex_cI ea_nil) (Nat.le_of_ble_eq_true rfl)))) (ea_cons (t2 (cat1 hf (exF rfl) ex_cI) (cat1 hs (exS rfl) (ex_v rfl))) (ea_cons (t2 (cut5 hf (exF rfl) (ex_v rfl)) (exS rfl)) ea_nil)))) (Nat.le_of_ble_eq_true rfl))) ⟨_, s1, _, rfl, .z, by rw [c1]; show 7 + 4 ≤ 100000; decide, ?_⟩))
  have a2 : ∀ d ∈ s1 ++ [.tuple [.tuple [.int 8], .tuple [.int 9]], .tuple [.tuple [.int 8], .list [.int 8]], .tuple [.tuple (first.map PyData.int ++ [.int 8]), .tuple (second.map PyData.int ++ [odd])], .tuple [.tuple ([.int 8] ++ cutD (first.map PyData.int) none (some 5) ++ [odd]), ti second]], Nv d := all_app a1 (all_cons (pn o8 (ts (sm_one i9) (by decide))) (all_cons (pn o8 (vn_ls (sm_one i8) (by decide))) (all_cons (pn (n1 hf i8) (n1 hs ho)) (all_cons (pn (n5 hf) t21) all_nil))))
  have c2 : (s1 ++ [PyData.tuple [.tuple [.int 8], .tuple [.int 9]], .tuple [.tuple [.int 8], .list [.int 8]], .tuple [.tuple (first.map PyData.int ++ [.int 8]), .tuple (second.map PyData.int ++ [odd])], .tuple [.tuple ([.int 8] ++ cutD (first.map PyData.int) none (some 5) ++ [odd]), ti second]]).length = 11 := by rw [List.length_append, c1]; rfl
  generalize s1 ++ [PyData.tuple [.tuple [.int 8], .tuple [.int 9]], .tuple [.tuple [.int 8], .list [.int 8]], .tuple [.tuple (first.map PyData.int ++ [.int 8]), .tuple (second.map PyData.int ++ [odd])], .tuple [.tuple ([.int 8] ++ cutD (first.map PyData.int) none (some 5) ++ [odd]), ti second]] = s2 at *
  have c8 : EX B (tTup (tCons (tC (.int 8)) tNil)) [bagv pb, iv k, wv one, wv other, dv (ti first), dv (ti second), dv (ti W), dv (.tuple [ti first, ti second]), bagv p, dv odd, none, none, none, none, none] [.lst p s2, b5.at pb pc] (.d (.tuple [.int 8])) [.lst p s2, b5.at pb pc] := t1 ex_cI
  refine x_sq (x_extW (ex_v rfl) ⟨_, _, .z⟩ (wv_of (x := .list [.tuple [.tuple (first.map PyData.int ++ [.int 8]), .tuple ([.int 8] ++ second.map PyData.int)], .tuple [.tuple [odd], .tuple [.int 8]], .tuple [ti first, .tuple ([.int 8] ++ cutD (second.map PyData.int) none (some 5) ++ [odd])]]) (ex_frz (en_lst (ds := [.tuple [.tuple (first.map PyData.int ++ [.int 8]), .tuple ([.int 8] ++ second.map PyData.int)], .tuple [.tuple [odd], .tuple [.int 8]], .tuple [ti first, .tuple ([.int 8] ++ cutD (second.map PyData.int) none (some 5) ++ [odd])]]) (ea_cons (t2 (cat1 hf (exF rfl) ex_cI) (ex_catT (ds := [.int 8]) c8 (exS rfl) (by rw [List.length_map]; show 1 + _ ≤ 100000; omega))) (ea_cons (t2 (t1 (ex_v rfl)) c8) (ea_cons (t2 (exF rfl) (cut5 hs (exS rfl) (ex_v rfl))) ea_nil))) (Nat.le_of_ble_eq_true rfl))) ⟨_, s2, _, rfl, .z, by rw [c2]; show 11 + 3 ≤ 100000; decide, ?_⟩))
  have a3 : ∀ d ∈ s2 ++ [.tuple [.tuple (first.map PyData.int ++ [.int 8]), .tuple ([.int 8] ++ second.map PyData.int)], .tuple [.tuple [odd], .tuple [.int 8]], .tuple [ti first, .tuple ([.int 8] ++ cutD (second.map PyData.int) none (some 5) ++ [odd])]], Nv d := all_app a2 (all_cons (pn (n1 hf i8) (ts (sm_app (sm_one i8) hss) (by rw [List.length_append, List.length_map]; show 1 + _ ≤ 20; omega))) (all_cons (pn (ts (sm_one ho) (by show 1 ≤ 20; decide)) o8) (all_cons (pn t20 (n5 hs)) all_nil)))
  have c3 : (s2 ++ [PyData.tuple [.tuple (first.map PyData.int ++ [.int 8]), .tuple ([.int 8] ++ second.map PyData.int)], .tuple [.tuple [odd], .tuple [.int 8]], .tuple [ti first, .tuple ([.int 8] ++ cutD (second.map PyData.int) none (some 5) ++ [odd])]]).length = 14 := by rw [List.length_append, c2]; rfl
  generalize s2 ++ [PyData.tuple [.tuple (first.map PyData.int ++ [.int 8]), .tuple ([.int 8] ++ second.map PyData.int)], .tuple [.tuple [odd], .tuple [.int 8]], .tuple [ti first, .tuple ([.int 8] ++ cutD (second.map PyData.int) none (some 5) ++ [odd])]] = s3 at *
  refine x_sq (x_setV (e := eL eD) (w_callG (pb := pb) (pc := pc) (wa_x (ex_v rfl) (wa_x (ex_v rfl) (wa_nil ⟨(first, second), b5, _, rfl, fun b' => .s .z, ⟨hf, hs⟩, fun bent b6 hbent => ?_⟩)))) (fun _ => .s (.s (.s (.s (.s (.s (.s (.s (.s (.s (.z))))))))))))
  have eB : eL eD bent = .list bent := by unfold eL; rw [map_eD]
  rw [eB]
  have hbe := hbent.all
  have hbl := hbent.len
  have hbn := hbent.ne
  have nB : ∀ d ∈ bent, Nv d := fun d hd => (hbe d hd).mono (by decide) (by decide)
  refine x_sq (x_extW (ex_v rfl) ⟨_, _, .z⟩ (wv_mono (κ := fun d L1 => ∃ (es : List PyData) (b : Bag), d = .list es ∧ (∀ d ∈ es, Nv d) ∧ es.length ≤ 100 ∧ L1 = [.lst p s3, b.at pb pc]) (w_if (wt_of (et_test (ex_eqD (d := ti W) (e := .tuple []) (ex_v rfl) t0 ((nice_ts hW.sm (by rw [List.length_map]; have := hW.len; omega)).shp (by decide)) rfl)) ⟨fun h => wv_of (x := .list bent) (ex_v rfl) ⟨bent, b6, rfl, nB, hbl, rfl⟩, fun h => ?_⟩)) fun d L1 ⟨es, b7, hd, hes, hel, hL⟩ => ?_))
  · refine w_frz (wr_lcR1 (n := 6) (ea_cons ex_cI ea_nil) (by decide) (fun i acc L => ∃ b : Bag, acc.length = i ∧ (∀ d ∈ acc, Nv d) ∧ L = [.lst p s3, b.at pb pc]) ⟨b6, rfl, all_nil, rfl⟩ (by simp) ?_ ?_)
    · rintro i hi acc L' ⟨b7, hl, ha, rfl⟩
      refine ⟨by omega, _, gt_name, fun m => wt_of et_yes ⟨fun _ => ?_, (fun h => nomatch h)⟩⟩
      exact w_pck (pb := pb) (pc := pc) (e := eD) (xs := bent) rfl (ex_is (ex_v rfl) (by rw [← eB])) (fun b' => .s .z) hbn (by omega) fun z b8 hz => ⟨[.lst p s3, b8.at pb pc], rfl, b8, by rw [List.length_append, hl]; rfl, all_app ha (all_cons (nB z hz) all_nil), rfl⟩
    · rintro p2 acc L' hp2 ⟨b7, hl, ha, rfl⟩
      exact ⟨acc, _, .list acc, hp2, rfl, rfl, acc, b7, rfl, ha, by have e : (6 : Int).toNat = 6 := rfl; omega, rfl⟩
  subst hL
  refine ⟨es, s3, _, hd, .z, by omega, ?_⟩
  have a4 : ∀ d ∈ s3 ++ es, Nv d := all_app a3 hes
  generalize s3 ++ es = s4 at *
  have EE : (.list bent : PyData) = eL eD bent := eB.symm
  refine x_sq (x_forO (p := p) (ds := s4) (ex_v rfl) (fun i ε L => ε = [bagv pb, iv k, wv one, wv other, dv (ti first), dv (ti second), dv (ti W), dv (.tuple [ti first, ti second]), bagv p, dv odd, dv (.list bent), none, none, none, none] ∧ L = [.lst p s4, b7.at pb pc]) ⟨rfl, rfl⟩ (fun i ε' L' ⟨_, h⟩ => by rw [h]; exact List.mem_cons_self) ?_ ?_)
  · rintro i d ε' L' hd ⟨rfl, rfl⟩
    have hdv := a4 d (List.mem_of_getElem? hd)
    exact ⟨_, gt_name, x_skip (et_noT (ex_judged (ex_v rfl) (ex_v rfl) (ex_v rfl) (t2 ex_cS (ex_v rfl)) ⟨hg, told_jok hdv⟩)) (nxt (x_end ⟨rfl, rfl⟩))⟩
  rintro ε' L' ⟨rfl, rfl⟩
  refine nxt (x_seq (x_forLW (wv_as (e := eL eD) (w_callG (pb := pb) (pc := pc) (wa_x (ex_v rfl) (wa_x (ex_v rfl) (wa_x (ex_v rfl) (wa_x (ex_v rfl) (wa_x (ex_v rfl) (wa_nil ⟨(k, (one, other), W), b7, _, rfl, fun b' => .s .z, ⟨hk, hg, hW⟩, fun ws b8 hws => ?_⟩))))))))))
  refine ⟨.list ws, by unfold eL; rw [map_eD]; rfl, ws, rfl, fun v i ε L => ε = [bagv pb, iv k, wv one, wv other, dv (ti first), dv (ti second), dv (ti W), dv (.tuple [ti first, ti second]), bagv p, dv odd, dv (.list bent), none, none, none, none] ∧ L = [.lst p s4, b8.at pb pc, .know v (.list ws)], fun v => ⟨rfl, rfl⟩, fun v i ε' L' ⟨_, h⟩ => by rw [h]; simp, ?_, ?_⟩
  · rintro v i d ε' L' hd ⟨rfl, rfl⟩
    have hdv := hws.all d (List.mem_of_getElem? hd)
    exact ⟨_, gt_name, x_skip (et_noT (ex_judged (ex_v rfl) (ex_v rfl) (ex_v rfl) (t2 ex_cS (ex_v rfl)) ⟨hg, word_jok hdv⟩)) (nxt (x_end ⟨rfl, rfl⟩))⟩
  rintro v ε' L' ⟨rfl, rfl⟩
  refine nxt (ho_drop (k := 2) ?_ rfl (fun p hp => nomatch hp))
  show Ho B _ _ [.lst p s4, b8.at pb pc]
  refine x_seq (x_forLW (wv_as (e := eL eD) (w_callG (pb := pb) (pc := pc) (wa_x (ex_v rfl) (wa_x (ex_v rfl) (wa_x (ex_v rfl) (wa_nil ⟨((first, second), W), b8, _, rfl, fun b' => .s .z, ⟨hf, hs, hW⟩, fun ws b9 hws2 => ?_⟩)))))))
  refine ⟨.list ws, by unfold eL; rw [map_eD]; rfl, ws, rfl, fun v i ε L => ε = [bagv pb, iv k, wv one, wv other, dv (ti first), dv (ti second), dv (ti W), dv (.tuple [ti first, ti second]), bagv p, dv odd, dv (.list bent), none, none, none, none] ∧ L = [.lst p s4, b9.at pb pc, .know v (.list ws)], fun v => ⟨rfl, rfl⟩, fun v i ε' L' ⟨_, h⟩ => by rw [h]; simp, ?_, ?_⟩
  · rintro v i d ε' L' hd ⟨rfl, rfl⟩
    have hdv := hws2.all d (List.mem_of_getElem? hd)
    exact ⟨_, gt_name, x_skip (et_noT (ex_judged (ex_v rfl) (ex_v rfl) (ex_v rfl) (ex_v rfl) ⟨hg, hdv⟩)) (nxt (x_end ⟨rfl, rfl⟩))⟩
  rintro v ε' L' ⟨rfl, rfl⟩
  refine nxt (ho_drop (k := 2) ?_ rfl (fun p hp => nomatch hp))
  show Ho B _ _ [.lst p s4, b9.at pb pc]
  have hWl := hW.len
  have hcut : (cutD (W.map PyData.int) none (some 8)).length ≤ 16 := by
    have := cut_le (ds := W.map PyData.int) (lo := none) (hi := some 8)
    rw [List.length_map] at this
    omega
  have ex8 : EX B (tSl (rSlA B.K) (tVar 6) tNoPart (tPart (tC (.int 8)))) [bagv pb, iv k, wv one, wv other, dv (ti first), dv (ti second), dv (ti W), dv (.tuple [ti first, ti second]), bagv p, dv odd, dv (.list bent), none, none, none, none] [.lst p s4, b9.at pb pc] (.d (.tuple (cutD (W.map PyData.int) none (some 8)))) [.lst p s4, b9.at pb pc] := ex_slT (ds := W.map PyData.int) (ex_v rfl) eo_n (eo_s ex_cI)
  refine x_seq (x_setV (e := eD) (wv_mono (κ := fun d L1 => Wn d ∧ L1 = [.lst p s4, b9.at pb pc]) (w_if (wt_of (et_test (ex_lt (ex_v rfl) ex_cI)) ⟨fun h => wv_of (x := .tuple (cutD (W.map PyData.int) none (some 8) ++ [.int k])) (ex_catT (es := [.int k]) ex8 (t1 (ex_v rfl)) (by show _ + 1 ≤ 100000; omega)) ⟨wn_ts (sm_app (sm_cut hW.sm) (sm_one (sm_int (by omega)))) (by rw [List.length_append]; show _ + 1 ≤ 40; omega), rfl⟩, fun h => wv_of (e := eD) (x := PyData.tuple (cutD (W.map PyData.int) none (some 8))) ex8 ⟨wn_ts (sm_cut hW.sm) (by omega), rfl⟩⟩)) fun d L1 ⟨hd, hL⟩ => ?_) (fun _ => .s (.s (.s (.s (.s (.s (.s (.s (.s (.s (.s (.s (.z))))))))))))))
  subst hL
  refine nxt (x_retG q (wv_of (x := true) (ex_boolE (ex_allB (bs := (rgD k 5).map fun _ => true) (ex_is (ex_frz (en_lcLP (xs := rgD k 5) (fun _ => true) (fun _ => .bool true) (fun m => [bagv pb, iv k, wv one, wv other, dv (ti first), dv (ti second), dv (ti W), dv (.tuple [ti first, ti second]), bagv p, dv odd, dv (.list bent), none, dv d, some (.d m), none]) (ex_frz (en_listRg2 (ex_v rfl) ex_cI (by omega))) (by unfold rgD; rw [List.length_map, List.length_range]; omega) (gw_name (by simp)) (fun d hd => gt_name) (fun d hd m => et_yes) (fun m hm _ _ => ?_))) ?_) .d) ?_) ⟨rfl, b9, by simp⟩))
  · unfold rgD at hm
    obtain ⟨i, _, rfl⟩ := List.mem_map.mp hm
    exact ex_judged (ex_v rfl) (ex_v rfl) (ex_v rfl) (t2 ex_cS (ex_v rfl)) ⟨hg, word_jok hd⟩
  · rw [filter_yes, List.map_map]; rfl
  · exact List.all_eq_true.mpr fun x hx => by
      obtain ⟨_, _, rfl⟩ := List.mem_map.mp hx
      rfl
end K88

/-! ## G14 -/
set_option Elab.async false
set_option linter.all false
set_option maxRecDepth 100000
set_option maxHeartbeats 4000000
set_option autoImplicit false
namespace K88
open PySem L2 Fz K80 Ways
variable {P : Program} {w : World} {K : PySem.W.Frag} {mg : Str → Option Value} {base : Heap} {f : Addr} {fd : FuncData}
def letD : PyData → PyData
  | .tuple [_, .int y] => .bool (decide ((y.natAbs : Int) ≤ 100))
  | d => d
abbrev S_law_are_between_right (K : PySem.W.Frag) : Sp := spG K (fun y : Int × Way => [.int y.1, wayD y.2]) (fun y => (1 ≤ y.1 ∧ y.1 ≤ 4) ∧ GW 4 8 (2 ^ 17) y.2 ∧ LB y.1 y.2) PyData.bool (fun _ x => x = true)
theorem okd_law_are_between_right (Fn : Fun K "_law_are_between_right" "_law_are_between_right" s_law_are_between_right f fd) (T : Bt P mg base) (D_law_paper_row : Df P w K mg base 43 "_law_paper_row" ["bag", "way"] (S_law_paper_row K)) (D_law_draw : Df P w K mg base 41 "_law_draw" ["bag", "below"] (S_law_draw K)) (D_law_is_judged : GDf P w K mg base 46 "_law_is_judged" ["k", "one", "other", "value"] (S_law_is_judged K)) (D_law_is_told_right : GDf P w K mg base 47 "_law_is_told_right" ["k", "one", "other"] (S_law_is_told_right K)) : GOk P w K mg base 48 f fd ["bag", "k", "way"] (S_law_are_between_right K) := by
  refine g_G Fn sc_law_are_between_right (by decide) (fun _ => rfl) fun cdv A outer s H hr hG => ⟨_, (pss_cons (ps_asg (pe_callD D_law_paper_row (hr.mono (by decide)) (by rfl) (pa_cons (pv 0) (pa_cons (pv 2) pa_nil))) (pg_tup rfl (pgs_cons (pg_name (i := 3) sc_law_are_between_right.nd rfl (Or.inl rfl)) (pgs_cons (pg_name (i := 4) sc_law_are_between_right.nd rfl (Or.inl rfl)) pgs_nil))))
      (pss_cons (ps_for PassesOwn.never rfl (pi_list (pe_lst (pa_cons (pe_callD D_law_draw (hr.mono (by decide)) (by rfl) (pa_cons (pv 0) (pa_cons (pe_callB (r := Evl.rLenS K) call_len_seq (by rfl) T.n_len (by decide +kernel) (pa_cons (pv 4) pa_nil)) pa_nil))) (pa_cons (pe_op op_sub (pe_callB (r := Evl.rLenS K) call_len_seq (by rfl) T.n_len (by decide +kernel) (pa_cons (pv 4) pa_nil)) pe_int) (pa_cons (pe_callB (call_max2 rfl) (by rfl) T.n_max (by decide +kernel) (pa_cons pe_int (pa_cons (pe_op op_sub (pe_callB (r := Evl.rLenS K) call_len_seq (by rfl) T.n_len (by decide +kernel) (pa_cons (pv 4) pa_nil)) pe_int) pa_nil))) pa_nil))))) (pg_name (i := 5) sc_law_are_between_right.nd rfl (Or.inl rfl)) (pss_cons (ps_set (i := 6) sc_law_are_between_right.nd rfl (.inl rfl) (pe_ix (r := rIxL K) ix_list (pv 4) (pv 5) (fun _ _ => rfl)))
      (pss_one (ps_if (pt_val (pe_callB (r := rAll K) (cr_all rfl) (by rfl) T.n_all (by decide +kernel) (pa_cons (pe_lc (g := gTup K 2 (gCons (gName 8) (gCons (gName 9) gNil))) (own := [("letter", 8), ("stride", 9)]) rfl sc_law_are_between_right.nd (pi_tup (pv 6)) (blkOk_by (own := [("letter", 8), ("stride", 9)]) (N := ["bag", "k", "way", "row", "found", "n", "between", "own", "letter", "stride"]) (sc := defScope s_law_are_between_right) (by decide +kernel)) (fun _ _ _ _ _ => (pg_tup rfl (pgs_cons (pg_name (i := 8) sc_law_are_between_right.nd rfl (Or.inl rfl)) (pgs_cons (pg_name (i := 9) sc_law_are_between_right.nd rfl (Or.inl rfl)) pgs_nil)))) (fun _ _ _ _ _ => pts_nil) (fun _ _ _ _ _ => (pe_cmpR op_le (pe_callB call_abs (by rfl) T.n_abs (by decide +kernel) (pa_cons (pv 9) pa_nil)) pe_int (nomark _)))) pa_nil))) (pss_one (ps_for PassesOwn.never rfl (pi_list (pe_lst (pa_cons (pe_tup (pa_cons (pe_slice (r := rSlA K) sl_tupA (pv 3) po_none (po_some (pv 5))) (pa_cons (pe_tup pa_nil) pa_nil))) (pa_cons (pe_tup (pa_cons (pv 3) (pa_cons (pe_slice (r := rSlA K) sl_tupA (pv 3) (po_some (pv 5)) po_none) pa_nil))) (pa_cons (pe_tup (pa_cons (pv 3) (pa_cons (pe_slice (r := rSlA K) sl_tupA (pv 3) (po_some (pv 5)) (po_some (pe_un un_neg pe_int))) pa_nil))) (pa_cons (pe_tup (pa_cons (pe_slice (r := rSlA K) sl_tupA (pv 3) po_none (po_some (pv 5))) (pa_cons (pe_tup (pa_cons pe_int pa_nil)) pa_nil))) pa_nil)))))) (pg_name (i := 7) sc_law_are_between_right.nd rfl (Or.inl rfl)) (pss_one (ps_if (pt_not (pt_val (pe_callG hG D_law_is_judged (hr.mono (by decide)) (by rfl) (pa_cons (pv 1) (pa_cons (pv 2) (pa_cons (pv 6) (pa_cons (pe_tup (pa_cons pe_str (pa_cons (pv 7) pa_nil))) pa_nil))))))) (pss_one (ps_ret pe_bl)) pss_nil)))) pss_nil))))
      (pss_one (ps_ret (pe_and (pe_callG hG D_law_is_judged (hr.mono (by decide)) (by rfl) (pa_cons (pv 1) (pa_cons (pv 2) (pa_cons (pv 2) (pa_cons (pe_tup (pa_cons pe_str (pa_cons (pe_tup (pa_cons (pe_tup pa_nil) (pa_cons (pe_tup pa_nil) pa_nil))) pa_nil))) pa_nil))))) (pe_one (pe_callG hG D_law_is_told_right (hr.mono (by decide)) (by rfl) (pa_cons (pv 1) (pa_cons (pv 2) (pa_cons (pv 2) pa_nil)))))))))), ?_⟩
  rintro B Q pb pc b ⟨k, way⟩ rfl ⟨hk, hg, hb⟩ q
  dsimp only at hk hg hb
  show Ho B _ [bagv pb, iv k, wv way, none, none, none, none, none, none, none] [b.at pb pc]
  have hg20 : GW 4 8 (2 ^ 20) way := hg.mono (Nat.le_refl _) (by decide)
  have hl := hg.1
  refine x_seq (x_asgW (wx_v (e := eP ti (eL wayD)) (w_callG (pb := pb) (pc := pc) (wa_x (ex_v rfl) (wa_x (ex_v rfl) (wa_nil ⟨way, b, _, rfl, fun b' => .z, ⟨by omega, LW.rfl' hg⟩, fun y b1 hy => ⟨_, gt_tup2 (d := ti y.1) (e := eL wayD y.2), ?_⟩⟩))))))
  obtain ⟨row, us⟩ := y
  have hr : RowOk row := hy.rok hl
  have hrs := hr.sm
  have hrl := hr.len
  have hall : ∀ u ∈ us, LW way u := hy.all
  have hul : us.length = row.length + 1 := hy.len
  have hcut : ∀ {lo hi : Option Int}, (cutD (row.map PyData.int) lo hi).length ≤ 8 := fun {lo hi} => by
    have := cut_le (ds := row.map PyData.int) (lo := lo) (hi := hi)
    rw [List.length_map] at this
    omega
  have ts : ∀ {ds : List PyData}, (∀ d ∈ ds, Sm d) → ds.length ≤ 20 → Nice 3 200 (.tuple ds) := fun h hl => vn_ts h hl
  have nr : Nice 3 200 (ti row) := ts hrs (by rw [List.length_map]; omega)
  have nt : Nice 3 200 (.tuple []) := nice_tup niceL_nil
  have n0 : Nice 3 200 (.tuple [.int 0]) := ts (sm_one (sm_int (by omega))) (by decide)
  have nc : ∀ {lo hi : Option Int}, Nice 3 200 (.tuple (cutD (row.map PyData.int) lo hi)) := ts (sm_cut hrs) (Nat.le_trans hcut (by decide))
  have exl : ∀ {ε : Eps} {L : Own}, ε[4]? = some (dv (eL wayD us)) → EX B (tCB (Evl.rLenS B.K) (tCons (tVar 4) tNil)) ε L (.d (.int (us.length : Int))) L := fun h => ex_lenl (e := wayD) (xs := us) (ex_v h) .d
  refine x_sq (x_forLW (wv_as (e := eL PyData.int) (w_dispL (e := PyData.int) (wa_v (e := PyData.int) (w_drw (pb := pb) (pc := pc) rfl (exl rfl) (fun b' => .z) (by omega) fun x b2 h2 h3 => wa_x (ex_sub (exl rfl) ex_cI) (wa_x (ex_max2 ex_cI (ex_sub (exl rfl) ex_cI)) (wa_nil ⟨[x, (us.length : Int) - 1, if (us.length : Int) - 2 > 0 then (us.length : Int) - 2 else 0], rfl, by show 3 ≤ 100000; decide, ?_⟩)))))))
  have hns : ∀ z ∈ [x, (us.length : Int) - 1, if (us.length : Int) - 2 > 0 then (us.length : Int) - 2 else 0], 0 ≤ z ∧ z < (us.length : Int) := fun z hz => by
    simp only [List.mem_cons, List.not_mem_nil, or_false] at hz
    rcases hz with e | e | e
    · omega
    · omega
    · rw [e]; split <;> omega
  generalize [x, (us.length : Int) - 1, if (us.length : Int) - 2 > 0 then (us.length : Int) - 2 else 0] = nn at *
  refine ⟨.list (nn.map PyData.int), rfl, nn.map PyData.int, rfl, fun v i ε L => ε = [bagv pb, iv k, wv way, dv (ti row), dv (eL wayD us), none, none, none, none, none] ∧ L = [b2.at pb pc, .know v (.list (nn.map PyData.int))], fun v => ⟨rfl, rfl⟩, fun v i ε' L' ⟨_, h⟩ => by rw [h]; simp, ?_, ?_⟩
  · rintro v i d ε' L' hd ⟨rfl, rfl⟩
    obtain ⟨n, hn, rfl⟩ := ti_at hd
    obtain ⟨g0, g1⟩ := hns n (List.mem_of_getElem? hn)
    refine ⟨_, gt_name, ?_⟩
    obtain ⟨u, hu⟩ : ∃ u, us[n.toNat]? = some u := ⟨_, List.getElem?_eq_getElem (by omega)⟩
    have hlw := hall u (List.mem_of_getElem? hu)
    have gu : GW 4 8 (2 ^ 20) u := (hlw.gw hg).mono (Nat.le_refl _) (by decide)
    have hul2 := gu.1
    refine x_seq (x_set (a := .d (wayD u)) (ex_atl (e := wayD) (xs := us) (n := n.toNat) (a := u) (ex_v rfl) (ex_v rfl) .d (by omega) hu) ?_)
    refine nxt (x_if (b := (u.map fun z => decide ((z.2.natAbs : Int) ≤ 100)).all id) (et_test (ex_allB (bs := u.map fun z => decide ((z.2.natAbs : Int) ≤ 100)) (ex_is (ex_frz (en_lcTP (xs := wayL u) (fun _ => true) letD (fun d => match d with | .tuple [x, y] => [bagv pb, iv k, wv way, dv (ti row), dv (eL wayD us), iv n, wv u, none, some (.d x), some (.d y)] | _ => []) (ex_v rfl) (by rw [wayL_len]; omega) (gw_tup2 (by simp) (by simp)) (fun d hd => ?_) (fun d hd m => et_yes) (fun d hd _ m => ?_))) ?_) .d)) (fun hb => ?_) fun hb => x_next (nxt (x_end ⟨rfl, rfl⟩)))
    · obtain ⟨x, _, rfl⟩ := List.mem_map.mp hd
      exact gt_tup2 (d := .int x.1) (e := .int x.2)
    · obtain ⟨x, _, rfl⟩ := List.mem_map.mp hd
      exact ex_boolE (ex_le (ex_int (ex_abs (ex_v rfl)) (abs_if x.2)) ex_cI) rfl
    · rw [filter_yes]
      unfold wayL
      rw [List.map_map, List.map_map]; rfl
    · have rc : ∀ {lo hi : Option Int} {tl th : TO} {ε : Eps} {L : Own}, ε[3]? = some (dv (ti row)) → EO B tl ε L lo L → EO B th ε L hi L → EX B (tSl (rSlA B.K) (tVar 3) tl th) ε L (.d (.tuple (cutD (row.map PyData.int) lo hi))) L := fun h h1 h2 => ex_slT (ds := row.map PyData.int) (ex_v h) h1 h2
      have rv : ∀ {ε : Eps} {L : Own}, ε[3]? = some (dv (ti row)) → EX B (tVar 3) ε L (.d (ti row)) L := fun h => ex_v h
      refine x_forL (ds := [.tuple [.tuple (cutD (row.map PyData.int) none (some n)), .tuple []], .tuple [ti row, .tuple (cutD (row.map PyData.int) (some n) none)], .tuple [ti row, .tuple (cutD (row.map PyData.int) (some n) (some (-1)))], .tuple [.tuple (cutD (row.map PyData.int) none (some n)), .tuple [.int 0]]]) (ex_frz (en_lst (ds := [.tuple [.tuple (cutD (row.map PyData.int) none (some n)), .tuple []], .tuple [ti row, .tuple (cutD (row.map PyData.int) (some n) none)], .tuple [ti row, .tuple (cutD (row.map PyData.int) (some n) (some (-1)))], .tuple [.tuple (cutD (row.map PyData.int) none (some n)), .tuple [.int 0]]]) (ea_cons (t2 (rc rfl eo_n (eo_s (ex_v rfl))) t0) (ea_cons (t2 (rv rfl) (rc rfl (eo_s (ex_v rfl)) eo_n)) (ea_cons (t2 (rv rfl) (rc rfl (eo_s (ex_v rfl)) (eo_s (ex_neg ex_cI)))) (ea_cons (t2 (rc rfl eo_n (eo_s (ex_v rfl))) (t1 ex_cI)) ea_nil)))) (Nat.le_of_ble_eq_true rfl))) (fun v2 j ε L => ε = [bagv pb, iv k, wv way, dv (ti row), dv (eL wayD us), iv n, wv u, none, none, none] ∧ L = [b2.at pb pc, .know v (.list (nn.map PyData.int)), .know v2 (.list [.tuple [.tuple (cutD (row.map PyData.int) none (some n)), .tuple []], .tuple [ti row, .tuple (cutD (row.map PyData.int) (some n) none)], .tuple [ti row, .tuple (cutD (row.map PyData.int) (some n) (some (-1)))], .tuple [.tuple (cutD (row.map PyData.int) none (some n)), .tuple [.int 0]]])]) (fun v2 => ⟨rfl, rfl⟩) (fun v2 j ε' L' ⟨_, h⟩ => by rw [h]; simp) ?_ ?_
      · rintro v2 j d ε' L' hd ⟨rfl, rfl⟩
        have hdv : Nv d := by
          have hm := List.mem_of_getElem? hd
          simp only [List.mem_cons, List.not_mem_nil, or_false] at hm
          rcases hm with e | e | e | e <;> rw [e]
          · exact pn nc nt
          · exact pn nr nc
          · exact pn nr nc
          · exact pn nc n0
        exact ⟨_, gt_name, x_skip (et_noT (ex_judged (ex_v rfl) (ex_v rfl) (ex_v rfl) (t2 ex_cS (ex_v rfl)) ⟨⟨hg20, gu⟩, told_jok hdv⟩)) (nxt (x_end ⟨rfl, rfl⟩))⟩
      · rintro v2 ε' L' ⟨rfl, rfl⟩
        exact nxt (ho_drop (k := 2) (x_end ⟨rfl, rfl⟩) rfl (fun p hp => nomatch hp))
  · rintro v ε' L' ⟨rfl, rfl⟩
    exact nxt (x_retG q (wv_of (x := true) (ex_andV (b := true) (c := true) (ex_judged (ex_v rfl) (ex_v rfl) (ex_v rfl) (t2 ex_cS (t2 t0 t0)) ⟨⟨hg20, hg20⟩, told_jok (pn nt nt)⟩) (fun _ => ex_toldR (ex_v rfl) (ex_v rfl) (ex_v rfl) ⟨⟨hg20, hg20⟩, hb, hb⟩) (fun h => nomatch h)) ⟨rfl, b2, by simp⟩))
end K88

/-! ## G15 -/
set_option Elab.async false
set_option linter.all false
set_option maxRecDepth 100000
set_option maxHeartbeats 4000000
set_option autoImplicit false
namespace K88
open PySem L2 Fz K80 Ways
variable {P : Program} {w : World} {K : PySem.W.Frag} {mg : Str → Option Value} {base : Heap} {f : Addr} {fd : FuncData}
abbrev S_law_bag (K : PySem.W.Frag) : Sp := spOwn K
abbrev S_law_asks (K : PySem.W.Frag) : Sp := spLaw K
abbrev S_law (K : PySem.W.Frag) : Sp := spLaw K
theorem okd_law_bag (Fn : Fun K "_law_bag" "_law_bag" s_law_bag f fd) (T : Bt P mg base) : FnOk P w K mg base CX0 41 f fd ["script"] (S_law_bag K) := ok_law_bag Fn T
theorem GW.lb {lb : Int} {n c : Nat} {v : Way} (h : GW lb n c v) : LB lb v := fun x hx => (h.2 x hx).2.1
theorem okd_law_asks (Fn : Fun K "_law_asks" "_law_asks" s_law_asks f fd) (T : Bt P mg base) (D_law_bag : Df P w K mg base 41 "_law_bag" ["script"] (S_law_bag K)) (D_law_own_way : Df P w K mg base 44 "_law_own_way" ["bag", "k", "most"] (S_law_own_way K)) (D_law_draw : Df P w K mg base 41 "_law_draw" ["bag", "below"] (S_law_draw K)) (D_law_longer : Df P w K mg base 44 "_law_longer" ["bag", "k", "way", "most"] (S_law_longer K)) (D_reduced_way : Df P w K mg base 41 "reduced_way" ["way"] (S_reduced_way K)) (D_law_pair : Df P w K mg base 45 "_law_pair" ["bag", "k"] (S_law_pair K)) (D_law_last_pair : Df P w K mg base 44 "_law_last_pair" ["bag"] (S_law_last_pair K)) (D_law_is_told_right : GDf P w K mg base 47 "_law_is_told_right" ["k", "one", "other"] (S_law_is_told_right K)) (D_law_is_judged : GDf P w K mg base 46 "_law_is_judged" ["k", "one", "other", "value"] (S_law_is_judged K)) (D_law_same : GDf P w K mg base 41 "_law_same" ["told", "due"] (S_law_same K)) (D_law_are_between_right : GDf P w K mg base 48 "_law_are_between_right" ["bag", "k", "way"] (S_law_are_between_right K)) (D_law_is_pair_right : GDf P w K mg base 48 "_law_is_pair_right" ["bag", "k", "one", "other"] (S_law_is_pair_right K)) (D_law_left : Df P w K mg base 41 "_law_left" ["way"] (S_law_left K)) (D_law_back : Df P w K mg base 41 "_law_back" ["way"] (S_law_back K)) : GOk P w K mg base 49 f fd ["script"] (S_law_asks K) := by
  refine g_S Fn sc_law_asks (by decide) fun cdv A outer s H hr hG => ⟨_, (pss_cons (ps_set (i := 1) sc_law_asks.nd rfl (.inl rfl) (pe_callD D_law_bag (hr.mono (by decide)) (by rfl) (pa_cons (pv 0) pa_nil)))
      (pss_cons (ps_set (i := 2) sc_law_asks.nd rfl (.inl rfl) (pe_op op_add pe_int (pe_callD D_law_draw (hr.mono (by decide)) (by rfl) (pa_cons (pv 1) (pa_cons pe_int pa_nil)))))
      (pss_cons (ps_set (i := 3) sc_law_asks.nd rfl (.inl rfl) (pe_callD D_law_own_way (hr.mono (by decide)) (by rfl) (pa_cons (pv 1) (pa_cons (pv 2) (pa_cons pe_int pa_nil)))))
      (pss_cons (ps_par (i := 4) (j := 5) (by rfl) sc_law_asks.nd rfl rfl (by decide) rfl rfl (pa_cons (pe_callD D_law_longer (hr.mono (by decide)) (by rfl) (pa_cons (pv 1) (pa_cons (pv 2) (pa_cons (pv 3) (pa_cons pe_int pa_nil))))) (pa_cons (pe_callD D_reduced_way (hr.mono (by decide)) (by rfl) (pa_cons (pv 3) pa_nil)) pa_nil)) (by rfl))
      (pss_cons (ps_if (PW.pt (pw_or (pt_not (pt_val (pe_callG hG D_law_same (hr.mono (by decide)) (by rfl) (pa_cons (pv 5) (pa_cons (pe_callD D_law_left (hr.mono (by decide)) (by rfl) (pa_cons (pv 3) pa_nil)) pa_nil))))) (pw_or1 (pt_not (pt_val (pe_callG hG D_law_are_between_right (hr.mono (by decide)) (by rfl) (pa_cons (pv 1) (pa_cons (pv 2) (pa_cons (pv 4) pa_nil))))))))) (pss_one (ps_ret pe_bl)) pss_nil)
      (pss_cons (ps_par (i := 6) (j := 7) (by rfl) sc_law_asks.nd rfl rfl (by decide) rfl rfl (pa_cons (pe_op op_add pe_int (pe_callD D_law_draw (hr.mono (by decide)) (by rfl) (pa_cons (pv 1) (pa_cons pe_int pa_nil)))) (pa_cons (pe_op op_add pe_int (pe_callD D_law_draw (hr.mono (by decide)) (by rfl) (pa_cons (pv 1) (pa_cons pe_int pa_nil)))) pa_nil)) (by rfl))
      (pss_cons (ps_set (i := 8) sc_law_asks.nd rfl (.inl rfl) (pe_op (r := rRepT1 K) op_repT1 (pe_tup (pa_cons (pe_tup (pa_cons (pe_op op_sub (pv 7) pe_int) (pa_cons (pv 6) pa_nil))) pa_nil)) pe_int))
      (pss_cons (ps_if (PW.pt (pw_or (pt_not (pt_val (pe_callG hG D_law_is_told_right (hr.mono (by decide)) (by rfl) (pa_cons pe_int (pa_cons (pv 8) (pa_cons (pe_tup (pa_cons (pe_tup (pa_cons (pe_op op_sub (pv 7) pe_int) (pa_cons (pe_op op_mulW pe_int (pv 6)) pa_nil))) pa_nil)) pa_nil)))))) (pw_or1 (pt_not (pt_val (pe_callG hG D_law_are_between_right (hr.mono (by decide)) (by rfl) (pa_cons (pv 1) (pa_cons pe_int (pa_cons (pv 8) pa_nil))))))))) (pss_one (ps_ret pe_bl)) pss_nil)
      (pss_cons (ps_par (i := 9) (j := 10) (by rfl) sc_law_asks.nd rfl rfl (by decide) rfl rfl (pa_cons (pe_callD D_law_pair (hr.mono (by decide)) (by rfl) (pa_cons (pv 1) (pa_cons (pv 7) pa_nil))) (pa_cons (pe_callD D_law_last_pair (hr.mono (by decide)) (by rfl) (pa_cons (pv 1) pa_nil)) pa_nil)) (by rfl))
      (pss_cons (ps_if (PW.pt (pw_or (pt_not (pt_val (pe_callG hG D_law_is_pair_right (hr.mono (by decide)) (by rfl) (pa_cons (pv 1) (pa_cons (pv 2) (pa_cons (pv 3) (pa_cons (pv 4) pa_nil))))))) (pw_or1 (pt_not (pt_val (pe_callG hG D_law_is_pair_right (hr.mono (by decide)) (by rfl) (pa_cons (pv 1) (pa_cons (pv 7) (pa_cons (pe_ix (r := rIxT K) ix_tup (pv 9) pe_int (fun _ _ => rfl)) (pa_cons (pe_ix (r := rIxT K) ix_tup (pv 9) pe_int (fun _ _ => rfl)) pa_nil)))))))))) (pss_one (ps_ret pe_bl)) pss_nil)
      (pss_cons (ps_par (i := 11) (j := 12) (by rfl) sc_law_asks.nd rfl rfl (by decide) rfl rfl (pa_cons (pe_callD D_law_own_way (hr.mono (by decide)) (by rfl) (pa_cons (pv 1) (pa_cons pe_int (pa_cons pe_int pa_nil)))) (pa_cons (pe_callD D_law_own_way (hr.mono (by decide)) (by rfl) (pa_cons (pv 1) (pa_cons pe_int (pa_cons pe_int pa_nil)))) pa_nil)) (by rfl))
      (pss_cons (ps_if (pt_not (pt_val (pe_callG hG D_law_is_told_right (hr.mono (by decide)) (by rfl) (pa_cons pe_int (pa_cons (pe_op (r := rCatA K) op_catA (pe_op (r := rCatA K) op_catA (pv 12) (pv 11)) (pe_callD D_law_back (hr.mono (by decide)) (by rfl) (pa_cons (pv 11) pa_nil))) (pa_cons (pv 12) pa_nil)))))) (pss_one (ps_ret pe_bl)) pss_nil)
      (pss_cons (ps_if (PW.pt (pw_or (pt_not (pt_val (pe_callG hG D_law_is_told_right (hr.mono (by decide)) (by rfl) (pa_cons pe_int (pa_cons (pe_ix (r := rIxT K) ix_tup (pv 10) pe_int (fun _ _ => rfl)) (pa_cons (pe_ix (r := rIxT K) ix_tup (pv 10) pe_int (fun _ _ => rfl)) pa_nil)))))) (pw_or1 (pt_not (pt_val (pe_callG hG D_law_is_told_right (hr.mono (by decide)) (by rfl) (pa_cons pe_int (pa_cons (pe_ix (r := rIxT K) ix_tup (pv 9) pe_int (fun _ _ => rfl)) (pa_cons (pv 5) pa_nil))))))))) (pss_one (ps_ret pe_bl)) pss_nil)
      (pss_one (ps_ret (pe_and (pe_callG hG D_law_is_told_right (hr.mono (by decide)) (by rfl) (pa_cons pe_int (pa_cons (pv 5) (pa_cons (pv 3) pa_nil)))) (pe_one (pe_callG hG D_law_is_judged (hr.mono (by decide)) (by rfl) (pa_cons pe_int (pa_cons (pv 5) (pa_cons (pe_ix (r := rIxT K) ix_tup (pv 10) pe_int (fun _ _ => rfl)) (pa_cons (pe_tup (pa_cons pe_str (pa_cons (pe_tup (pa_cons (pe_tup pa_nil) (pa_cons (pe_tup pa_nil) pa_nil))) pa_nil))) pa_nil)))))))))))))))))))))), ?_⟩
  rintro B Q a ns rfl hl q
  show Ho B _ [bagv a, none, none, none, none, none, none, none, none, none, none, none, none] [.seq a (ns.map PyData.int)]
  refine x_seq (x_setOwn (k := 0) (ex_v rfl) rfl hl fun pb pc b hpb hpc => ?_)
  refine x_sq (x_setV (w_add (wv_of ex_cI (w_drw (pb := pb) (pc := pc) rfl ex_cI (fun b' => .z) (by decide) fun k0 b1 h0 h1 => ?_))) (fun _ => .s (.s (.z))))
  have hk : 1 ≤ 1 + k0 ∧ 1 + k0 ≤ 4 := by omega
  generalize 1 + k0 = k at *
  have up : ∀ {v : Way} {n c : Nat}, GW k n c v → n ≤ 8 → c ≤ 2 ^ 20 → GW 4 8 (2 ^ 20) v := fun h hn hc => (h.lift hk.2).mono hn hc
  refine x_sq (x_setV (e := wayD) (w_own (pb := pb) (pc := pc) rfl (ex_v rfl) ex_cI (fun b' => .z) hk (by decide) fun near b2 hnear => ?_) (fun _ => .s (.s (.s (.z)))))
  have hnear : GW k 8 100 near := hnear
  have hnl := hnear.1
  refine x_sq (x_parW (wa_v (e := wayD) (w_callG (pb := pb) (pc := pc) (wa_x (ex_v rfl) (wa_x (ex_v rfl) (wa_x (ex_v rfl) (wa_x ex_cI (wa_nil ⟨(k, near, 8), _, _, rfl, fun b' => .z, ⟨hk, by show (8 : Int) ≤ 100; decide, hnear.mono (by decide) (Nat.le_refl _)⟩, fun alike b3 halike => wa_x (ex_reduced (v := near) (ex_v rfl) (by omega)) (wa_nil ⟨_, _, rfl, ?_⟩)⟩))))))))
  have ha1 := halike.1
  clear halike
  have halike : GW k 8 100 alike := ha1.len (by have := ha1.1; dsimp only at this; have e : (8 : Int).toNat = 8 := rfl; omega)
  clear ha1
  have hgreat : GW k 8 (8 * 100) (redW near) := hnear.red
  have ex5 : EX B (tCall (S_law_left B.K) [] E0 (tCons (tVar 3) tNil)) [bagv a, bagv pb, iv k, wv near, wv alike, wv (redW near), none, none, none, none, none, none, none] [b3.at pb pc, .seq a (ns.map PyData.int)] (.d (wayD (redW near))) [b3.at pb pc, .seq a (ns.map PyData.int)] := ex_left (ex_v rfl) (by omega)
  generalize redW near = great at *
  have gnear := up hnear (Nat.le_refl _) (by decide)
  have galike := up halike (Nat.le_refl _) (by decide)
  have ggreat := up hgreat (Nat.le_refl _) (by decide)
  have sg : Fz.SameOk (wayD great) := (ggreat.nice (by decide)).same (by decide) (by decide)
  refine x_sq (x_skipW (wt_orF (wt_of (et_noT (ex_sameT (ex_v rfl) ex5 sg)) ⟨rfl, wt_noT (w_callG (pb := pb) (pc := pc) (wa_x (ex_v rfl) (wa_x (ex_v rfl) (wa_x (ex_v rfl) (wa_nil ⟨(k, alike), _, _, rfl, fun b' => .z, ⟨hk, (halike.lift hk.2).mono (Nat.le_refl _) (by decide), halike.lb⟩, fun x b4 hx => ⟨hx, rfl, ?_⟩⟩)))))⟩)))
  refine x_sq (x_parW (wa_v (e := PyData.int) (w_add (wv_of ex_cI (w_drw (pb := pb) (pc := pc) rfl ex_cI (fun b' => .z) (by decide) fun s0 b5 h2 h3 => wa_v (e := PyData.int) (w_add (wv_of ex_cI (w_drw (pb := pb) (pc := pc) rfl ex_cI (fun b' => .z) (by decide) fun v0 b6 h4 h5 => wa_nil ⟨_, _, rfl, ?_⟩))))))))
  have hs : 1 ≤ 1 + s0 ∧ 1 + s0 ≤ 12 := by omega
  have hv : 2 ≤ 2 + v0 ∧ 2 + v0 ≤ 4 := by omega
  generalize 1 + s0 = stride at *
  generalize 2 + v0 = several at *
  have gflat : GW 4 8 (2 ^ 17) (List.replicate 8 (several - 1, stride)) := ⟨by rw [List.length_replicate]; exact Nat.le_refl _, fun x hx => by
    rw [(List.mem_replicate.mp hx).2]
    exact ⟨by show 0 ≤ several - 1; omega, by show several - 1 < 4; omega, by show stride.natAbs ≤ 2 ^ 17; omega, by show stride ≠ 0; omega⟩⟩
  have gone : GW 4 8 (2 ^ 20) [(several - 1, 8 * stride)] := ⟨by show 1 ≤ 8; decide, fun x hx => by
    rw [List.mem_singleton.mp hx]
    exact ⟨by show 0 ≤ several - 1; omega, by show several - 1 < 4; omega, by show (8 * stride).natAbs ≤ 2 ^ 20; omega, by show 8 * stride ≠ 0; omega⟩⟩
  have gflat20 : GW 4 8 (2 ^ 20) (List.replicate 8 (several - 1, stride)) := gflat.mono (Nat.le_refl _) (by decide)
  refine x_sq (x_set (a := .d (wayD (List.replicate 8 (several - 1, stride)))) (ex_is (ex_rep1 (ds := [stD (several - 1, stride)]) (n := 8) (t1 (t2 (a := .int (several - 1)) (b := .int stride) (ex_sub (ex_v rfl) ex_cI) (ex_v rfl))) ex_cI (List.cons_ne_nil _ _) (by show 1 ≤ 1000; decide) (by decide)) rfl) ?_)
  generalize List.replicate 8 (several - 1, stride) = flat at *
  have exone : ∀ {L : Own}, EX B (tTup (tCons (tTup (tCons (tOp (rI0 fun i j => .int (i - j)) (tVar 7) (tC (.int 1))) (tCons (tOp (rI CMulW fun i j => .int (i * j)) (tC (.int 8)) (tVar 6)) tNil))) tNil)) [bagv a, bagv pb, iv k, wv near, wv alike, wv great, iv stride, iv several, wv flat, none, none, none, none] L (.d (wayD [(several - 1, 8 * stride)])) L := t1 (t2 (a := .int (several - 1)) (b := .int (8 * stride)) (ex_sub (ex_v rfl) ex_cI) (ex_mul ex_cI (ex_v rfl) (cmul (a := 10) (b := 10) (by unfold Bd; decide) (by unfold Bd; omega) (by decide))))
  refine x_sq (x_skipW (wt_orF (wt_of (et_noT (ex_toldR ex_cI (ex_v rfl) exone ⟨⟨gflat20, gone⟩, gflat20.lb, gone.lb⟩)) ⟨rfl, wt_noT (w_callG (pb := pb) (pc := pc) (wa_x (ex_v rfl) (wa_x ex_cI (wa_x (ex_v rfl) (wa_nil ⟨(4, flat), _, _, rfl, fun b' => .z, ⟨by show (1 : Int) ≤ 4 ∧ (4 : Int) ≤ 4; decide, gflat, gflat.lb⟩, fun x b7 hx => ⟨hx, rfl, ?_⟩⟩)))))⟩)))
  refine x_sq (x_parW (wa_v (e := pairD) (w_callG (pb := pb) (pc := pc) (wa_x (ex_v rfl) (wa_x (ex_v rfl) (wa_nil ⟨several, _, _, rfl, fun b' => .z, ⟨by omega, hv.2⟩, fun wide b8 hwide => wa_v (e := pairD) (w_callG (pb := pb) (pc := pc) (wa_x (ex_v rfl) (wa_nil ⟨(), _, _, rfl, fun b' => .z, trivial, fun last b9 hlast => wa_nil ⟨_, _, rfl, ?_⟩⟩)))⟩))))))
  obtain ⟨w0, w1⟩ := wide
  obtain ⟨t0', t1'⟩ := last
  have hw0 : GW several 8 (2 ^ 20) w0 := hwide.1
  have hw1 : GW several 8 (2 ^ 20) w1 := hwide.2
  have gw0 := hw0.lift hv.2
  have gw1 := hw1.lift hv.2
  have gl0 : GW 4 8 (2 ^ 20) t0' := hlast.1
  have gl1 : GW 4 8 (2 ^ 20) t1' := hlast.2
  refine x_sq (x_skipW (wt_orF (wt_noT (w_callG (pb := pb) (pc := pc) (wa_x (ex_v rfl) (wa_x (ex_v rfl) (wa_x (ex_v rfl) (wa_x (ex_v rfl) (wa_nil ⟨(k, near, alike), _, _, rfl, fun b' => .z, ⟨hk, ⟨gnear, galike⟩, hnear.lb, halike.lb⟩, fun x b10 hx => ⟨hx, rfl, ?_⟩⟩)))))))))
  refine wt_noT (w_callG (pb := pb) (pc := pc) (wa_x (ex_v rfl) (wa_x (ex_v rfl) (wa_x (ex_ixT (ds := [wayD w0, wayD w1]) (ex_v rfl) ex_cI rfl) (wa_x (ex_ixT (ds := [wayD w0, wayD w1]) (ex_v rfl) ex_cI rfl) (wa_nil ⟨(several, w0, w1), _, _, rfl, fun b' => .z, ⟨⟨by omega, hv.2⟩, ⟨gw0, gw1⟩, hw0.lb, hw1.lb⟩, fun x b11 hx => ⟨hx, rfl, ?_⟩⟩))))))
  refine x_sq (x_parW (wa_v (e := wayD) (w_own (pb := pb) (pc := pc) rfl ex_cI ex_cI (fun b' => .z) (by decide) (by decide) fun half b12 hhalf => wa_v (e := wayD) (w_own (pb := pb) (pc := pc) rfl ex_cI ex_cI (fun b' => .z) (by decide) (by decide) fun ahead b13 hahead => wa_nil ⟨_, _, rfl, ?_⟩))))
  have hhalf : GW 4 3 100 half := hhalf
  have hahead : GW 4 2 100 ahead := hahead
  have hhl := hhalf.1
  have hal := hahead.1
  have hbl := back_len half
  have gaa : GW 4 8 (2 ^ 20) (ahead ++ half ++ backW half) := ((hahead.app hhalf).app hhalf.back).mono (by decide) (by decide)
  have gah : GW 4 8 (2 ^ 20) ahead := hahead.mono (by decide) (by decide)
  refine x_sq (x_skip (et_noT (ex_toldR ex_cI (ex_catW (ex_catW (ex_v rfl) (ex_v rfl) (by omega)) (ex_back (ex_v rfl) (by omega)) (by rw [List.length_append]; omega)) (ex_v rfl) ⟨⟨gaa, gah⟩, gaa.lb, gah.lb⟩)) ?_)
  refine x_sq (x_skip (et_orF (et_noT (ex_toldR ex_cI (ex_ixT (ds := [wayD t0', wayD t1']) (ex_v rfl) ex_cI rfl) (ex_ixT (ds := [wayD t0', wayD t1']) (ex_v rfl) ex_cI rfl) ⟨⟨gl0, gl1⟩, gl0.lb, gl1.lb⟩)) (et_noT (ex_toldR ex_cI (ex_ixT (ds := [wayD w0, wayD w1]) (ex_v rfl) ex_cI rfl) (ex_v rfl) ⟨⟨gw0, ggreat⟩, gw0.lb, ggreat.lb⟩))) ?_)
  have nt : Nice 3 200 (.tuple []) := nice_tup niceL_nil
  exact nxt (x_retS q (wv_of (x := true) (ex_andV (b := true) (c := true) (ex_toldR ex_cI (ex_v rfl) (ex_v rfl) ⟨⟨ggreat, gnear⟩, ggreat.lb, gnear.lb⟩) (fun _ => ex_judged ex_cI (ex_v rfl) (ex_ixT (ds := [wayD t0', wayD t1']) (ex_v rfl) ex_cI rfl) (t2 ex_cS (t2 t0 t0)) ⟨⟨ggreat, gl0⟩, told_jok (pn nt nt)⟩) (fun h => nomatch h)) rfl))
theorem okd_law (Fn : Fun K "law" "law" s_law f fd) (T : Bt P mg base) (D_law_asks : GDf P w K mg base 49 "_law_asks" ["script"] (S_law_asks K)) : GOk P w K mg base 50 f fd ["script"] (S_law K) := by
  refine g_S Fn sc_law (by decide) fun cdv A outer s H hr hG => ⟨_, (pss_one (ps_try_thru0 (pss_one (ps_ret (pe_callG hG D_law_asks (hr.mono (by decide)) (by rfl) (pa_cons (pv 0) pa_nil)))))), ?_⟩
  rintro B Q a ns rfl hl q
  exact x_retLaw q rfl .z hl
end K88

/-! ## Fin88 -/
set_option Elab.async false
set_option linter.all false
set_option maxRecDepth 100000
set_option maxHeartbeats 4000000
set_option autoImplicit false
namespace K88
open PySem L2 Fz
theorem kb1 {K : PySem.W.Frag} {fd : FuncData} {ps ks : List Str} {idx : List Nat} (hp : ps.length = 1) (h : ∀ a : Value, bindArgs fd ⟨[], ks.zip [a]⟩ = pure (ps.zip (kwG 1 idx [] [a]))) : KBinds K fd ps ks (kwG 1 idx) (kwG 1 idx) :=
  ⟨fun s us ws _ hl => by
    obtain ⟨rfl, hw⟩ := kwG_shape (m := 0) (hl.trans hp)
    match ws, hw with
    | [a], _ => exact .of_eq (h a), fun r q => kwG_vals r q⟩
theorem kb4 {K : PySem.W.Frag} {fd : FuncData} {ps ks : List Str} {idx : List Nat} (hp : ps.length = 4) (h : ∀ a b c d : Value, bindArgs fd ⟨[], ks.zip [a, b, c, d]⟩ = pure (ps.zip (kwG 4 idx [] [a, b, c, d]))) : KBinds K fd ps ks (kwG 4 idx) (kwG 4 idx) :=
  ⟨fun s us ws _ hl => by
    obtain ⟨rfl, hw⟩ := kwG_shape (m := 3) (hl.trans hp)
    match ws, hw with
    | [a, b, c, d], _ => exact .of_eq (h a b c d), fun r q => kwG_vals r q⟩
theorem all_mk {l : PySem.W.OpenLaw} {w : World} {K : PySem.W.Frag} {h : Heap} {mg : Str → Option Value} {fa : Addr} (X : K.In h) (G : h.Ns mainGlobals mg) (hfa : mg "law" = some (.ref fa)) (ht : l.prog.given.tree = none)
    {f0 f1 f2 f3 f4 f5 f6 f7 f8 f9 f10 f11 f12 f13 f14 f15 f16 f17 f18 f19 f20 f21 f22 f23 f24 f25 f26 f27 f28 f29 f30 f31 f32 f33 f34 f35 f36 f37 f38 f39 f40 f41 f42 f43 f44 f45 f46 f47 f48 f49 f50 f51 f52 : Addr} {od0 an0 od1 an1 od2 an2 od3 an3 od4 an4 od5 an5 od6 an6 od7 an7 od8 an8 od9 an9 od10 an10 od11 an11 od12 an12 od13 an13 od14 an14 od15 an15 od16 an16 od17 an17 od18 an18 od19 an19 od20 an20 od21 an21 od22 an22 od23 an23 od24 an24 od25 an25 od26 an26 od27 an27 od28 an28 od29 an29 od30 an30 od31 an31 od32 an32 od33 an33 od34 an34 od35 an35 od36 an36 od37 an37 od38 an38 od39 an39 od40 an40 od41 an41 od42 an42 od43 an43 od44 an44 od45 an45 od46 an46 od47 an47 od48 an48 od49 an49 od50 an50 od51 an51 od52 an52 : Option Addr} {sl0 sl1 sl2 sl3 sl4 sl5 sl6 sl7 sl8 sl9 sl10 sl11 sl12 sl13 sl14 sl15 sl16 sl17 sl18 sl19 sl20 sl21 sl22 sl23 sl24 sl25 sl26 sl27 sl28 sl29 sl30 sl31 sl32 sl33 sl34 sl35 sl36 sl37 sl38 sl39 sl40 sl41 sl42 sl43 sl44 sl45 sl46 sl47 sl48 sl49 sl50 sl51 sl52 : Array (Option Value)}
    {oc0 kV0 dc0 pm0 cd0 ct0 oc1 kV1 dc1 pm1 cd1 ct1 oc2 kV2 dc2 pm2 cd2 ct2 oc3 kV3 dc3 pm3 cd3 ct3 oc4 kV4 dc4 pm4 cd4 ct4 oc5 kV5 dc5 pm5 cd5 ct5 oc6 kV6 dc6 pm6 cd6 ct6 oc7 kV7 dc7 pm7 cd7 ct7 oc8 kV8 dc8 pm8 cd8 ct8 oc9 kV9 dc9 pm9 cd9 ct9 oc10 kV10 dc10 pm10 cd10 ct10 oc11 kV11 dc11 pm11 cd11 ct11 oc12 kV12 dc12 pm12 cd12 ct12 oc13 kV13 dc13 pm13 cd13 ct13 oc14 kV14 dc14 pm14 cd14 ct14 oc15 kV15 dc15 pm15 cd15 ct15 oc16 kV16 dc16 pm16 cd16 ct16 oc17 kV17 dc17 pm17 cd17 ct17 oc18 kV18 dc18 pm18 cd18 ct18 oc19 kV19 dc19 pm19 cd19 ct19 oc20 kV20 dc20 pm20 cd20 ct20 oc21 kV21 dc21 pm21 cd21 ct21 oc22 kV22 dc22 pm22 cd22 ct22 oc23 kV23 dc23 pm23 cd23 ct23 oc24 kV24 dc24 pm24 cd24 ct24 oc25 kV25 dc25 pm25 cd25 ct25 oc26 kV26 dc26 pm26 cd26 ct26 oc27 kV27 dc27 pm27 cd27 ct27 oc28 kV28 dc28 pm28 cd28 ct28 oc29 kV29 dc29 pm29 cd29 ct29 oc30 kV30 dc30 pm30 cd30 ct30 oc31 kV31 dc31 pm31 cd31 ct31 oc32 kV32 dc32 pm32 cd32 ct32 oc33 kV33 dc33 pm33 cd33 ct33 oc34 kV34 dc34 pm34 cd34 ct34 oc35 kV35 dc35 pm35 cd35 ct35 oc36 kV36 dc36 pm36 cd36 ct36 oc37 kV37 dc37 pm37 cd37 ct37 oc38 kV38 dc38 pm38 cd38 ct38 oc39 kV39 dc39 pm39 cd39 ct39 oc40 kV40 dc40 pm40 cd40 ct40 oc41 kV41 dc41 pm41 cd41 ct41 oc42 kV42 dc42 pm42 cd42 ct42 oc43 kV43 dc43 pm43 cd43 ct43 oc44 kV44 dc44 pm44 cd44 ct44 oc45 kV45 dc45 pm45 cd45 ct45 oc46 kV46 dc46 pm46 cd46 ct46 oc47 kV47 dc47 pm47 cd47 ct47 oc48 kV48 dc48 pm48 cd48 ct48 oc49 kV49 dc49 pm49 cd49 ct49 oc50 kV50 dc50 pm50 cd50 ct50 oc51 kV51 dc51 pm51 cd51 ct51 oc52 kV52 dc52 pm52 cd52 ct52 : Value} {t0 t1 : Tok}
    (a0 : PySem.W.nsIn K mainGlobals "turned_way" = some (some (.ref f0))) (l0 : K.lookup f0 = some ⟨oc0, od0, .func (PySem.W.fnOf "turned_way" "turned_way" (defArgs s_turned_way) (defBody s_turned_way) (defScope s_turned_way) .none kV0 dc0 pm0 an0 cd0 ct0), sl0⟩) (c0 : PySem.W.codeIn K cd0 "turned_way" = true) (k0 : PySem.W.keepIn K (.ref f0) = true)
    (a1 : PySem.W.nsIn K mainGlobals "reduced_way" = some (some (.ref f1))) (l1 : K.lookup f1 = some ⟨oc1, od1, .func (PySem.W.fnOf "reduced_way" "reduced_way" (defArgs s_reduced_way) (defBody s_reduced_way) (defScope s_reduced_way) .none kV1 dc1 pm1 an1 cd1 ct1), sl1⟩) (c1 : PySem.W.codeIn K cd1 "reduced_way" = true) (k1 : PySem.W.keepIn K (.ref f1) = true)
    (a2 : PySem.W.nsIn K mainGlobals "are_same_ways" = some (some (.ref f2))) (l2 : K.lookup f2 = some ⟨oc2, od2, .func (PySem.W.fnOf "are_same_ways" "are_same_ways" (defArgs s_are_same_ways) (defBody s_are_same_ways) (defScope s_are_same_ways) .none kV2 dc2 pm2 an2 cd2 ct2), sl2⟩) (c2 : PySem.W.codeIn K cd2 "are_same_ways" = true) (k2 : PySem.W.keepIn K (.ref f2) = true)
    (a3 : PySem.W.nsIn K mainGlobals "is_integer" = some (some (.ref f3))) (l3 : K.lookup f3 = some ⟨oc3, od3, .func (PySem.W.fnOf "is_integer" "is_integer" (defArgs s_is_integer) (defBody s_is_integer) (defScope s_is_integer) .none kV3 dc3 pm3 an3 cd3 ct3), sl3⟩) (c3 : PySem.W.codeIn K cd3 "is_integer" = true) (k3 : PySem.W.keepIn K (.ref f3) = true)
    (a4 : PySem.W.nsIn K mainGlobals "is_within" = some (some (.ref f4))) (l4 : K.lookup f4 = some ⟨oc4, od4, .func (PySem.W.fnOf "is_within" "is_within" (defArgs s_is_within) (defBody s_is_within) (defScope s_is_within) .none kV4 dc4 pm4 an4 cd4 ct4), sl4⟩) (c4 : PySem.W.codeIn K cd4 "is_within" = true) (k4 : PySem.W.keepIn K (.ref f4) = true)
    (a5 : PySem.W.nsIn K mainGlobals "common_measure" = some (some (.ref f5))) (l5 : K.lookup f5 = some ⟨oc5, od5, .func (PySem.W.fnOf "common_measure" "common_measure" (defArgs s_common_measure) (defBody s_common_measure) (defScope s_common_measure) .none kV5 dc5 pm5 an5 cd5 ct5), sl5⟩) (c5 : PySem.W.codeIn K cd5 "common_measure" = true) (k5 : PySem.W.keepIn K (.ref f5) = true)
    (a6 : PySem.W.nsIn K mainGlobals "fraction_of" = some (some (.ref f6))) (l6 : K.lookup f6 = some ⟨oc6, od6, .func (PySem.W.fnOf "fraction_of" "fraction_of" (defArgs s_fraction_of) (defBody s_fraction_of) (defScope s_fraction_of) .none kV6 dc6 pm6 an6 cd6 ct6), sl6⟩) (c6 : PySem.W.codeIn K cd6 "fraction_of" = true) (k6 : PySem.W.keepIn K (.ref f6) = true)
    (a7 : PySem.W.nsIn K mainGlobals "fraction_plus" = some (some (.ref f7))) (l7 : K.lookup f7 = some ⟨oc7, od7, .func (PySem.W.fnOf "fraction_plus" "fraction_plus" (defArgs s_fraction_plus) (defBody s_fraction_plus) (defScope s_fraction_plus) .none kV7 dc7 pm7 an7 cd7 ct7), sl7⟩) (c7 : PySem.W.codeIn K cd7 "fraction_plus" = true) (k7 : PySem.W.keepIn K (.ref f7) = true)
    (a8 : PySem.W.nsIn K mainGlobals "fraction_times" = some (some (.ref f8))) (l8 : K.lookup f8 = some ⟨oc8, od8, .func (PySem.W.fnOf "fraction_times" "fraction_times" (defArgs s_fraction_times) (defBody s_fraction_times) (defScope s_fraction_times) .none kV8 dc8 pm8 an8 cd8 ct8), sl8⟩) (c8 : PySem.W.codeIn K cd8 "fraction_times" = true) (k8 : PySem.W.keepIn K (.ref f8) = true)
    (a9 : PySem.W.nsIn K mainGlobals "stride_shares" = some (some (.ref f9))) (l9 : K.lookup f9 = some ⟨oc9, od9, .func (PySem.W.fnOf "stride_shares" "stride_shares" (defArgs s_stride_shares) (defBody s_stride_shares) (defScope s_stride_shares) .none kV9 dc9 pm9 an9 cd9 ct9), sl9⟩) (c9 : PySem.W.codeIn K cd9 "stride_shares" = true) (k9 : PySem.W.keepIn K (.ref f9) = true)
    (a10 : PySem.W.nsIn K mainGlobals "way_sum" = some (some (.ref f10))) (l10 : K.lookup f10 = some ⟨oc10, od10, .func (PySem.W.fnOf "way_sum" "way_sum" (defArgs s_way_sum) (defBody s_way_sum) (defScope s_way_sum) .none kV10 dc10 pm10 an10 cd10 ct10), sl10⟩) (c10 : PySem.W.codeIn K cd10 "way_sum" = true) (k10 : PySem.W.keepIn K (.ref f10) = true)
    (a11 : PySem.W.nsIn K mainGlobals "word_error" = some (some (.ref f11))) (l11 : K.lookup f11 = some ⟨oc11, od11, .func (PySem.W.fnOf "word_error" "word_error" (defArgs s_word_error) (defBody s_word_error) (defScope s_word_error) .none kV11 dc11 pm11 an11 cd11 ct11), sl11⟩) (c11 : PySem.W.codeIn K cd11 "word_error" = true) (k11 : PySem.W.keepIn K (.ref f11) = true)
    (a12 : PySem.W.nsIn K mainGlobals "apart_ways_word" = some (some (.ref f12))) (l12 : K.lookup f12 = some ⟨oc12, od12, .func (PySem.W.fnOf "apart_ways_word" "apart_ways_word" (defArgs s_apart_ways_word) (defBody s_apart_ways_word) (defScope s_apart_ways_word) .none kV12 dc12 pm12 an12 cd12 ct12), sl12⟩) (c12 : PySem.W.codeIn K cd12 "apart_ways_word" = true) (k12 : PySem.W.keepIn K (.ref f12) = true)
    (a13 : PySem.W.nsIn K mainGlobals "like_places" = some (some (.ref f13))) (l13 : K.lookup f13 = some ⟨oc13, od13, .func (PySem.W.fnOf "like_places" "like_places" (defArgs s_like_places) (defBody s_like_places) (defScope s_like_places) .none kV13 dc13 pm13 an13 cd13 ct13), sl13⟩) (c13 : PySem.W.codeIn K cd13 "like_places" = true) (k13 : PySem.W.keepIn K (.ref f13) = true)
    (a14 : PySem.W.nsIn K mainGlobals "put_together" = some (some (.ref f14))) (l14 : K.lookup f14 = some ⟨oc14, od14, .func (PySem.W.fnOf "put_together" "put_together" (defArgs s_put_together) (defBody s_put_together) (defScope s_put_together) .none kV14 dc14 pm14 an14 cd14 ct14), sl14⟩) (c14 : PySem.W.codeIn K cd14 "put_together" = true) (k14 : PySem.W.keepIn K (.ref f14) = true)
    (a15 : PySem.W.nsIn K mainGlobals "places_together" = some (some (.ref f15))) (l15 : K.lookup f15 = some ⟨oc15, od15, .func (PySem.W.fnOf "places_together" "places_together" (defArgs s_places_together) (defBody s_places_together) (defScope s_places_together) .none kV15 dc15 pm15 an15 cd15 ct15), sl15⟩) (c15 : PySem.W.codeIn K cd15 "places_together" = true) (k15 : PySem.W.keepIn K (.ref f15) = true)
    (a16 : PySem.W.nsIn K mainGlobals "ways_paper" = some (some (.ref f16))) (l16 : K.lookup f16 = some ⟨oc16, od16, .func (PySem.W.fnOf "ways_paper" "ways_paper" (defArgs s_ways_paper) (defBody s_ways_paper) (defScope s_ways_paper) .none kV16 dc16 pm16 an16 cd16 ct16), sl16⟩) (c16 : PySem.W.codeIn K cd16 "ways_paper" = true) (k16 : PySem.W.keepIn K (.ref f16) = true)
    (a17 : PySem.W.nsIn K mainGlobals "are_places" = some (some (.ref f17))) (l17 : K.lookup f17 = some ⟨oc17, od17, .func (PySem.W.fnOf "are_places" "are_places" (defArgs s_are_places) (defBody s_are_places) (defScope s_are_places) .none kV17 dc17 pm17 an17 cd17 ct17), sl17⟩) (c17 : PySem.W.codeIn K cd17 "are_places" = true) (k17 : PySem.W.keepIn K (.ref f17) = true)
    (a18 : PySem.W.nsIn K mainGlobals "same_fault" = some (some (.ref f18))) (l18 : K.lookup f18 = some ⟨oc18, od18, .func (PySem.W.fnOf "same_fault" "same_fault" (defArgs s_same_fault) (defBody s_same_fault) (defScope s_same_fault) .none kV18 dc18 pm18 an18 cd18 ct18), sl18⟩) (c18 : PySem.W.codeIn K cd18 "same_fault" = true) (k18 : PySem.W.keepIn K (.ref f18) = true)
    (a19 : PySem.W.nsIn K mainGlobals "ways_paper_error" = some (some (.ref f19))) (l19 : K.lookup f19 = some ⟨oc19, od19, .func (PySem.W.fnOf "ways_paper_error" "ways_paper_error" (defArgs s_ways_paper_error) (defBody s_ways_paper_error) (defScope s_ways_paper_error) .none kV19 dc19 pm19 an19 cd19 ct19), sl19⟩) (c19 : PySem.W.codeIn K cd19 "ways_paper_error" = true) (k19 : PySem.W.keepIn K (.ref f19) = true)
    (a20 : PySem.W.nsIn K mainGlobals "_law_bag" = some (some (.ref f20))) (l20 : K.lookup f20 = some ⟨oc20, od20, .func (PySem.W.fnOf "_law_bag" "_law_bag" (defArgs s_law_bag) (defBody s_law_bag) (defScope s_law_bag) .none kV20 dc20 pm20 an20 cd20 ct20), sl20⟩) (c20 : PySem.W.codeIn K cd20 "_law_bag" = true) (k20 : PySem.W.keepIn K (.ref f20) = true)
    (a21 : PySem.W.nsIn K mainGlobals "_law_draw" = some (some (.ref f21))) (l21 : K.lookup f21 = some ⟨oc21, od21, .func (PySem.W.fnOf "_law_draw" "_law_draw" (defArgs s_law_draw) (defBody s_law_draw) (defScope s_law_draw) .none kV21 dc21 pm21 an21 cd21 ct21), sl21⟩) (c21 : PySem.W.codeIn K cd21 "_law_draw" = true) (k21 : PySem.W.keepIn K (.ref f21) = true)
    (a22 : PySem.W.nsIn K mainGlobals "_law_pick" = some (some (.ref f22))) (l22 : K.lookup f22 = some ⟨oc22, od22, .func (PySem.W.fnOf "_law_pick" "_law_pick" (defArgs s_law_pick) (defBody s_law_pick) (defScope s_law_pick) .none kV22 dc22 pm22 an22 cd22 ct22), sl22⟩) (c22 : PySem.W.codeIn K cd22 "_law_pick" = true) (k22 : PySem.W.keepIn K (.ref f22) = true)
    (a23 : PySem.W.nsIn K mainGlobals "_law_same" = some (some (.ref f23))) (l23 : K.lookup f23 = some ⟨oc23, od23, .func (PySem.W.fnOf "_law_same" "_law_same" (defArgs s_law_same) (defBody s_law_same) (defScope s_law_same) .none kV23 dc23 pm23 an23 cd23 ct23), sl23⟩) (c23 : PySem.W.codeIn K cd23 "_law_same" = true) (k23 : PySem.W.keepIn K (.ref f23) = true)
    (a24 : PySem.W.nsIn K mainGlobals "_law_stride" = some (some (.ref f24))) (l24 : K.lookup f24 = some ⟨oc24, od24, .func (PySem.W.fnOf "_law_stride" "_law_stride" (defArgs s_law_stride) (defBody s_law_stride) (defScope s_law_stride) .none kV24 dc24 pm24 an24 cd24 ct24), sl24⟩) (c24 : PySem.W.codeIn K cd24 "_law_stride" = true) (k24 : PySem.W.keepIn K (.ref f24) = true)
    (a25 : PySem.W.nsIn K mainGlobals "_law_own_way" = some (some (.ref f25))) (l25 : K.lookup f25 = some ⟨oc25, od25, .func (PySem.W.fnOf "_law_own_way" "_law_own_way" (defArgs s_law_own_way) (defBody s_law_own_way) (defScope s_law_own_way) .none kV25 dc25 pm25 an25 cd25 ct25), sl25⟩) (c25 : PySem.W.codeIn K cd25 "_law_own_way" = true) (k25 : PySem.W.keepIn K (.ref f25) = true)
    (a26 : PySem.W.nsIn K mainGlobals "_law_places" = some (some (.ref f26))) (l26 : K.lookup f26 = some ⟨oc26, od26, .func (PySem.W.fnOf "_law_places" "_law_places" (defArgs s_law_places) (defBody s_law_places) (defScope s_law_places) .none kV26 dc26 pm26 an26 cd26 ct26), sl26⟩) (c26 : PySem.W.codeIn K cd26 "_law_places" = true) (k26 : PySem.W.keepIn K (.ref f26) = true)
    (a27 : PySem.W.nsIn K mainGlobals "_law_put" = some (some (.ref f27))) (l27 : K.lookup f27 = some ⟨oc27, od27, .func (PySem.W.fnOf "_law_put" "_law_put" (defArgs s_law_put) (defBody s_law_put) (defScope s_law_put) .none kV27 dc27 pm27 an27 cd27 ct27), sl27⟩) (c27 : PySem.W.codeIn K cd27 "_law_put" = true) (k27 : PySem.W.keepIn K (.ref f27) = true)
    (a28 : PySem.W.nsIn K mainGlobals "_law_paper_row" = some (some (.ref f28))) (l28 : K.lookup f28 = some ⟨oc28, od28, .func (PySem.W.fnOf "_law_paper_row" "_law_paper_row" (defArgs s_law_paper_row) (defBody s_law_paper_row) (defScope s_law_paper_row) .none kV28 dc28 pm28 an28 cd28 ct28), sl28⟩) (c28 : PySem.W.codeIn K cd28 "_law_paper_row" = true) (k28 : PySem.W.keepIn K (.ref f28) = true)
    (a29 : PySem.W.nsIn K mainGlobals "_law_longer" = some (some (.ref f29))) (l29 : K.lookup f29 = some ⟨oc29, od29, .func (PySem.W.fnOf "_law_longer" "_law_longer" (defArgs s_law_longer) (defBody s_law_longer) (defScope s_law_longer) .none kV29 dc29 pm29 an29 cd29 ct29), sl29⟩) (c29 : PySem.W.codeIn K cd29 "_law_longer" = true) (k29 : PySem.W.keepIn K (.ref f29) = true)
    (a30 : PySem.W.nsIn K mainGlobals "_law_otherwise" = some (some (.ref f30))) (l30 : K.lookup f30 = some ⟨oc30, od30, .func (PySem.W.fnOf "_law_otherwise" "_law_otherwise" (defArgs s_law_otherwise) (defBody s_law_otherwise) (defScope s_law_otherwise) .none kV30 dc30 pm30 an30 cd30 ct30), sl30⟩) (c30 : PySem.W.codeIn K cd30 "_law_otherwise" = true) (k30 : PySem.W.keepIn K (.ref f30) = true)
    (a31 : PySem.W.nsIn K mainGlobals "_law_least" = some (some (.ref f31))) (l31 : K.lookup f31 = some ⟨oc31, od31, .func (PySem.W.fnOf "_law_least" "_law_least" (defArgs s_law_least) (defBody s_law_least) (defScope s_law_least) .none kV31 dc31 pm31 an31 cd31 ct31), sl31⟩) (c31 : PySem.W.codeIn K cd31 "_law_least" = true) (k31 : PySem.W.keepIn K (.ref f31) = true)
    (a32 : PySem.W.nsIn K mainGlobals "_law_factorial" = some (some (.ref f32))) (l32 : K.lookup f32 = some ⟨oc32, od32, .func (PySem.W.fnOf "_law_factorial" "_law_factorial" (defArgs s_law_factorial) (defBody s_law_factorial) (defScope s_law_factorial) .none kV32 dc32 pm32 an32 cd32 ct32), sl32⟩) (c32 : PySem.W.codeIn K cd32 "_law_factorial" = true) (k32 : PySem.W.keepIn K (.ref f32) = true)
    (a33 : PySem.W.nsIn K mainGlobals "_law_row" = some (some (.ref f33))) (l33 : K.lookup f33 = some ⟨oc33, od33, .func (PySem.W.fnOf "_law_row" "_law_row" (defArgs s_law_row) (defBody s_law_row) (defScope s_law_row) .none kV33 dc33 pm33 an33 cd33 ct33), sl33⟩) (c33 : PySem.W.codeIn K cd33 "_law_row" = true) (k33 : PySem.W.keepIn K (.ref f33) = true)
    (a34 : PySem.W.nsIn K mainGlobals "_law_sum" = some (some (.ref f34))) (l34 : K.lookup f34 = some ⟨oc34, od34, .func (PySem.W.fnOf "_law_sum" "_law_sum" (defArgs s_law_sum) (defBody s_law_sum) (defScope s_law_sum) .none kV34 dc34 pm34 an34 cd34 ct34), sl34⟩) (c34 : PySem.W.codeIn K cd34 "_law_sum" = true) (k34 : PySem.W.keepIn K (.ref f34) = true)
    (a35 : PySem.W.nsIn K mainGlobals "_law_back" = some (some (.ref f35))) (l35 : K.lookup f35 = some ⟨oc35, od35, .func (PySem.W.fnOf "_law_back" "_law_back" (defArgs s_law_back) (defBody s_law_back) (defScope s_law_back) .none kV35 dc35 pm35 an35 cd35 ct35), sl35⟩) (c35 : PySem.W.codeIn K cd35 "_law_back" = true) (k35 : PySem.W.keepIn K (.ref f35) = true)
    (a36 : PySem.W.nsIn K mainGlobals "_law_left" = some (some (.ref f36))) (l36 : K.lookup f36 = some ⟨oc36, od36, .func (PySem.W.fnOf "_law_left" "_law_left" (defArgs s_law_left) (defBody s_law_left) (defScope s_law_left) .none kV36 dc36 pm36 an36 cd36 ct36), sl36⟩) (c36 : PySem.W.codeIn K cd36 "_law_left" = true) (k36 : PySem.W.keepIn K (.ref f36) = true)
    (a37 : PySem.W.nsIn K mainGlobals "_law_around" = some (some (.ref f37))) (l37 : K.lookup f37 = some ⟨oc37, od37, .func (PySem.W.fnOf "_law_around" "_law_around" (defArgs s_law_around) (defBody s_law_around) (defScope s_law_around) .none kV37 dc37 pm37 an37 cd37 ct37), sl37⟩) (c37 : PySem.W.codeIn K cd37 "_law_around" = true) (k37 : PySem.W.keepIn K (.ref f37) = true)
    (a38 : PySem.W.nsIn K mainGlobals "_law_deep_pair" = some (some (.ref f38))) (l38 : K.lookup f38 = some ⟨oc38, od38, .func (PySem.W.fnOf "_law_deep_pair" "_law_deep_pair" (defArgs s_law_deep_pair) (defBody s_law_deep_pair) (defScope s_law_deep_pair) .none kV38 dc38 pm38 an38 cd38 ct38), sl38⟩) (c38 : PySem.W.codeIn K cd38 "_law_deep_pair" = true) (k38 : PySem.W.keepIn K (.ref f38) = true)
    (a39 : PySem.W.nsIn K mainGlobals "_law_last_pair" = some (some (.ref f39))) (l39 : K.lookup f39 = some ⟨oc39, od39, .func (PySem.W.fnOf "_law_last_pair" "_law_last_pair" (defArgs s_law_last_pair) (defBody s_law_last_pair) (defScope s_law_last_pair) .none kV39 dc39 pm39 an39 cd39 ct39), sl39⟩) (c39 : PySem.W.codeIn K cd39 "_law_last_pair" = true) (k39 : PySem.W.keepIn K (.ref f39) = true)
    (a40 : PySem.W.nsIn K mainGlobals "_law_pair" = some (some (.ref f40))) (l40 : K.lookup f40 = some ⟨oc40, od40, .func (PySem.W.fnOf "_law_pair" "_law_pair" (defArgs s_law_pair) (defBody s_law_pair) (defScope s_law_pair) .none kV40 dc40 pm40 an40 cd40 ct40), sl40⟩) (c40 : PySem.W.codeIn K cd40 "_law_pair" = true) (k40 : PySem.W.keepIn K (.ref f40) = true)
    (a41 : PySem.W.nsIn K mainGlobals "_law_is_row" = some (some (.ref f41))) (l41 : K.lookup f41 = some ⟨oc41, od41, .func (PySem.W.fnOf "_law_is_row" "_law_is_row" (defArgs s_law_is_row) (defBody s_law_is_row) (defScope s_law_is_row) .none kV41 dc41 pm41 an41 cd41 ct41), sl41⟩) (c41 : PySem.W.codeIn K cd41 "_law_is_row" = true) (k41 : PySem.W.keepIn K (.ref f41) = true)
    (a42 : PySem.W.nsIn K mainGlobals "_law_due" = some (some (.ref f42))) (l42 : K.lookup f42 = some ⟨oc42, od42, .func (PySem.W.fnOf "_law_due" "_law_due" (defArgs s_law_due) (defBody s_law_due) (defScope s_law_due) .none kV42 dc42 pm42 an42 cd42 ct42), sl42⟩) (c42 : PySem.W.codeIn K cd42 "_law_due" = true) (k42 : PySem.W.keepIn K (.ref f42) = true)
    (a43 : PySem.W.nsIn K mainGlobals "_law_is_judged" = some (some (.ref f43))) (l43 : K.lookup f43 = some ⟨oc43, od43, .func (PySem.W.fnOf "_law_is_judged" "_law_is_judged" (defArgs s_law_is_judged) (defBody s_law_is_judged) (defScope s_law_is_judged) .none kV43 dc43 pm43 an43 cd43 ct43), sl43⟩) (c43 : PySem.W.codeIn K cd43 "_law_is_judged" = true) (k43 : PySem.W.keepIn K (.ref f43) = true)
    (a44 : PySem.W.nsIn K mainGlobals "_law_word" = some (some (.ref f44))) (l44 : K.lookup f44 = some ⟨oc44, od44, .func (PySem.W.fnOf "_law_word" "_law_word" (defArgs s_law_word) (defBody s_law_word) (defScope s_law_word) .none kV44 dc44 pm44 an44 cd44 ct44), sl44⟩) (c44 : PySem.W.codeIn K cd44 "_law_word" = true) (k44 : PySem.W.keepIn K (.ref f44) = true)
    (a45 : PySem.W.nsIn K mainGlobals "_law_is_told_right" = some (some (.ref f45))) (l45 : K.lookup f45 = some ⟨oc45, od45, .func (PySem.W.fnOf "_law_is_told_right" "_law_is_told_right" (defArgs s_law_is_told_right) (defBody s_law_is_told_right) (defScope s_law_is_told_right) .none kV45 dc45 pm45 an45 cd45 ct45), sl45⟩) (c45 : PySem.W.codeIn K cd45 "_law_is_told_right" = true) (k45 : PySem.W.keepIn K (.ref f45) = true)
    (a46 : PySem.W.nsIn K mainGlobals "_law_bent_rows" = some (some (.ref f46))) (l46 : K.lookup f46 = some ⟨oc46, od46, .func (PySem.W.fnOf "_law_bent_rows" "_law_bent_rows" (defArgs s_law_bent_rows) (defBody s_law_bent_rows) (defScope s_law_bent_rows) .none kV46 dc46 pm46 an46 cd46 ct46), sl46⟩) (c46 : PySem.W.codeIn K cd46 "_law_bent_rows" = true) (k46 : PySem.W.keepIn K (.ref f46) = true)
    (a47 : PySem.W.nsIn K mainGlobals "_law_other_values" = some (some (.ref f47))) (l47 : K.lookup f47 = some ⟨oc47, od47, .func (PySem.W.fnOf "_law_other_values" "_law_other_values" (defArgs s_law_other_values) (defBody s_law_other_values) (defScope s_law_other_values) .none kV47 dc47 pm47 an47 cd47 ct47), sl47⟩) (c47 : PySem.W.codeIn K cd47 "_law_other_values" = true) (k47 : PySem.W.keepIn K (.ref f47) = true)
    (a48 : PySem.W.nsIn K mainGlobals "_law_words" = some (some (.ref f48))) (l48 : K.lookup f48 = some ⟨oc48, od48, .func (PySem.W.fnOf "_law_words" "_law_words" (defArgs s_law_words) (defBody s_law_words) (defScope s_law_words) .none kV48 dc48 pm48 an48 cd48 ct48), sl48⟩) (c48 : PySem.W.codeIn K cd48 "_law_words" = true) (k48 : PySem.W.keepIn K (.ref f48) = true)
    (a49 : PySem.W.nsIn K mainGlobals "_law_is_pair_right" = some (some (.ref f49))) (l49 : K.lookup f49 = some ⟨oc49, od49, .func (PySem.W.fnOf "_law_is_pair_right" "_law_is_pair_right" (defArgs s_law_is_pair_right) (defBody s_law_is_pair_right) (defScope s_law_is_pair_right) .none kV49 dc49 pm49 an49 cd49 ct49), sl49⟩) (c49 : PySem.W.codeIn K cd49 "_law_is_pair_right" = true) (k49 : PySem.W.keepIn K (.ref f49) = true)
    (a50 : PySem.W.nsIn K mainGlobals "_law_are_between_right" = some (some (.ref f50))) (l50 : K.lookup f50 = some ⟨oc50, od50, .func (PySem.W.fnOf "_law_are_between_right" "_law_are_between_right" (defArgs s_law_are_between_right) (defBody s_law_are_between_right) (defScope s_law_are_between_right) .none kV50 dc50 pm50 an50 cd50 ct50), sl50⟩) (c50 : PySem.W.codeIn K cd50 "_law_are_between_right" = true) (k50 : PySem.W.keepIn K (.ref f50) = true)
    (a51 : PySem.W.nsIn K mainGlobals "_law_asks" = some (some (.ref f51))) (l51 : K.lookup f51 = some ⟨oc51, od51, .func (PySem.W.fnOf "_law_asks" "_law_asks" (defArgs s_law_asks) (defBody s_law_asks) (defScope s_law_asks) .none kV51 dc51 pm51 an51 cd51 ct51), sl51⟩) (c51 : PySem.W.codeIn K cd51 "_law_asks" = true) (k51 : PySem.W.keepIn K (.ref f51) = true)
    (a52 : PySem.W.nsIn K mainGlobals "law" = some (some (.ref f52))) (l52 : K.lookup f52 = some ⟨oc52, od52, .func (PySem.W.fnOf "law" "law" (defArgs s_law) (defBody s_law) (defScope s_law) .none kV52 dc52 pm52 an52 cd52 ct52), sl52⟩) (c52 : PySem.W.codeIn K cd52 "law" = true) (k52 : PySem.W.keepIn K (.ref f52) = true)
    (z0 : PySem.W.nsIn K mainGlobals "tuple" = some none)
    (z1 : PySem.W.nsIn K mainGlobals "isinstance" = some none)
    (z2 : PySem.W.nsIn K mainGlobals "int" = some none)
    (z3 : PySem.W.nsIn K mainGlobals "bool" = some none)
    (z4 : PySem.W.nsIn K mainGlobals "abs" = some none)
    (z5 : PySem.W.nsIn K mainGlobals "range" = some none)
    (z6 : PySem.W.nsIn K mainGlobals "enumerate" = some none)
    (z7 : PySem.W.nsIn K mainGlobals "list" = some none)
    (z8 : PySem.W.nsIn K mainGlobals "len" = some none)
    (z9 : PySem.W.nsIn K mainGlobals "all" = some none)
    (z10 : PySem.W.nsIn K mainGlobals "zip" = some none)
    (z11 : PySem.W.nsIn K mainGlobals "str" = some none)
    (z12 : PySem.W.nsIn K mainGlobals "reversed" = some none)
    (z13 : PySem.W.nsIn K mainGlobals "repr" = some none)
    (z14 : PySem.W.nsIn K mainGlobals "max" = some none)
    (z15 : PySem.W.nsIn K mainGlobals "min" = some none)
    (y0 : PySem.W.nsIn K mainGlobals "MAX_GREAT_SIZE" = some (some (.int 16 t0)))
    (y1 : PySem.W.nsIn K mainGlobals "MAX_WAY" = some (some (.int 8 t1)))
    : ∃ fd : FuncData, (∀ (s : Shared) (v : Value), BindsTo s fd ⟨[v], []⟩ [("script", v)]) ∧ ∀ base : Heap, K.In base → base.Ns mainGlobals mg → base.NoSeer → GOk l.prog w K mg base 50 fa fd ["script"] (spLaw K) := by
  have e := hfa.symm.trans (PySem.W.mg_of X G a52)
  cases e
  have F0 := fun_mk (st := s_turned_way) l0 c0 k0
  have F1 := fun_mk (st := s_reduced_way) l1 c1 k1
  have F2 := fun_mk (st := s_are_same_ways) l2 c2 k2
  have F3 := fun_mk (st := s_is_integer) l3 c3 k3
  have F4 := fun_mk (st := s_is_within) l4 c4 k4
  have F5 := fun_mk (st := s_common_measure) l5 c5 k5
  have F6 := fun_mk (st := s_fraction_of) l6 c6 k6
  have F7 := fun_mk (st := s_fraction_plus) l7 c7 k7
  have F8 := fun_mk (st := s_fraction_times) l8 c8 k8
  have F9 := fun_mk (st := s_stride_shares) l9 c9 k9
  have F10 := fun_mk (st := s_way_sum) l10 c10 k10
  have F11 := fun_mk (st := s_word_error) l11 c11 k11
  have F12 := fun_mk (st := s_apart_ways_word) l12 c12 k12
  have F13 := fun_mk (st := s_like_places) l13 c13 k13
  have F14 := fun_mk (st := s_put_together) l14 c14 k14
  have F15 := fun_mk (st := s_places_together) l15 c15 k15
  have F16 := fun_mk (st := s_ways_paper) l16 c16 k16
  have F17 := fun_mk (st := s_are_places) l17 c17 k17
  have F18 := fun_mk (st := s_same_fault) l18 c18 k18
  have F19 := fun_mk (st := s_ways_paper_error) l19 c19 k19
  have F20 := fun_mk (st := s_law_bag) l20 c20 k20
  have F21 := fun_mk (st := s_law_draw) l21 c21 k21
  have F22 := fun_mk (st := s_law_pick) l22 c22 k22
  have F23 := fun_mk (st := s_law_same) l23 c23 k23
  have F24 := fun_mk (st := s_law_stride) l24 c24 k24
  have F25 := fun_mk (st := s_law_own_way) l25 c25 k25
  have F26 := fun_mk (st := s_law_places) l26 c26 k26
  have F27 := fun_mk (st := s_law_put) l27 c27 k27
  have F28 := fun_mk (st := s_law_paper_row) l28 c28 k28
  have F29 := fun_mk (st := s_law_longer) l29 c29 k29
  have F30 := fun_mk (st := s_law_otherwise) l30 c30 k30
  have F31 := fun_mk (st := s_law_least) l31 c31 k31
  have F32 := fun_mk (st := s_law_factorial) l32 c32 k32
  have F33 := fun_mk (st := s_law_row) l33 c33 k33
  have F34 := fun_mk (st := s_law_sum) l34 c34 k34
  have F35 := fun_mk (st := s_law_back) l35 c35 k35
  have F36 := fun_mk (st := s_law_left) l36 c36 k36
  have F37 := fun_mk (st := s_law_around) l37 c37 k37
  have F38 := fun_mk (st := s_law_deep_pair) l38 c38 k38
  have F39 := fun_mk (st := s_law_last_pair) l39 c39 k39
  have F40 := fun_mk (st := s_law_pair) l40 c40 k40
  have F41 := fun_mk (st := s_law_is_row) l41 c41 k41
  have F42 := fun_mk (st := s_law_due) l42 c42 k42
  have F43 := fun_mk (st := s_law_is_judged) l43 c43 k43
  have F44 := fun_mk (st := s_law_word) l44 c44 k44
  have F45 := fun_mk (st := s_law_is_told_right) l45 c45 k45
  have F46 := fun_mk (st := s_law_bent_rows) l46 c46 k46
  have F47 := fun_mk (st := s_law_other_values) l47 c47 k47
  have F48 := fun_mk (st := s_law_words) l48 c48 k48
  have F49 := fun_mk (st := s_law_is_pair_right) l49 c49 k49
  have F50 := fun_mk (st := s_law_are_between_right) l50 c50 k50
  have F51 := fun_mk (st := s_law_asks) l51 c51 k51
  have F52 := fun_mk (st := s_law) l52 c52 k52
  have b0 := F0.binds (ps := ["way"]) fun _ _ _ _ _ _ us hl => match us, hl with | [_], _ => rfl
  have b1 := F1.binds (ps := ["way"]) fun _ _ _ _ _ _ us hl => match us, hl with | [_], _ => rfl
  have b2 := F2.binds (ps := ["one", "other"]) fun _ _ _ _ _ _ us hl => match us, hl with | [_, _], _ => rfl
  have b3 := F3.binds (ps := ["value"]) fun _ _ _ _ _ _ us hl => match us, hl with | [_], _ => rfl
  have b4 := F4.binds (ps := ["value", "low", "high"]) fun _ _ _ _ _ _ us hl => match us, hl with | [_, _, _], _ => rfl
  have b5 := F5.binds (ps := ["one", "other"]) fun _ _ _ _ _ _ us hl => match us, hl with | [_, _], _ => rfl
  have b6 := F6.binds (ps := ["top", "bottom"]) fun _ _ _ _ _ _ us hl => match us, hl with | [_, _], _ => rfl
  have b7 := F7.binds (ps := ["one", "other"]) fun _ _ _ _ _ _ us hl => match us, hl with | [_, _], _ => rfl
  have b8 := F8.binds (ps := ["one", "other"]) fun _ _ _ _ _ _ us hl => match us, hl with | [_, _], _ => rfl
  have b9 := F9.binds (ps := ["length", "many"]) fun _ _ _ _ _ _ us hl => match us, hl with | [_, _], _ => rfl
  have b10 := F10.binds (ps := ["way", "word"]) fun _ _ _ _ _ _ us hl => match us, hl with | [_, _], _ => rfl
  have b11 := F11.binds (ps := ["k", "value"]) fun _ _ _ _ _ _ us hl => match us, hl with | [_, _], _ => rfl
  have b12 := F12.binds (ps := ["one", "other"]) fun _ _ _ _ _ _ us hl => match us, hl with | [_, _], _ => rfl
  have b13 := F13.binds (ps := ["way"]) fun _ _ _ _ _ _ us hl => match us, hl with | [_], _ => rfl
  have b14 := F14.binds (ps := ["way", "place"]) fun _ _ _ _ _ _ us hl => match us, hl with | [_, _], _ => rfl
  have b15 := F15.binds (ps := ["way"]) fun _ _ _ _ _ _ us hl => match us, hl with | [_], _ => rfl
  have b16 := F16.binds (ps := ["one", "other"]) fun _ _ _ _ _ _ us hl => match us, hl with | [_, _], _ => rfl
  have b17 := F17.binds (ps := ["value"]) fun _ _ _ _ _ _ us hl => match us, hl with | [_], _ => rfl
  have b18 := F18.binds (ps := ["ways", "rows"]) fun _ _ _ _ _ _ us hl => match us, hl with | [_, _], _ => rfl
  have b19 := F19.binds (ps := ["k", "one", "other", "value"]) fun _ _ _ _ _ _ us hl => match us, hl with | [_, _, _, _], _ => rfl
  have b20 := F20.binds (ps := ["script"]) fun _ _ _ _ _ _ us hl => match us, hl with | [_], _ => rfl
  have b21 := F21.binds (ps := ["bag", "below"]) fun _ _ _ _ _ _ us hl => match us, hl with | [_, _], _ => rfl
  have b22 := F22.binds (ps := ["bag", "some"]) fun _ _ _ _ _ _ us hl => match us, hl with | [_, _], _ => rfl
  have b23 := F23.binds (ps := ["told", "due"]) fun _ _ _ _ _ _ us hl => match us, hl with | [_, _], _ => rfl
  have b24 := F24.binds (ps := ["bag"]) fun _ _ _ _ _ _ us hl => match us, hl with | [_], _ => rfl
  have b25 := F25.binds (ps := ["bag", "k", "most"]) fun _ _ _ _ _ _ us hl => match us, hl with | [_, _, _], _ => rfl
  have b26 := F26.binds (ps := ["way"]) fun _ _ _ _ _ _ us hl => match us, hl with | [_], _ => rfl
  have b27 := F27.binds (ps := ["way", "at"]) fun _ _ _ _ _ _ us hl => match us, hl with | [_, _], _ => rfl
  have b28 := F28.binds (ps := ["bag", "way"]) fun _ _ _ _ _ _ us hl => match us, hl with | [_, _], _ => rfl
  have b29 := F29.binds (ps := ["bag", "k", "way", "most"]) fun _ _ _ _ _ _ us hl => match us, hl with | [_, _, _, _], _ => rfl
  have b30 := F30.binds (ps := ["bag", "k", "way", "kind"]) fun _ _ _ _ _ _ us hl => match us, hl with | [_, _, _, _], _ => rfl
  have b31 := F31.binds (ps := ["upper", "lower"]) fun _ _ _ _ _ _ us hl => match us, hl with | [_, _], _ => rfl
  have b32 := F32.binds (ps := ["many"]) fun _ _ _ _ _ _ us hl => match us, hl with | [_], _ => rfl
  have b33 := F33.binds (ps := ["way", "word"]) fun _ _ _ _ _ _ us hl => match us, hl with | [_, _], _ => rfl
  have b34 := F34.binds (ps := ["way", "word"]) fun _ _ _ _ _ _ us hl => match us, hl with | [_, _], _ => rfl
  have b35 := F35.binds (ps := ["way"]) fun _ _ _ _ _ _ us hl => match us, hl with | [_], _ => rfl
  have b36 := F36.binds (ps := ["way"]) fun _ _ _ _ _ _ us hl => match us, hl with | [_], _ => rfl
  have b37 := F37.binds (ps := ["one", "other"]) fun _ _ _ _ _ _ us hl => match us, hl with | [_, _], _ => rfl
  have b38 := F38.binds (ps := ["bag", "k"]) fun _ _ _ _ _ _ us hl => match us, hl with | [_, _], _ => rfl
  have b39 := F39.binds (ps := ["bag"]) fun _ _ _ _ _ _ us hl => match us, hl with | [_], _ => rfl
  have b40 := F40.binds (ps := ["bag", "k"]) fun _ _ _ _ _ _ us hl => match us, hl with | [_, _], _ => rfl
  have b41 := F41.binds (ps := ["value", "below", "most"]) fun _ _ _ _ _ _ us hl => match us, hl with | [_, _, _], _ => rfl
  have b42 := F42.binds (ps := ["k", "one", "other", "value"]) fun _ _ _ _ _ _ us hl => match us, hl with | [_, _, _, _], _ => rfl
  have b43 := F43.binds (ps := ["k", "one", "other", "value"]) fun _ _ _ _ _ _ us hl => match us, hl with | [_, _, _, _], _ => rfl
  have b44 := F44.binds (ps := ["one", "other"]) fun _ _ _ _ _ _ us hl => match us, hl with | [_, _], _ => rfl
  have b45 := F45.binds (ps := ["k", "one", "other"]) fun _ _ _ _ _ _ us hl => match us, hl with | [_, _, _], _ => rfl
  have b46 := F46.binds (ps := ["bag", "rows"]) fun _ _ _ _ _ _ us hl => match us, hl with | [_, _], _ => rfl
  have b47 := F47.binds (ps := ["bag", "rows", "word"]) fun _ _ _ _ _ _ us hl => match us, hl with | [_, _, _], _ => rfl
  have b48 := F48.binds (ps := ["bag", "k", "one", "other", "word"]) fun _ _ _ _ _ _ us hl => match us, hl with | [_, _, _, _, _], _ => rfl
  have b49 := F49.binds (ps := ["bag", "k", "one", "other"]) fun _ _ _ _ _ _ us hl => match us, hl with | [_, _, _, _], _ => rfl
  have b50 := F50.binds (ps := ["bag", "k", "way"]) fun _ _ _ _ _ _ us hl => match us, hl with | [_, _, _], _ => rfl
  have b51 := F51.binds (ps := ["script"]) fun _ _ _ _ _ _ us hl => match us, hl with | [_], _ => rfl
  have b52 := F52.binds (ps := ["script"]) fun _ _ _ _ _ _ us hl => match us, hl with | [_], _ => rfl
  refine ⟨PySem.W.fnOf "law" "law" (defArgs s_law) (defBody s_law) (defScope s_law) .none kV52 dc52 pm52 an52 cd52 ct52, fun s v => .of_eq rfl, fun base _ _ hN => ?_⟩
  have T : Bt l.prog mg base := ⟨PySem.W.mg_none_of X G z0, PySem.W.mg_none_of X G z1, PySem.W.mg_none_of X G z2, PySem.W.mg_none_of X G z3, PySem.W.mg_none_of X G z4, PySem.W.mg_none_of X G z5, PySem.W.mg_none_of X G z6, PySem.W.mg_none_of X G z7, PySem.W.mg_none_of X G z8, PySem.W.mg_none_of X G z9, PySem.W.mg_none_of X G z10, PySem.W.mg_none_of X G z11, PySem.W.mg_none_of X G z12, PySem.W.mg_none_of X G z13, PySem.W.mg_none_of X G z14, PySem.W.mg_none_of X G z15, ⟨t0, PySem.W.mg_of X G y0⟩, ⟨t1, PySem.W.mg_of X G y1⟩, hN, ht⟩
  have Ookd_law_bag := okd_law_bag (w := w) F20 T 
  have D_law_bag := Df.mk' Ookd_law_bag (PySem.W.mg_of X G a20) k20 b20
  have Ook_law_draw := ok_law_draw (w := w) F21 T 
  have C_law_draw := Df.mk' Ook_law_draw (PySem.W.mg_of X G a21) k21 b21
  have Ookd_law_pick := okd_law_pick (w := w) F22 T C_law_draw
  have D_law_pick := Df.mk' Ookd_law_pick (PySem.W.mg_of X G a22) k22 b22
  have Ookd_law_draw := okd_law_draw (w := w) F21 T 
  have D_law_draw := Df.mk' Ookd_law_draw (PySem.W.mg_of X G a21) k21 b21
  have Ookd_law_stride := okd_law_stride (w := w) F24 T D_law_pick D_law_draw
  have D_law_stride := Df.mk' Ookd_law_stride (PySem.W.mg_of X G a24) k24 b24
  have Ookd_law_own_way := okd_law_own_way (w := w) F25 T D_law_pick D_law_draw D_law_stride
  have D_law_own_way := Df.mk' Ookd_law_own_way (PySem.W.mg_of X G a25) k25 b25
  have Ookd_law_longer := okd_law_longer (w := w) F29 T D_law_draw D_law_stride
  have D_law_longer := Df.mk' Ookd_law_longer (PySem.W.mg_of X G a29) k29 b29
  have Ookd_reduced_way := okd_reduced_way (w := w) F1 T 
  have D_reduced_way := Df.mk' Ookd_reduced_way (PySem.W.mg_of X G a1) k1 b1
  have Ookd_law_left := okd_law_left (w := w) F36 T 
  have D_law_left := Df.mk' Ookd_law_left (PySem.W.mg_of X G a36) k36 b36
  have Ookd_law_back := okd_law_back (w := w) F35 T 
  have D_law_back := Df.mk' Ookd_law_back (PySem.W.mg_of X G a35) k35 b35
  have Ookd_law_around := okd_law_around (w := w) F37 T D_law_left D_law_back
  have D_law_around := Df.mk' Ookd_law_around (PySem.W.mg_of X G a37) k37 b37
  have Ookd_law_deep_pair := okd_law_deep_pair (w := w) F38 T D_law_around D_law_draw D_law_left D_law_back D_law_pick
  have D_law_deep_pair := Df.mk' Ookd_law_deep_pair (PySem.W.mg_of X G a38) k38 b38
  have Ookd_law_otherwise := okd_law_otherwise (w := w) F30 T D_law_draw D_law_stride
  have D_law_otherwise := Df.mk' Ookd_law_otherwise (PySem.W.mg_of X G a30) k30 b30
  have Ookd_law_pair := okd_law_pair (w := w) F40 T D_law_deep_pair D_law_draw D_law_own_way D_law_otherwise D_law_longer
  have D_law_pair := Df.mk' Ookd_law_pair (PySem.W.mg_of X G a40) k40 b40
  have Ookd_law_last_pair := okd_law_last_pair (w := w) F39 T D_law_pick D_law_stride D_law_draw
  have D_law_last_pair := Df.mk' Ookd_law_last_pair (PySem.W.mg_of X G a39) k39 b39
  have Ook_reduced_way := ok_reduced_way (w := w) F1 T 
  have C_reduced_way := Df.mk' Ook_reduced_way (PySem.W.mg_of X G a1) k1 b1
  have Ookd_are_same_ways := okd_are_same_ways (w := w) F2 T C_reduced_way
  have D_are_same_ways := Df.mk' Ookd_are_same_ways (PySem.W.mg_of X G a2) k2 b2
  have Ook_common_measure := ok_common_measure (w := w) F5 T 
  have C_common_measure := Df.mk' Ook_common_measure (PySem.W.mg_of X G a5) k5 b5
  have Ook_fraction_of := ok_fraction_of (w := w) F6 T C_common_measure
  have C_fraction_of := Df.mk' Ook_fraction_of (PySem.W.mg_of X G a6) k6 b6
  have Ook_stride_shares := ok_stride_shares (w := w) F9 T C_fraction_of
  have C_stride_shares := Df.mk' Ook_stride_shares (PySem.W.mg_of X G a9) k9 b9
  have Ook_fraction_plus := ok_fraction_plus (w := w) F7 T C_fraction_of
  have C_fraction_plus := Df.mk' Ook_fraction_plus (PySem.W.mg_of X G a7) k7 b7
  have Ook_fraction_times := ok_fraction_times (w := w) F8 T C_fraction_of
  have C_fraction_times := Df.mk' Ook_fraction_times (PySem.W.mg_of X G a8) k8 b8
  have Ookd_way_sum := okd_way_sum (w := w) F10 T C_stride_shares C_fraction_plus C_fraction_times
  have D_way_sum := Df.mk' Ookd_way_sum (PySem.W.mg_of X G a10) k10 b10
  have Ookd_turned_way := okd_turned_way (w := w) F0 T 
  have D_turned_way := Df.mk' Ookd_turned_way (PySem.W.mg_of X G a0) k0 b0
  have Ookd_apart_ways_word := okd_apart_ways_word (w := w) F12 T D_are_same_ways D_way_sum D_reduced_way D_turned_way
  have D_apart_ways_word := Df.mk' Ookd_apart_ways_word (PySem.W.mg_of X G a12) k12 b12
  have Ookd_like_places := okd_like_places (w := w) F13 T 
  have D_like_places := Df.mk' Ookd_like_places (PySem.W.mg_of X G a13) k13 b13
  have Ookd_put_together := okd_put_together (w := w) F14 T 
  have D_put_together := Df.mk' Ookd_put_together (PySem.W.mg_of X G a14) k14 b14
  have Ookd_places_together := okd_places_together (w := w) F15 T D_like_places D_put_together
  have D_places_together := Df.mk' Ookd_places_together (PySem.W.mg_of X G a15) k15 b15
  have Ookd_ways_paper := okd_ways_paper (w := w) F16 T D_apart_ways_word D_places_together
  have D_ways_paper := Df.mk' Ookd_ways_paper (PySem.W.mg_of X G a16) k16 b16
  have DK_ways_paper_one_other : DfK l.prog w K mg base _ "ways_paper" ["one", "other"] ["one", "other"] (kwG 2 [0, 1]) (kwG 2 [0, 1]) _ := ⟨_, _, Ookd_ways_paper, PySem.W.mg_of X G a16, k16, kb2 rfl fun _ _ => rfl⟩
  have Ook_law_least := ok_law_least (w := w) F31 T 
  have C_law_least := Df.mk' Ook_law_least (PySem.W.mg_of X G a31) k31 b31
  have Ook_law_factorial := ok_law_factorial (w := w) F32 T 
  have C_law_factorial := Df.mk' Ook_law_factorial (PySem.W.mg_of X G a32) k32 b32
  have Ook_law_row := ok_law_row (w := w) F33 T 
  have C_law_row := Df.mk' Ook_law_row (PySem.W.mg_of X G a33) k33 b33
  have Ookd_law_sum := okd_law_sum (w := w) F34 T C_law_least C_law_factorial C_law_row
  have D_law_sum := Df.mk' Ookd_law_sum (PySem.W.mg_of X G a34) k34 b34
  have Ookd_law_is_row := okd_law_is_row (w := w) F41 T 
  have D_law_is_row := Df.mk' Ookd_law_is_row (PySem.W.mg_of X G a41) k41 b41
  have Ookd_law_put := okd_law_put (w := w) F27 T 
  have D_law_put := Df.mk' Ookd_law_put (PySem.W.mg_of X G a27) k27 b27
  have Ookd_law_places := okd_law_places (w := w) F26 T 
  have D_law_places := Df.mk' Ookd_law_places (PySem.W.mg_of X G a26) k26 b26
  have Ookd_law_due := okd_law_due (w := w) F42 T D_law_sum D_law_is_row D_law_put D_law_places
  have D_law_due := Df.mk' Ookd_law_due (PySem.W.mg_of X G a42) k42 b42
  have Ookd_law_same := okd_law_same (w := w) F23 T 
  have D_law_same := GDf.mk' Ookd_law_same (PySem.W.mg_of X G a23) k23 b23
  have Ookd_same_fault := okd_same_fault (w := w) F18 T D_put_together D_like_places
  have D_same_fault := Df.mk' Ookd_same_fault (PySem.W.mg_of X G a18) k18 b18
  have Ookd_is_integer := okd_is_integer (w := w) F3 T 
  have D_is_integer := Df.mk' Ookd_is_integer (PySem.W.mg_of X G a3) k3 b3
  have Ookd_is_within := okd_is_within (w := w) F4 T D_is_integer
  have D_is_within := Df.mk' Ookd_is_within (PySem.W.mg_of X G a4) k4 b4
  have Ookd_word_error := okd_word_error (w := w) F11 T D_is_within
  have D_word_error := Df.mk' Ookd_word_error (PySem.W.mg_of X G a11) k11 b11
  have Ookd_are_places := okd_are_places (w := w) F17 T D_is_within
  have D_are_places := Df.mk' Ookd_are_places (PySem.W.mg_of X G a17) k17 b17
  have Ookd_ways_paper_error := okd_ways_paper_error (w := w) F19 T D_way_sum D_same_fault D_word_error D_are_places
  have D_ways_paper_error := Df.mk' Ookd_ways_paper_error (PySem.W.mg_of X G a19) k19 b19
  have DK_ways_paper_error_k_one_other_value : DfK l.prog w K mg base _ "ways_paper_error" ["k", "one", "other", "value"] ["k", "one", "other", "value"] (kwG 4 [0, 1, 2, 3]) (kwG 4 [0, 1, 2, 3]) _ := ⟨_, _, Ookd_ways_paper_error, PySem.W.mg_of X G a19, k19, kb4 rfl fun _ _ _ _ => rfl⟩
  have Ookd_law_is_judged := okd_law_is_judged (w := w) F43 T D_law_due D_law_same D_ways_paper_error DK_ways_paper_error_k_one_other_value
  have D_law_is_judged := GDf.mk' Ookd_law_is_judged (PySem.W.mg_of X G a43) k43 b43
  have Ookd_law_is_told_right := okd_law_is_told_right (w := w) F45 T D_ways_paper D_law_left D_law_is_judged D_law_same D_law_due DK_ways_paper_one_other
  have D_law_is_told_right := GDf.mk' Ookd_law_is_told_right (PySem.W.mg_of X G a45) k45 b45
  have Ookd_law_paper_row := okd_law_paper_row (w := w) F28 T D_law_places D_law_pick D_law_put
  have D_law_paper_row := Df.mk' Ookd_law_paper_row (PySem.W.mg_of X G a28) k28 b28
  have Ookd_law_are_between_right := okd_law_are_between_right (w := w) F50 T D_law_paper_row D_law_draw D_law_is_judged D_law_is_told_right
  have D_law_are_between_right := GDf.mk' Ookd_law_are_between_right (PySem.W.mg_of X G a50) k50 b50
  have Ookd_law_bent_rows := okd_law_bent_rows (w := w) F46 T D_law_pick D_law_draw
  have D_law_bent_rows := Df.mk' Ookd_law_bent_rows (PySem.W.mg_of X G a46) k46 b46
  have Ookd_law_words := okd_law_words (w := w) F48 T D_law_draw D_law_pick
  have D_law_words := Df.mk' Ookd_law_words (PySem.W.mg_of X G a48) k48 b48
  have Ookd_law_other_values := okd_law_other_values (w := w) F47 T D_law_pick
  have D_law_other_values := GDf.mk' Ookd_law_other_values (PySem.W.mg_of X G a47) k47 b47
  have Ookd_law_word := okd_law_word (w := w) F44 T D_law_left D_law_back
  have D_law_word := Df.mk' Ookd_law_word (PySem.W.mg_of X G a44) k44 b44
  have Ookd_law_is_pair_right := okd_law_is_pair_right (w := w) F49 T D_law_pick D_law_bent_rows D_law_words D_law_other_values D_law_word D_law_paper_row D_law_is_told_right D_law_is_judged
  have D_law_is_pair_right := GDf.mk' Ookd_law_is_pair_right (PySem.W.mg_of X G a49) k49 b49
  have Ookd_law_asks := okd_law_asks (w := w) F51 T D_law_bag D_law_own_way D_law_draw D_law_longer D_reduced_way D_law_pair D_law_last_pair D_law_is_told_right D_law_is_judged D_law_same D_law_are_between_right D_law_is_pair_right D_law_left D_law_back
  have D_law_asks := GDf.mk' Ookd_law_asks (PySem.W.mg_of X G a51) k51 b51
  exact okd_law F52 T D_law_asks
end K88
open PySem PySem.W PyProof.Rows
set_option maxHeartbeats 0 in
theorem PySem.Challenge.cw_cutandjoin_k88_whole_ways_papers_holds : PySem.Challenge.rw_cutandjoin_k88_whole_ways_papers.Holds := by
  w_on; o_law; k_head; (case hw => w_witness2)
  k_fill
  refine Fz.walk_ofG (l := PySem.Challenge.rw_cutandjoin_k88_whole_ways_papers) (n := 63) (k := 50) (x := "script") (sp := fun w => Fz.spLaw _) rfl (by decide) rfl ⟨rfl, by decide, by decide⟩ ?him (fun w h Y => PySem.W.kIn_of Y) ?F (fun _ _ a ns hl _ hS => ⟨a, ns, rfl, hS, hl, fun _ => rfl⟩)
  case him => first | rfl | decide +kernel
  case F =>
    intro w mg fa h KX G hmg
    refine' K88.all_mk KX G hmg rfl ?a0 ?l0 ?c0 ?k0 ?a1 ?l1 ?c1 ?k1 ?a2 ?l2 ?c2 ?k2 ?a3 ?l3 ?c3 ?k3 ?a4 ?l4 ?c4 ?k4 ?a5 ?l5 ?c5 ?k5 ?a6 ?l6 ?c6 ?k6 ?a7 ?l7 ?c7 ?k7 ?a8 ?l8 ?c8 ?k8 ?a9 ?l9 ?c9 ?k9 ?a10 ?l10 ?c10 ?k10 ?a11 ?l11 ?c11 ?k11 ?a12 ?l12 ?c12 ?k12 ?a13 ?l13 ?c13 ?k13 ?a14 ?l14 ?c14 ?k14 ?a15 ?l15 ?c15 ?k15 ?a16 ?l16 ?c16 ?k16 ?a17 ?l17 ?c17 ?k17 ?a18 ?l18 ?c18 ?k18 ?a19 ?l19 ?c19 ?k19 ?a20 ?l20 ?c20 ?k20 ?a21 ?l21 ?c21 ?k21 ?a22 ?l22 ?c22 ?k22 ?a23 ?l23 ?c23 ?k23 ?a24 ?l24 ?c24 ?k24 ?a25 ?l25 ?c25 ?k25 ?a26 ?l26 ?c26 ?k26 ?a27 ?l27 ?c27 ?k27 ?a28 ?l28 ?c28 ?k28 ?a29 ?l29 ?c29 ?k29 ?a30 ?l30 ?c30 ?k30 ?a31 ?l31 ?c31 ?k31 ?a32 ?l32 ?c32 ?k32 ?a33 ?l33 ?c33 ?k33 ?a34 ?l34 ?c34 ?k34 ?a35 ?l35 ?c35 ?k35 ?a36 ?l36 ?c36 ?k36 ?a37 ?l37 ?c37 ?k37 ?a38 ?l38 ?c38 ?k38 ?a39 ?l39 ?c39 ?k39 ?a40 ?l40 ?c40 ?k40 ?a41 ?l41 ?c41 ?k41 ?a42 ?l42 ?c42 ?k42 ?a43 ?l43 ?c43 ?k43 ?a44 ?l44 ?c44 ?k44 ?a45 ?l45 ?c45 ?k45 ?a46 ?l46 ?c46 ?k46 ?a47 ?l47 ?c47 ?k47 ?a48 ?l48 ?c48 ?k48 ?a49 ?l49 ?c49 ?k49 ?a50 ?l50 ?c50 ?k50 ?a51 ?l51 ?c51 ?k51 ?a52 ?l52 ?c52 ?k52 ?z0 ?z1 ?z2 ?z3 ?z4 ?z5 ?z6 ?z7 ?z8 ?z9 ?z10 ?z11 ?z12 ?z13 ?z14 ?z15 ?y0 ?y1
    (case a0 => k_is); (case l0 => k_is); (case c0 => k_is); (case k0 => k_is); (case a1 => k_is); (case l1 => k_is); (case c1 => k_is); (case k1 => k_is); (case a2 => k_is); (case l2 => k_is); (case c2 => k_is); (case k2 => k_is); (case a3 => k_is); (case l3 => k_is); (case c3 => k_is); (case k3 => k_is); (case a4 => k_is); (case l4 => k_is); (case c4 => k_is); (case k4 => k_is); (case a5 => k_is); (case l5 => k_is); (case c5 => k_is); (case k5 => k_is); (case a6 => k_is); (case l6 => k_is); (case c6 => k_is); (case k6 => k_is); (case a7 => k_is); (case l7 => k_is); (case c7 => k_is); (case k7 => k_is); (case a8 => k_is); (case l8 => k_is); (case c8 => k_is); (case k8 => k_is); (case a9 => k_is); (case l9 => k_is); (case c9 => k_is); (case k9 => k_is); (case a10 => k_is); (case l10 => k_is); (case c10 => k_is); (case k10 => k_is); (case a11 => k_is); (case l11 => k_is); (case c11 => k_is); (case k11 => k_is); (case a12 => k_is); (case l12 => k_is); (case c12 => k_is); (case k12 => k_is); (case a13 => k_is); (case l13 => k_is); (case c13 => k_is); (case k13 => k_is); (case a14 => k_is); (case l14 => k_is); (case c14 => k_is); (case k14 => k_is); (case a15 => k_is); (case l15 => k_is); (case c15 => k_is); (case k15 => k_is); (case a16 => k_is); (case l16 => k_is); (case c16 => k_is); (case k16 => k_is); (case a17 => k_is); (case l17 => k_is); (case c17 => k_is); (case k17 => k_is); (case a18 => k_is); (case l18 => k_is); (case c18 => k_is); (case k18 => k_is); (case a19 => k_is); (case l19 => k_is); (case c19 => k_is); (case k19 => k_is); (case a20 => k_is); (case l20 => k_is); (case c20 => k_is); (case k20 => k_is); (case a21 => k_is); (case l21 => k_is); (case c21 => k_is); (case k21 => k_is); (case a22 => k_is); (case l22 => k_is); (case c22 => k_is); (case k22 => k_is); (case a23 => k_is); (case l23 => k_is); (case c23 => k_is); (case k23 => k_is); (case a24 => k_is); (case l24 => k_is); (case c24 => k_is); (case k24 => k_is); (case a25 => k_is); (case l25 => k_is); (case c25 => k_is); (case k25 => k_is); (case a26 => k_is); (case l26 => k_is); (case c26 => k_is); (case k26 => k_is); (case a27 => k_is); (case l27 => k_is); (case c27 => k_is); (case k27 => k_is); (case a28 => k_is); (case l28 => k_is); (case c28 => k_is); (case k28 => k_is); (case a29 => k_is); (case l29 => k_is); (case c29 => k_is); (case k29 => k_is); (case a30 => k_is); (case l30 => k_is); (case c30 => k_is); (case k30 => k_is); (case a31 => k_is); (case l31 => k_is); (case c31 => k_is); (case k31 => k_is); (case a32 => k_is); (case l32 => k_is); (case c32 => k_is); (case k32 => k_is); (case a33 => k_is); (case l33 => k_is); (case c33 => k_is); (case k33 => k_is); (case a34 => k_is); (case l34 => k_is); (case c34 => k_is); (case k34 => k_is); (case a35 => k_is); (case l35 => k_is); (case c35 => k_is); (case k35 => k_is); (case a36 => k_is); (case l36 => k_is); (case c36 => k_is); (case k36 => k_is); (case a37 => k_is); (case l37 => k_is); (case c37 => k_is); (case k37 => k_is); (case a38 => k_is); (case l38 => k_is); (case c38 => k_is); (case k38 => k_is); (case a39 => k_is); (case l39 => k_is); (case c39 => k_is); (case k39 => k_is); (case a40 => k_is); (case l40 => k_is); (case c40 => k_is); (case k40 => k_is); (case a41 => k_is); (case l41 => k_is); (case c41 => k_is); (case k41 => k_is); (case a42 => k_is); (case l42 => k_is); (case c42 => k_is); (case k42 => k_is); (case a43 => k_is); (case l43 => k_is); (case c43 => k_is); (case k43 => k_is); (case a44 => k_is); (case l44 => k_is); (case c44 => k_is); (case k44 => k_is); (case a45 => k_is); (case l45 => k_is); (case c45 => k_is); (case k45 => k_is); (case a46 => k_is); (case l46 => k_is); (case c46 => k_is); (case k46 => k_is); (case a47 => k_is); (case l47 => k_is); (case c47 => k_is); (case k47 => k_is); (case a48 => k_is); (case l48 => k_is); (case c48 => k_is); (case k48 => k_is); (case a49 => k_is); (case l49 => k_is); (case c49 => k_is); (case k49 => k_is); (case a50 => k_is); (case l50 => k_is); (case c50 => k_is); (case k50 => k_is); (case a51 => k_is); (case l51 => k_is); (case c51 => k_is); (case k51 => k_is); (case a52 => k_is); (case l52 => k_is); (case c52 => k_is); (case k52 => k_is); (case z0 => k_is); (case z1 => k_is); (case z2 => k_is); (case z3 => k_is); (case z4 => k_is); (case z5 => k_is); (case z6 => k_is); (case z7 => k_is); (case z8 => k_is); (case z9 => k_is); (case z10 => k_is); (case z11 => k_is); (case z12 => k_is); (case z13 => k_is); (case z14 => k_is); (case z15 => k_is); (case y0 => k_is); (case y1 => k_is)
