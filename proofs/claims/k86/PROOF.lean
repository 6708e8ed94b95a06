import PyProof.Rows.All
import Wide.All
import OpenK.AllK
import Wide.FinOn
import HandS.ForMost
import HandS.Wide
import HandS.TupAny
import HandS.Evl
import HandS.More
import HandS.Conv
import HandS.Rev
import HandS.Dict
import PyProof.ReprRoads
import HandS.RevTup
import PyProof.SumAny
import HandS.TupMul
import KE.KDictDisplayH
import HandS.Style
import HandS.Exc
import HandS.TryOnly
import PyProof.P3Eq
import PyProof.ReprBulk
import KE.KExcSuper
import HandS.ExcOwn
import HandS.ExcField
import HandS.ExcIs
import HandS.IsInst
import HandS.WordsExc
import PySem.Challenge.RW_cutandjoin_k86_whole_reduced_ways
/-! ## Fz -/
set_option Elab.async false
set_option linter.all false
set_option maxRecDepth 100000
set_option maxHeartbeats 2000000
set_option autoImplicit false
/-! Fz: a small logic over the hand layer. Data is frozen in a part F of the heap; what may change is owned, one by one, in a list L. -/
namespace Fz
open PySem L2

/-! ### extension -/
def Sub (F H : Hp) : Prop := ∀ a o, F a = some o → H a = some o
theorem Sub.rfl' (F : Hp) : Sub F F := fun _ _ h => h
theorem Sub.tr {F G H : Hp} (x : Sub F G) (y : Sub G H) : Sub F H := fun a o h => y a o (x a o h)
theorem sub_none {F H : Hp} (x : Sub F H) {p : Addr} (h : H p = none) : F p = none := by
  cases e : F p with
  | none => rfl
  | some o => rw [x p o e] at h; cases h
theorem sub_upd {F H : Hp} (x : Sub F H) (p : Addr) (o : HO) : Sub (upd F p o) (upd H p o) := fun a u h => by
  by_cases e : a = p
  · subst e; rw [upd_same] at h ⊢; exact h
  · rw [upd_ne e] at h ⊢; exact x a u h
theorem sub_fresh {F : Hp} {p : Addr} {o : HO} (h : F p = none) : Sub F (upd F p o) := fun a u e => by
  rw [upd_ne (ne_of_none e h)]; exact e
theorem rd_sub {F H : Hp} (x : Sub F H) {a : Addr} {u : HO} (h : Rd F a u) : Rd H a u := by
  rcases h with h | ⟨o, h⟩
  · exact .inl (x _ _ h)
  · exact .inr ⟨o, x _ _ h⟩
theorem sql_sub {K : PySem.W.Frag} {F H : Hp} (x : Sub F H) {a : Addr} {xs : List V} (h : SqL K F a xs) : SqL K H a xs := by
  rcases h with h | h
  · exact .inl (rd_sub x h)
  · exact .inr h
theorem sqt_sub {K : PySem.W.Frag} {F H : Hp} (x : Sub F H) {a : Addr} {xs : List V} (h : SqT K F a xs) : SqT K H a xs := by
  rcases h with h | h
  · exact .inl (rd_sub x h)
  · exact .inr h
theorem tq_sub {K : PySem.W.Frag} {F H : Hp} (x : Sub F H) {a : Addr} {xs : List V} (h : F a = some (.tup xs)) : SqT K H a xs := .inl (.inl (x _ _ h))
/-- the plain values -/
def simV : V → Option PyData
  | .non => some .none
  | .bl b => some (.bool b)
  | .int i => some (.int i)
  | .str x => some (.str x)
  | _ => none
def keyD : Key → PyData
  | .inl i => .int i
  | .inr x => .str x
/-- a dict of plain values, its keys ints and texts -/
def KvD (kvs : List (Key × V)) (ps : List (PyData × PyData)) : Prop := kvs.map (fun x => (keyD x.1, simV x.2)) = ps.map fun p => (p.1, some p.2)
mutual
/-- data: what a value stands for; lists are tracked as lists -/
inductive Dq (K : PySem.W.Frag) (H : Hp) : V → PyData → Prop
  | non : Dq K H .non .none
  | bl (b : Bool) : Dq K H (.bl b) (.bool b)
  | int (i : Int) : Dq K H (.int i) (.int i)
  | str (x : Str) : Dq K H (.str x) (.str x)
  | lst {a : Addr} {xs : List V} {ds : List PyData} : H a = some (.lst xs) → DqAll K H xs ds → Dq K H (.ref a) (.list ds)
  | tup {a : Addr} {xs : List V} {ds : List PyData} : H a = some (.tup xs) → DqAll K H xs ds → Dq K H (.ref a) (.tuple ds)
  | dic {a : Addr} {kvs : List (Key × V)} {ps : List (PyData × PyData)} : H a = some (.dK kvs) → KvD kvs ps → Dq K H (.ref a) (.dict ps)
inductive DqAll (K : PySem.W.Frag) (H : Hp) : List V → List PyData → Prop
  | nil : DqAll K H [] []
  | cons {v : V} {vs : List V} {d : PyData} {ds : List PyData} : Dq K H v d → DqAll K H vs ds → DqAll K H (v :: vs) (d :: ds)
end
theorem nodict_cons {d : PyData} {ds : List PyData} (h : PyData.hasDictAll (d :: ds) = false) : d.hasDict = false ∧ PyData.hasDictAll ds = false := by
  have h : (d.hasDict || PyData.hasDictAll ds) = false := h
  exact Bool.or_eq_false_iff.mp h
mutual
theorem dq_dp {K : PySem.W.Frag} {F : Hp} : ∀ {d : PyData} {v : V}, d.hasDict = false → Dq K F v d → L2.Dp K F v d
  | .none, _, _, h => by cases h; exact .non
  | .bool _, _, _, h => by cases h; exact .bl _
  | .int _, _, _, h => by cases h; exact .int _
  | .str _, _, _, h => by cases h; exact .str _
  | .list ds, _, n, h => by
    cases h with
    | lst a b => exact .lst (.inl (.inl a)) (dqa_dpa (show PyData.hasDictAll ds = false from n) b)
  | .tuple ds, _, n, h => by
    cases h with
    | tup a b => exact .tup (.inl (.inl a)) (dqa_dpa (show PyData.hasDictAll ds = false from n) b)
  | .dict _, _, n, _ => by cases n
theorem dqa_dpa {K : PySem.W.Frag} {F : Hp} : ∀ {ds : List PyData} {vs : List V}, PyData.hasDictAll ds = false → DqAll K F vs ds → L2.DpAll K F vs ds
  | [], _, _, h => by cases h; exact .nil
  | _ :: _, _, n, h => by
    cases h with
    | cons a b => exact .cons (dq_dp (nodict_cons n).1 a) (dqa_dpa (nodict_cons n).2 b)
end
mutual
theorem nodict_lay : ∀ {d : PyData}, d.canLay0 = true → d.hasDict = false
  | .none, _ => rfl
  | .bool _, _ => rfl
  | .int _, _ => rfl
  | .str _, _ => rfl
  | .list ds, h => nodicts_lay (ds := ds) h
  | .tuple ds, h => nodicts_lay (ds := ds) h
  | .dict _, h => by cases h
theorem nodicts_lay : ∀ {ds : List PyData}, PyData.canLayAll0 ds = true → PyData.hasDictAll ds = false
  | [], _ => rfl
  | d :: ds, h => by
    have h : (d.canLay0 && PyData.canLayAll0 ds) = true := h
    rw [Bool.and_eq_true] at h
    show (d.hasDict || PyData.hasDictAll ds) = false
    rw [nodict_lay h.1, nodicts_lay h.2]; rfl
end
theorem nodict_shaped {d : PyData} (h : SeqAt.shaped d = true) : d.hasDict = false := by
  unfold SeqAt.shaped at h
  rw [Bool.and_eq_true] at h
  exact nodict_lay h.1
mutual
theorem dp_sub {K : PySem.W.Frag} {F H : Hp} (x : Sub F H) : ∀ {d : PyData} {v : V}, Dq K F v d → Dq K H v d
  | .none, _, h => by cases h; exact .non
  | .bool _, _, h => by cases h; exact .bl _
  | .int _, _, h => by cases h; exact .int _
  | .str _, _, h => by cases h; exact .str _
  | .list ds, _, h => by
    cases h with
    | lst a b => exact .lst (x _ _ a) (dpa_sub x b)
  | .tuple ds, _, h => by
    cases h with
    | tup a b => exact .tup (x _ _ a) (dpa_sub x b)
  | .dict _, _, h => by
    cases h with
    | dic a b => exact .dic (x _ _ a) b
theorem dpa_sub {K : PySem.W.Frag} {F H : Hp} (x : Sub F H) : ∀ {ds : List PyData} {vs : List V}, DqAll K F vs ds → DqAll K H vs ds
  | [], _, h => by cases h; exact .nil
  | _ :: _, _, h => by
    cases h with
    | cons a b => exact .cons (dp_sub x a) (dpa_sub x b)
end
section
variable {K : PySem.W.Frag} {F : Hp}
theorem dpa_len : ∀ {vs : List V} {ds : List PyData}, DqAll K F vs ds → vs.length = ds.length
  | _, _, .nil => rfl
  | _, _, .cons _ t => by rw [List.length_cons, List.length_cons, dpa_len t]
theorem dpa_app : ∀ {vs ws : List V} {ds es : List PyData}, DqAll K F vs ds → DqAll K F ws es → DqAll K F (vs ++ ws) (ds ++ es)
  | _, _, _, _, .nil, h => h
  | _, _, _, _, .cons a t, h => .cons a (dpa_app t h)
theorem dpa_get : ∀ {vs : List V} {ds : List PyData} {i : Nat} {d : PyData}, DqAll K F vs ds → ds[i]? = some d → ∃ v, vs[i]? = some v ∧ Dq K F v d
  | _, _, _, _, .nil, e => by simp at e
  | _, _, 0, _, .cons a _, e => by simp at e; subst e; exact ⟨_, rfl, a⟩
  | _, _, i + 1, _, .cons _ t, e => by
    obtain ⟨v, h1, h2⟩ := dpa_get t (i := i) (by simpa using e)
    exact ⟨v, by simpa using h1, h2⟩
theorem dpa_take : ∀ {vs : List V} {ds : List PyData} (n : Nat), DqAll K F vs ds → DqAll K F (vs.take n) (ds.take n)
  | _, _, 0, _ => .nil
  | _, _, _ + 1, .nil => .nil
  | _, _, n + 1, .cons a t => .cons a (dpa_take n t)
theorem dpa_drop : ∀ {vs : List V} {ds : List PyData} (n : Nat), DqAll K F vs ds → DqAll K F (vs.drop n) (ds.drop n)
  | _, _, 0, h => h
  | _, _, _ + 1, .nil => .nil
  | _, _, n + 1, .cons _ t => dpa_drop n t
theorem dpa_rev : ∀ {vs : List V} {ds : List PyData}, DqAll K F vs ds → DqAll K F vs.reverse ds.reverse
  | _, _, .nil => .nil
  | _, _, .cons a t => by
    rw [List.reverse_cons, List.reverse_cons]
    exact dpa_app (dpa_rev t) (.cons a .nil)
theorem dpa_set {v : V} {d : PyData} (h : Dq K F v d) : ∀ {vs : List V} {ds : List PyData} (n : Nat), DqAll K F vs ds → DqAll K F (vs.set n v) (ds.set n d)
  | _, _, _, .nil => .nil
  | _, _, 0, .cons _ t => .cons h t
  | _, _, n + 1, .cons a t => .cons a (dpa_set h n t)
theorem dpa_erase : ∀ {vs : List V} {ds : List PyData} (n : Nat), DqAll K F vs ds → DqAll K F (vs.eraseIdx n) (ds.eraseIdx n)
  | _, _, _, .nil => .nil
  | _, _, 0, .cons _ t => t
  | _, _, n + 1, .cons a t => .cons a (dpa_erase n t)
theorem dpa_last : ∀ {vs : List V} {ds : List PyData}, DqAll K F vs ds → DqAll K F vs.dropLast ds.dropLast
  | _, _, .nil => .nil
  | _, _, .cons _ .nil => .nil
  | _, _, .cons a (.cons b t) => .cons a (dpa_last (.cons b t))
theorem dpa_ints : ∀ (ns : List Int), DqAll K F (ns.map V.int) (ns.map PyData.int)
  | [] => .nil
  | _ :: t => .cons (.int _) (dpa_ints t)
theorem dpa_int_inv : ∀ {ns : List Int} {vs : List V}, DqAll K F vs (ns.map PyData.int) → vs = ns.map V.int
  | [], _, h => by cases h; rfl
  | _ :: ns, _, h => by
    cases h with
    | cons a t => cases a; rw [dpa_int_inv t]; rfl
theorem dpa_bool_inv : ∀ {bs : List Bool} {vs : List V}, DqAll K F vs (bs.map PyData.bool) → vs = bs.map V.bl
  | [], _, h => by cases h; rfl
  | _ :: ns, _, h => by
    cases h with
    | cons a t => cases a; rw [dpa_bool_inv t]; rfl
end

/-! ### states -/
/-- what is known of a value: it itself, or the data that it stands for -/
inductive AD where
  | v (x : V)
  | d (x : PyData)
def AD.ok (K : PySem.W.Frag) (F : Hp) : AD → V → Prop
  | .v x, y => y = x
  | .d x, y => Dq K F y x
theorem AD.ok.sub {K : PySem.W.Frag} {F G : Hp} (x : Sub F G) : ∀ {a : AD} {y : V}, a.ok K F y → a.ok K G y
  | .v _, _, h => h
  | .d _, _, h => dp_sub x h
/-- what is owned -/
inductive MO where
  | lst (p : Addr) (ds : List PyData)
  | raw (p : Addr) (o : HO)
  | bag (pb pc : Addr) (cells : List Int) (cur mix : Int)
  | know (v : V) (d : PyData)
  | seq (p : Addr) (ds : List PyData)
def MO.fp : MO → List Addr
  | .lst p _ => [p]
  | .raw p _ => [p]
  | .bag pb pc _ _ _ => [pb, pc]
  | .know _ _ => []
  | .seq _ _ => []
def BagAt (H : Hp) (pb pc : Addr) (cells : List Int) (cur mix : Int) : Prop :=
  H pb = some (.lst [.ref pc, .int cur, .int mix]) ∧ H pc = some (.lst (cells.map V.int))
def MO.ok (K : PySem.W.Frag) (F H : Hp) : MO → Prop
  | .lst p ds => ∃ vs, H p = some (.lst vs) ∧ DqAll K F vs ds
  | .raw p o => H p = some o ∧ ∀ xs, o ≠ .tup xs
  | .bag pb pc cs x m => BagAt H pb pc cs x m
  | .know v d => Dq K F v d
  | .seq p ds => ∃ vs, SqL K F p vs ∧ DqAll K F vs ds
theorem MO.ok.subF {K : PySem.W.Frag} {F G H : Hp} (x : Sub F G) : ∀ {m : MO}, m.ok K F H → m.ok K G H
  | .lst _ _, ⟨vs, a, b⟩ => ⟨vs, a, dpa_sub x b⟩
  | .raw _ _, h => h
  | .bag _ _ _ _ _, h => h
  | .know _ _, h => dp_sub x h
  | .seq _ _, ⟨vs, a, b⟩ => ⟨vs, sql_sub x a, dpa_sub x b⟩
theorem MO.ok.same {K : PySem.W.Frag} {F H H' : Hp} : ∀ {m : MO}, m.ok K F H → (∀ p ∈ m.fp, ∀ o, H p = some o → H' p = some o) → m.ok K F H'
  | .lst p _, ⟨vs, a, b⟩, k => ⟨vs, k p List.mem_cons_self _ a, b⟩
  | .raw p _, h, k => ⟨k p List.mem_cons_self _ h.1, h.2⟩
  | .bag pb pc _ _ _, h, k => ⟨k pb List.mem_cons_self _ h.1, k pc (List.mem_cons_of_mem _ List.mem_cons_self) _ h.2⟩
  | .know _ _, h, _ => h
  | .seq _ _, h, _ => h
theorem MO.ok.there {K : PySem.W.Frag} {F H : Hp} : ∀ {m : MO}, m.ok K F H → ∀ p ∈ m.fp, ∃ o, H p = some o ∧ ∀ xs, o ≠ .tup xs
  | .lst p _, ⟨vs, a, b⟩, q, hq => by rw [List.mem_singleton.mp hq]; exact ⟨_, a, fun _ z => nomatch z⟩
  | .raw p _, h, q, hq => by rw [List.mem_singleton.mp hq]; exact ⟨_, h.1, h.2⟩
  | .bag pb pc _ _ _, h, q, hq => by
    rcases List.mem_cons.mp hq with e | e
    · rw [e]; exact ⟨_, h.1, fun _ z => nomatch z⟩
    · rw [List.mem_singleton.mp e]; exact ⟨_, h.2, fun _ z => nomatch z⟩
  | .know _ _, _, q, hq => nomatch hq
  | .seq _ _, _, q, hq => nomatch hq

/-- the background: at the entry -/
structure Bg where
  K : PySem.W.Frag
  F0 : Hp
  H0 : Hp
  M : List Addr
def SlOk (K : PySem.W.Frag) (F : Hp) : Option AD → Option V → Prop
  | none, _ => True
  | some a, s => ∃ y, s = some y ∧ a.ok K F y
abbrev Eps := List (Option AD)
abbrev Own := List MO
def fps (L : Own) : List Addr := L.flatMap MO.fp
structure Rep (B : Bg) (ε : Eps) (L : Own) (F : Hp) (σ : St) (H : Hp) : Prop where
  sub : Sub F H
  own : ∀ m ∈ L, m.ok B.K F H
  off : ∀ p ∈ fps L, F p = none ∧ (p ∈ B.M ∨ B.H0 p = none)
  nd : (fps L).Nodup
  sl : ∀ (i : Nat) (x : Option AD), ε[i]? = some x → ∃ s, σ[i]? = some s ∧ SlOk B.K F x s
  len : σ.length = ε.length
  f0 : Sub B.F0 F
  h0 : ∀ a o, a ∉ B.M → B.H0 a = some o → H a = some o
  nc : ∀ a, B.F0 a = none → B.H0 a ≠ none → F a = none ∨ ∃ xs, B.H0 a = some (.tup xs)
  mm : ∀ p ∈ B.M, p ∈ fps L
theorem mem_fps {L : Own} {m : MO} (h : m ∈ L) {p : Addr} (hp : p ∈ m.fp) : p ∈ fps L := List.mem_flatMap.mpr ⟨m, h, hp⟩

theorem fps_sub {L L' : Own} (h : L'.Sublist L) : (fps L').Sublist (fps L) := by
  induction h with
  | slnil => exact List.Sublist.refl _
  | cons a _ ih => exact List.Sublist.trans ih (List.sublist_append_right a.fp _)
  | cons_cons a _ ih => exact List.Sublist.append (List.Sublist.refl a.fp) ih
section
variable {B : Bg} {ε : Eps} {L : Own} {F : Hp} {σ : St} {H : Hp}
theorem Rep.thereN (r : Rep B ε L F σ H) {p : Addr} (hp : p ∈ fps L) : ∃ o, H p = some o ∧ ∀ xs, o ≠ .tup xs := by
  obtain ⟨m, hm, h⟩ := List.mem_flatMap.mp hp
  exact (r.own m hm).there p h
theorem Rep.there (r : Rep B ε L F σ H) {p : Addr} (hp : p ∈ fps L) : ∃ o, H p = some o :=
  let ⟨o, h, _⟩ := r.thereN hp
  ⟨o, h⟩
theorem Rep.noT (r : Rep B ε L F σ H) {p : Addr} (hp : p ∈ fps L) {xs : List V} (h : H p = some (.tup xs)) : False := by
  obtain ⟨o, h1, h2⟩ := r.thereN hp
  rw [h] at h1; cases h1; exact h2 xs rfl
theorem Rep.new (r : Rep B ε L F σ H) {p : Addr} (hp : H p = none) : p ∉ fps L := fun h => by
  obtain ⟨o, e⟩ := r.there h
  rw [hp] at e; cases e
theorem Rep.newM (r : Rep B ε L F σ H) {p : Addr} (hp : H p = none) : p ∉ B.M := fun h => r.new hp (r.mm p h)
theorem Rep.newH (r : Rep B ε L F σ H) {p : Addr} (hp : H p = none) : B.H0 p = none := by
  cases e : B.H0 p with
  | none => rfl
  | some o => rw [r.h0 p o (r.newM hp) e] at hp; cases hp
/-- the heap grows by things that do not matter -/
theorem Rep.heap (r : Rep B ε L F σ H) {H' : Hp} (k : Sub H H') : Rep B ε L F σ H' :=
  ⟨r.sub.tr k, fun m hm => (r.own m hm).same fun p _ o e => k p o e, r.off, r.nd, r.sl, r.len, r.f0, fun a o h e => k a o (r.h0 a o h e), r.nc, r.mm⟩
theorem SlOk.sub {K : PySem.W.Frag} {F G : Hp} (x : Sub F G) : ∀ {a : Option AD} {s : Option V}, SlOk K F a s → SlOk K G a s
  | none, _, _ => trivial
  | some _, _, ⟨y, e, h⟩ => ⟨y, e, h.sub x⟩
/-- a new frozen object -/
theorem Rep.grow (r : Rep B ε L F σ H) {p : Addr} {o : HO} (hp : H p = none) : Rep B ε L (upd F p o) σ (upd H p o) := by
  have hF := sub_none r.sub hp
  refine ⟨sub_upd r.sub p o, fun m hm => ((r.own m hm).subF (sub_fresh hF)).same fun q hq u e => ?_, fun q hq => ?_, r.nd, fun i x e => ?_, r.len, r.f0.tr (sub_fresh hF), fun a u h e => sub_fresh hp a u (r.h0 a u h e), fun a h1 h2 => ?_, r.mm⟩
  · exact sub_fresh hp q u e
  · have : q ≠ p := fun e => r.new hp (e ▸ hq)
    exact ⟨by rw [upd_ne this]; exact (r.off q hq).1, (r.off q hq).2⟩
  · obtain ⟨s, h1, h2⟩ := r.sl i x e
    exact ⟨s, h1, h2.sub (sub_fresh hF)⟩
  · have : a ≠ p := fun e => h2 (e ▸ r.newH hp)
    rw [upd_ne this]; exact r.nc a h1 h2
/-- a new owned object -/
theorem Rep.alloc (r : Rep B ε L F σ H) {p : Addr} {o : HO} {m : MO} (hp : H p = none) (hm : m.fp = [p]) (ok : m.ok B.K F (upd H p o)) : Rep B ε (m :: L) F σ (upd H p o) := by
  have hF := sub_none r.sub hp
  have e1 : fps (m :: L) = p :: fps L := by unfold fps; rw [List.flatMap_cons, hm]; rfl
  refine ⟨r.sub.tr (sub_fresh hp), fun x hx => ?_, fun q hq => ?_, ?_, r.sl, r.len, r.f0, fun a u h e => sub_fresh hp a u (r.h0 a u h e), r.nc, fun q hq => ?_⟩
  · rcases List.mem_cons.mp hx with e | e
    · rw [e]; exact ok
    · exact (r.own x e).same fun q _ u e => sub_fresh hp q u e
  · rw [e1] at hq
    rcases List.mem_cons.mp hq with e | e
    · rw [e]; exact ⟨hF, .inr (r.newH hp)⟩
    · exact r.off q e
  · rw [e1]; exact List.nodup_cons.mpr ⟨r.new hp, r.nd⟩
  · rw [e1]; exact List.mem_cons_of_mem _ (r.mm q hq)
theorem fps_set : ∀ {L : Own} {k : Nat} {m m' : MO}, L[k]? = some m → m'.fp = m.fp → fps (L.set k m') = fps L
  | [], _, _, _, h, _ => by simp at h
  | x :: L, 0, m, m', h, e => by
    simp at h; subst h
    show m'.fp ++ fps L = x.fp ++ fps L
    rw [e]
  | x :: L, k + 1, m, m', h, e => by
    show x.fp ++ fps (L.set k m') = x.fp ++ fps L
    rw [fps_set (by simpa using h) e]
theorem fps_apart : ∀ {L : Own} {k j : Nat} {m x : MO}, (fps L).Nodup → L[k]? = some m → L[j]? = some x → k ≠ j → ∀ p ∈ m.fp, p ∉ x.fp
  | [], _, _, _, _, _, h, _, _ => by simp at h
  | y :: L, 0, 0, _, _, _, _, _, n => absurd rfl n
  | y :: L, 0, j + 1, m, x, nd, h, h', _ => by
    simp at h; subst h
    have nd' : (y.fp ++ fps L).Nodup := nd
    intro p hp hx
    exact (List.nodup_append.mp nd').2.2 p hp p (mem_fps (List.mem_of_getElem? (by simpa using h')) hx) rfl
  | y :: L, k + 1, 0, m, x, nd, h, h', _ => by
    simp at h'; subst h'
    have nd' : (y.fp ++ fps L).Nodup := nd
    intro p hp hx
    exact (List.nodup_append.mp nd').2.2 p hx p (mem_fps (List.mem_of_getElem? (by simpa using h)) hp) rfl
  | y :: L, k + 1, j + 1, m, x, nd, h, h', n => by
    have nd' : (y.fp ++ fps L).Nodup := nd
    exact fps_apart (List.nodup_append.mp nd').2.1 (by simpa using h) (by simpa using h') fun e => n (by rw [e])
/-- an owned thing changes: all else stays -/
theorem Rep.chg (r : Rep B ε L F σ H) {k : Nat} {m m' : MO} {H' : Hp} (hk : L[k]? = some m) (hf : m'.fp = m.fp) (ok : m'.ok B.K F H') (keep : ∀ a o, a ∉ m.fp → H a = some o → H' a = some o) : Rep B ε (L.set k m') F σ H' := by
  have ef := fps_set (m' := m') hk hf
  have hmem : ∀ p ∈ m.fp, p ∈ fps L := fun p hp => mem_fps (List.mem_of_getElem? hk) hp
  have kf : ∀ a o, F a = some o → H' a = some o := fun a o e => keep a o (fun h => by rw [(r.off a (hmem a h)).1] at e; cases e) (r.sub a o e)
  refine ⟨kf, fun x hx => ?_, by rw [ef]; exact r.off, by rw [ef]; exact r.nd, r.sl, r.len, r.f0, fun a o h e => ?_, r.nc, by rw [ef]; exact r.mm⟩
  · obtain ⟨j, hj⟩ := List.mem_iff_getElem?.mp hx
    rw [List.getElem?_set] at hj
    split at hj
    · split at hj
      · cases hj; exact ok
      · cases hj
    · rename_i ne
      exact (r.own x (List.mem_of_getElem? hj)).same fun p hp o e => keep p o (fun h => fps_apart r.nd hk hj ne p h hp) e
  · refine keep a o (fun hm => ?_) (r.h0 a o h e)
    rcases (r.off a (hmem a hm)).2 with q | q
    · exact h q
    · rw [q] at e; cases e
theorem Rep.slot (r : Rep B ε L F σ H) {i : Nat} {a : AD} {y : V} (h : a.ok B.K F y) : Rep B (ε.set i (some a)) L F (σ.set i (some y)) H := by
  refine ⟨r.sub, r.own, r.off, r.nd, fun j x e => ?_, by rw [List.length_set, List.length_set]; exact r.len, r.f0, r.h0, r.nc, r.mm⟩
  rw [List.getElem?_set] at e
  rw [List.getElem?_set, r.len]
  split at e
  · rename_i ij
    subst ij
    split at e
    · rename_i il
      cases e
      rw [if_pos rfl, if_pos il]
      exact ⟨_, rfl, y, rfl, h⟩
    · cases e
  · rename_i ij
    rw [if_neg ij]
    exact r.sl j x e
/-- forget slots -/
def Wk : Eps → Eps → Prop
  | [], [] => True
  | a :: x, b :: y => (b = none ∨ b = a) ∧ Wk x y
  | _, _ => False
theorem Wk.refl : ∀ x : Eps, Wk x x
  | [] => trivial
  | _ :: x => ⟨.inr rfl, Wk.refl x⟩
theorem Wk.len : ∀ {x y : Eps}, Wk x y → x.length = y.length
  | [], [], _ => rfl
  | _ :: _, _ :: _, h => by rw [List.length_cons, List.length_cons, Wk.len h.2]
theorem Wk.get : ∀ {x y : Eps}, Wk x y → ∀ (i : Nat) b, y[i]? = some b → b = none ∨ x[i]? = some b
  | [], [], _, i, b, e => by simp at e
  | a :: x, c :: y, h, 0, b, e => by
    simp at e; subst e
    rcases h.1 with z | z
    · exact .inl z
    · exact .inr (by rw [z]; rfl)
  | a :: x, c :: y, h, i + 1, b, e => by
    rcases Wk.get h.2 i b (by simpa using e) with z | z
    · exact .inl z
    · exact .inr (by simpa using z)
theorem Rep.wk (r : Rep B ε L F σ H) {ε' : Eps} (w : Wk ε ε') : Rep B ε' L F σ H := by
  refine ⟨r.sub, r.own, r.off, r.nd, fun j x e => ?_, by rw [r.len, w.len], r.f0, r.h0, r.nc, r.mm⟩
  rcases w.get j x e with z | z
  · subst z
    have : j < σ.length := by
      rw [r.len, w.len]
      exact (List.getElem?_eq_some_iff.mp e).1
    exact ⟨_, List.getElem?_eq_getElem this, trivial⟩
  · exact r.sl j x z
/-- one more thing known -/
theorem Rep.learn (r : Rep B ε L F σ H) {v : V} {d : PyData} (h : Dq B.K F v d) : Rep B ε (L ++ [.know v d]) F σ H := by
  have e1 : fps (L ++ [.know v d]) = fps L := by unfold fps; rw [List.flatMap_append]; show _ ++ [] = _; rw [List.append_nil]
  refine ⟨r.sub, fun m hm => ?_, by rw [e1]; exact r.off, by rw [e1]; exact r.nd, r.sl, r.len, r.f0, r.h0, r.nc, by rw [e1]; exact r.mm⟩
  rcases List.mem_append.mp hm with q | q
  · exact r.own m q
  · rw [List.mem_singleton.mp q]; exact h
/-- what is known is forgotten; what is owned (and is not the entry's) is given up -/
theorem Rep.drop (r : Rep B ε L F σ H) {k : Nat} {m : MO} (hk : L[k]? = some m) (hM : ∀ p ∈ m.fp, p ∉ B.M) : Rep B ε (L.eraseIdx k) F σ H := by
  have hs : ∀ x ∈ L.eraseIdx k, x ∈ L := fun x hx => List.mem_of_mem_eraseIdx hx
  have hp : ∀ p ∈ fps (L.eraseIdx k), p ∈ fps L := fun p hp => by
    obtain ⟨x, h1, h2⟩ := List.mem_flatMap.mp hp
    exact mem_fps (hs x h1) h2
  refine ⟨r.sub, fun x hx => r.own x (hs x hx), fun p h => r.off p (hp p h), ?_, r.sl, r.len, r.f0, r.h0, r.nc, fun p hpM => ?_⟩
  · have : (fps (L.eraseIdx k)).Sublist (fps L) := fps_sub (List.eraseIdx_sublist L k)
    exact r.nd.sublist this
  · obtain ⟨x, h1, h2⟩ := List.mem_flatMap.mp (r.mm p hpM)
    refine List.mem_flatMap.mpr ⟨x, ?_, h2⟩
    obtain ⟨j, hj⟩ := List.mem_iff_getElem?.mp h1
    have ne : j ≠ k := fun e => by
      subst e
      rw [hk] at hj; cases hj
      exact hM p h2 hpM
    rw [List.mem_eraseIdx_iff_getElem?]
    exact ⟨j, ne, hj⟩
end

/-! ### judgements -/
section
variable (B : Bg)
def Ho (P : St → Hp → Prop) (ε : Eps) (L : Own) : Prop := ∀ F σ H, Rep B ε L F σ H → P σ H
def EX (te : TE) (ε : Eps) (L : Own) (a : AD) (L' : Own) : Prop := ∀ F σ H, Rep B ε L F σ H → ∀ Q : VK, (∀ v F' H', Sub F F' → Rep B ε L' F' σ H' → a.ok B.K F' v → Q v H') → te σ H Q
/-- a new list, owned: it stands at the head of L' -/
def EN (te : TE) (ε : Eps) (L : Own) (ds : List PyData) (L' : Own) : Prop := ∀ F σ H, Rep B ε L F σ H → ∀ Q : VK, (∀ p F' H', Sub F F' → p ∉ B.M → Rep B ε (.lst p ds :: L') F' σ H' → Q (.ref p) H') → te σ H Q
def ETt (tt : TT) (ε : Eps) (L : Own) (b : Bool) (L' : Own) : Prop := ∀ F σ H, Rep B ε L F σ H → ∀ Q : Bool → Hp → Prop, (∀ F' H', Sub F F' → Rep B ε L' F' σ H' → Q b H') → tt σ H Q
def AdAll (K : PySem.W.Frag) (F : Hp) : List AD → List V → Prop
  | [], [] => True
  | a :: as, v :: vs => a.ok K F v ∧ AdAll K F as vs
  | _, _ => False
def EA (ta : TA) (ε : Eps) (L : Own) (as : List AD) (L' : Own) : Prop := ∀ F σ H, Rep B ε L F σ H → ∀ Q : List V → Hp → Prop, (∀ vs F' H', Sub F F' → Rep B ε L' F' σ H' → AdAll B.K F' as vs → Q vs H') → ta σ H Q
def EO (to : TO) (ε : Eps) (L : Own) (o : Option Int) (L' : Own) : Prop := ∀ F σ H, Rep B ε L F σ H → ∀ Q : Option Int → Hp → Prop, (∀ F' H', Sub F F' → Rep B ε L' F' σ H' → Q o H') → to σ H Q
def GT (g : TG) (a : AD) (ε ε' : Eps) : Prop := ∀ L F σ H v, Rep B ε L F σ H → a.ok B.K F v → ∀ P : St → Hp → Prop, (∀ σ', Rep B ε' L F σ' H → P σ' H) → g v σ H P
def AbsP (I : Eps → Own → Prop) : St → Hp → Prop := fun σ H => ∃ ε L F, I ε L ∧ Rep B ε L F σ H
end
theorem AdAll.sub {K : PySem.W.Frag} {F G : Hp} (x : Sub F G) : ∀ {as : List AD} {vs : List V}, AdAll K F as vs → AdAll K G as vs
  | [], [], h => h
  | _ :: _, _ :: _, h => ⟨h.1.sub x, AdAll.sub x h.2⟩

section
variable {B : Bg} {ε ε' : Eps} {L L' L0 L1 L2 L3 : Own} {te ta tb : TE} {tt tu : TT} {tas tr : TA} {a b : AD} {D : Ends} {ts tc : TS}
/-! #### names, constants -/
theorem ex_v {i : Nat} (h : ε[i]? = some (some a)) : EX B (tVar i) ε L a L := fun F σ H r Q q => by
  obtain ⟨s, h1, y, rfl, h2⟩ := r.sl i _ h
  exact ⟨y, h1, q y F H (Sub.rfl' F) r h2⟩
theorem ex_cI {i : Int} : EX B (tC (.int i)) ε L (.d (.int i)) L := fun F σ H r Q q => q _ F H (Sub.rfl' F) r (.int i)
theorem ex_cB {i : Bool} : EX B (tC (.bl i)) ε L (.d (.bool i)) L := fun F σ H r Q q => q _ F H (Sub.rfl' F) r (.bl i)
theorem ex_cN : EX B (tC .non) ε L (.d .none) L := fun F σ H r Q q => q _ F H (Sub.rfl' F) r .non
theorem ex_cS {s : Str} : EX B (tC (.str s)) ε L (.d (.str s)) L := fun F σ H r Q q => q _ F H (Sub.rfl' F) r (.str s)
/-! #### two places -/
/-- what an operation gives, by what is known of its places -/
def RX (B : Bg) (r : R2) (ε : Eps) (L : Own) (x y z : AD) (L' : Own) : Prop := ∀ F σ H v w, Rep B ε L F σ H → x.ok B.K F v → y.ok B.K F w → ∀ Q : VK, (∀ u F' H', Sub F F' → Rep B ε L' F' σ H' → z.ok B.K F' u → Q u H') → r v w H Q
def RN (B : Bg) (r : R2) (ε : Eps) (L : Own) (x y : AD) (ds : List PyData) (L' : Own) : Prop := ∀ F σ H v w, Rep B ε L F σ H → x.ok B.K F v → y.ok B.K F w → ∀ Q : VK, (∀ p F' H', Sub F F' → p ∉ B.M → Rep B ε (.lst p ds :: L') F' σ H' → Q (.ref p) H') → r v w H Q
variable {r : R2} {x y z : AD}
theorem ex_op (ha : EX B ta ε L x L1) (hb : EX B tb ε L1 y L2) (hr : RX B r ε L2 x y z L3) : EX B (tOp r ta tb) ε L z L3 := fun F σ H rp Q q =>
  ha F σ H rp _ fun v F1 H1 s1 r1 o1 => hb F1 σ H1 r1 _ fun w F2 H2 s2 r2 o2 => hr F2 σ H2 v w r2 (o1.sub s2) o2 Q fun u F3 H3 s3 r3 o3 => q u F3 H3 ((s1.tr s2).tr s3) r3 o3
theorem en_op {ds : List PyData} (ha : EX B ta ε L x L1) (hb : EX B tb ε L1 y L2) (hr : RN B r ε L2 x y ds L3) : EN B (tOp r ta tb) ε L ds L3 := fun F σ H rp Q q =>
  ha F σ H rp _ fun v F1 H1 s1 r1 o1 => hb F1 σ H1 r1 _ fun w F2 H2 s2 r2 o2 => hr F2 σ H2 v w r2 (o1.sub s2) o2 Q fun u F3 H3 s3 hp r3 => q u F3 H3 ((s1.tr s2).tr s3) hp r3
theorem int_inv {K : PySem.W.Frag} {F : Hp} {v : V} {i : Int} (h : (AD.d (.int i)).ok K F v) : v = .int i := by cases h; rfl
theorem bool_inv {K : PySem.W.Frag} {F : Hp} {v : V} {i : Bool} (h : (AD.d (.bool i)).ok K F v) : v = .bl i := by cases h; rfl
theorem rx_I0 {g : Int → Int → V} {d : PyData} {i j : Int} (hd : ∀ K F, Dq K F (g i j) d) : RX B (rI0 g) ε L (.d (.int i)) (.d (.int j)) (.d d) L := fun F σ H v w rp hv hw Q q =>
  ⟨i, j, int_inv hv, int_inv hw, q _ F H (Sub.rfl' F) rp (hd _ _)⟩
theorem rx_I {C : Int → Int → Prop} {g : Int → Int → V} {d : PyData} {i j : Int} (hc : C i j) (hd : ∀ K F, Dq K F (g i j) d) : RX B (rI C g) ε L (.d (.int i)) (.d (.int j)) (.d d) L := fun F σ H v w rp hv hw Q q =>
  ⟨i, j, int_inv hv, int_inv hw, hc, q _ F H (Sub.rfl' F) rp (hd _ _)⟩
variable {i j : Int}
theorem ex_add (ha : EX B ta ε L (.d (.int i)) L1) (hb : EX B tb ε L1 (.d (.int j)) L2) : EX B (tOp (rI0 fun i j => .int (i + j)) ta tb) ε L (.d (.int (i + j))) L2 := ex_op ha hb (rx_I0 fun _ _ => .int _)
theorem ex_sub (ha : EX B ta ε L (.d (.int i)) L1) (hb : EX B tb ε L1 (.d (.int j)) L2) : EX B (tOp (rI0 fun i j => .int (i - j)) ta tb) ε L (.d (.int (i - j))) L2 := ex_op ha hb (rx_I0 fun _ _ => .int _)
theorem ex_mul (ha : EX B ta ε L (.d (.int i)) L1) (hb : EX B tb ε L1 (.d (.int j)) L2) (hc : CMulW i j) : EX B (tOp (rI CMulW fun i j => .int (i * j)) ta tb) ε L (.d (.int (i * j))) L2 := ex_op ha hb (rx_I hc fun _ _ => .int _)
theorem ex_pow (ha : EX B ta ε L (.d (.int i)) L1) (hb : EX B tb ε L1 (.d (.int j)) L2) (hc : CPow i j) : EX B (tOp (rI CPow fun i j => .int (i ^ j.toNat)) ta tb) ε L (.d (.int (i ^ j.toNat))) L2 := ex_op ha hb (rx_I hc fun _ _ => .int _)
theorem ex_mod (ha : EX B ta ε L (.d (.int i)) L1) (hb : EX B tb ε L1 (.d (.int j)) L2) (hc : 0 < j) : EX B (tOp (rI (fun _ j => 0 < j) fun i j => .int (i % j)) ta tb) ε L (.d (.int (i % j))) L2 := ex_op ha hb (rx_I hc fun _ _ => .int _)
theorem ex_fdiv (ha : EX B ta ε L (.d (.int i)) L1) (hb : EX B tb ε L1 (.d (.int j)) L2) (hc : CDivW i j) : EX B (tOp (rI CDivW fun i j => .int (i / j)) ta tb) ε L (.d (.int (i / j))) L2 := ex_op ha hb (rx_I hc fun _ _ => .int _)
theorem ex_lt (ha : EX B ta ε L (.d (.int i)) L1) (hb : EX B tb ε L1 (.d (.int j)) L2) : EX B (tOp (rI0 fun i j => .bl (decide (i < j))) ta tb) ε L (.d (.bool (decide (i < j)))) L2 := ex_op ha hb (rx_I0 fun _ _ => .bl _)
theorem ex_le (ha : EX B ta ε L (.d (.int i)) L1) (hb : EX B tb ε L1 (.d (.int j)) L2) : EX B (tOp (rI0 fun i j => .bl (decide (i ≤ j))) ta tb) ε L (.d (.bool (decide (i ≤ j)))) L2 := ex_op ha hb (rx_I0 fun _ _ => .bl _)
theorem ex_gt (ha : EX B ta ε L (.d (.int i)) L1) (hb : EX B tb ε L1 (.d (.int j)) L2) : EX B (tOp (rI0 fun i j => .bl (decide (j < i))) ta tb) ε L (.d (.bool (decide (j < i)))) L2 := ex_op ha hb (rx_I0 fun _ _ => .bl _)
theorem ex_ge (ha : EX B ta ε L (.d (.int i)) L1) (hb : EX B tb ε L1 (.d (.int j)) L2) : EX B (tOp (rI0 fun i j => .bl (decide (j ≤ i))) ta tb) ε L (.d (.bool (decide (j ≤ i)))) L2 := ex_op ha hb (rx_I0 fun _ _ => .bl _)
theorem ex_eqI (ha : EX B ta ε L (.d (.int i)) L1) (hb : EX B tb ε L1 (.d (.int j)) L2) : EX B (tOp rEq ta tb) ε L (.d (.bool (decide (i = j)))) L2 := ex_op ha hb fun F σ H v w rp hv hw Q q => by
  rw [int_inv hv, int_inv hw]
  refine ⟨rfl, ?_⟩
  have e : decide ((V.int i) = V.int j) = decide (i = j) := by
    by_cases h : i = j
    · subst h; simp
    · rw [decide_eq_false h, decide_eq_false fun z => h (V.int.inj z)]
  rw [e]
  exact q _ F H (Sub.rfl' F) rp (.bl _)
theorem ex_neI (ha : EX B ta ε L (.d (.int i)) L1) (hb : EX B tb ε L1 (.d (.int j)) L2) : EX B (tOp rNe ta tb) ε L (.d (.bool (!decide (i = j)))) L2 := ex_op ha hb fun F σ H v w rp hv hw Q q => by
  rw [int_inv hv, int_inv hw]
  refine ⟨rfl, ?_⟩
  have e : decide ((V.int i) = V.int j) = decide (i = j) := by
    by_cases h : i = j
    · subst h; simp
    · rw [decide_eq_false h, decide_eq_false fun z => h (V.int.inj z)]
  rw [e]
  exact q _ F H (Sub.rfl' F) rp (.bl _)
theorem ex_neS {s t : Str} (ha : EX B ta ε L (.d (.str s)) L1) (hb : EX B tb ε L1 (.d (.str t)) L2) : EX B (tOp rNe ta tb) ε L (.d (.bool (!decide (s = t)))) L2 := ex_op ha hb fun F σ H v w rp hv hw Q q => by
  have e1 : v = .str s := by cases hv; rfl
  have e2 : w = .str t := by cases hw; rfl
  rw [e1, e2]
  refine ⟨rfl, ?_⟩
  have e : decide ((V.str s) = V.str t) = decide (s = t) := by
    by_cases h : s = t
    · subst h; simp
    · rw [decide_eq_false h, decide_eq_false fun z => h (V.str.inj z)]
  rw [e]
  exact q _ F H (Sub.rfl' F) rp (.bl _)
theorem ex_eqS {s t : Str} (ha : EX B ta ε L (.d (.str s)) L1) (hb : EX B tb ε L1 (.d (.str t)) L2) : EX B (tOp rEq ta tb) ε L (.d (.bool (decide (s = t)))) L2 := ex_op ha hb fun F σ H v w rp hv hw Q q => by
  have e1 : v = .str s := by cases hv; rfl
  have e2 : w = .str t := by cases hw; rfl
  rw [e1, e2]
  refine ⟨rfl, ?_⟩
  have e : decide ((V.str s) = V.str t) = decide (s = t) := by
    by_cases h : s = t
    · subst h; simp
    · rw [decide_eq_false h, decide_eq_false fun z => h (V.str.inj z)]
  rw [e]
  exact q _ F H (Sub.rfl' F) rp (.bl _)
/-- == and != of data -/
theorem ex_eqD {d e : PyData} (ha : EX B ta ε L (.d d) L1) (hb : EX B tb ε L1 (.d e) L2) (h1 : SeqAt.shaped d = true) (h2 : SeqAt.shaped e = true) : EX B (tOp (rEqD B.K) ta tb) ε L (.d (.bool (PyData.eqv d e))) L2 := ex_op ha hb fun F σ H v w rp hv hw Q q =>
  ⟨d, e, dq_dp (nodict_shaped h1) (dp_sub rp.sub hv), dq_dp (nodict_shaped h2) (dp_sub rp.sub hw), h1, h2, q _ F H (Sub.rfl' F) rp (.bl _)⟩
theorem ex_neD {d e : PyData} (ha : EX B ta ε L (.d d) L1) (hb : EX B tb ε L1 (.d e) L2) (h1 : SeqAt.shaped d = true) (h2 : SeqAt.shaped e = true) : EX B (tOp (rNeD B.K) ta tb) ε L (.d (.bool (!PyData.eqv d e))) L2 := ex_op ha hb fun F σ H v w rp hv hw Q q =>
  ⟨d, e, dq_dp (nodict_shaped h1) (dp_sub rp.sub hv), dq_dp (nodict_shaped h2) (dp_sub rp.sub hw), h1, h2, q _ F H (Sub.rfl' F) rp (.bl _)⟩
def isNoneD : PyData → Bool
  | .none => true
  | _ => false
theorem ex_isN {d : PyData} (ha : EX B ta ε L (.d d) L1) : EX B (tIsN ta) ε L (.d (.bool (isNoneD d))) L1 := fun F σ H rp Q q =>
  ha F σ H rp _ fun v F1 H1 s1 r1 o1 => by
    have e : decide (v = V.non) = isNoneD d := by
      have o2 : Dq B.K F1 v d := o1
      cases o2 <;> rfl
    show Q (.bl (decide (v = .non))) H1
    rw [e]
    exact q _ F1 H1 s1 r1 (.bl _)
theorem ex_notN {d : PyData} (ha : EX B ta ε L (.d d) L1) : EX B (tNotN ta) ε L (.d (.bool (!isNoneD d))) L1 := fun F σ H rp Q q =>
  ha F σ H rp _ fun v F1 H1 s1 r1 o1 => by
    have e : (!decide (v = V.non)) = (!isNoneD d) := by
      have o2 : Dq B.K F1 v d := o1
      cases o2 <;> rfl
    show Q (.bl (!decide (v = .non))) H1
    rw [e]
    exact q _ F1 H1 s1 r1 (.bl _)
theorem ex_neg (ha : EX B ta ε L (.d (.int i)) L1) : EX B (tUn (rU fun i => .int (-i)) ta) ε L (.d (.int (-i))) L1 := fun F σ H rp Q q =>
  ha F σ H rp _ fun v F1 H1 s1 r1 o1 => ⟨i, int_inv o1, q _ F1 H1 s1 r1 (.int _)⟩
/-- the result said otherwise -/
theorem ex_is {c : AD} (h : EX B te ε L a L1) (e : a = c) : EX B te ε L c L1 := e ▸ h
theorem ex_int {k : Int} (h : EX B te ε L (.d (.int i)) L1) (e : i = k) : EX B te ε L (.d (.int k)) L1 := e ▸ h
theorem ex_boolE {b c : Bool} (h : EX B te ε L (.d (.bool b)) L1) (e : b = c) : EX B te ε L (.d (.bool c)) L1 := e ▸ h
theorem et_is {b c : Bool} (h : ETt B tt ε L b L1) (e : b = c) : ETt B tt ε L c L1 := e ▸ h
/-! #### tests -/
theorem et_test {b : Bool} (h : EX B te ε L (.d (.bool b)) L1) : ETt B (tTest te) ε L b L1 := fun F σ H rp Q q => h F σ H rp _ fun v F1 H1 s1 r1 o1 => ⟨b, bool_inv o1, q F1 H1 s1 r1⟩
theorem et_B {b : Bool} (h : EX B te ε L (.d (.bool b)) L1) : ETt B (tB te) ε L b L1 := fun F σ H rp Q q => h F σ H rp _ fun v F1 H1 s1 r1 o1 => ⟨b, bool_inv o1, q F1 H1 s1 r1⟩
theorem et_and {b c : Bool} (h1 : ETt B tt ε L b L1) (h2 : b = true → ETt B tu ε L1 c L2) (hL : b = false → L1 = L2) : ETt B (tAnd tt tu) ε L (b && c) L2 := fun F σ H rp Q q => h1 F σ H rp _ fun F1 H1 s1 r1 => by
  cases b with
  | true => exact h2 rfl F1 σ H1 r1 Q fun F2 H2 s2 r2 => q F2 H2 (s1.tr s2) r2
  | false => exact q F1 H1 s1 (hL rfl ▸ r1)
theorem et_or {b c : Bool} (h1 : ETt B tt ε L b L1) (h2 : b = false → ETt B tu ε L1 c L2) (hL : b = true → L1 = L2) : ETt B (tOr tt tu) ε L (b || c) L2 := fun F σ H rp Q q => h1 F σ H rp _ fun F1 H1 s1 r1 => by
  cases b with
  | false => exact h2 rfl F1 σ H1 r1 Q fun F2 H2 s2 r2 => q F2 H2 (s1.tr s2) r2
  | true => exact q F1 H1 s1 (hL rfl ▸ r1)
theorem et_not {b : Bool} (h : ETt B tt ε L b L1) : ETt B (tNot tt) ε L (!b) L1 := fun F σ H rp Q q => h F σ H rp _ fun F1 H1 s1 r1 => q F1 H1 s1 r1
theorem ex_notV {b : Bool} (h : EX B te ε L (.d (.bool b)) L1) : EX B (tNotV te) ε L (.d (.bool (!b))) L1 := fun F σ H rp Q q => h F σ H rp _ fun v F1 H1 s1 r1 o1 => ⟨b, bool_inv o1, q _ F1 H1 s1 r1 (.bl _)⟩
theorem ex_andV {b c : Bool} (h1 : EX B ta ε L (.d (.bool b)) L1) (h2 : b = true → EX B tb ε L1 (.d (.bool c)) L2) (hL : b = false → L1 = L2) : EX B (tAndV ta tb) ε L (.d (.bool (b && c))) L2 := fun F σ H rp Q q => h1 F σ H rp _ fun v F1 H1 s1 r1 o1 => ⟨b, bool_inv o1, by
  cases b with
  | true => exact h2 rfl F1 σ H1 r1 Q fun v2 F2 H2 s2 r2 o2 => q v2 F2 H2 (s1.tr s2) r2 o2
  | false => exact q _ F1 H1 s1 (hL rfl ▸ r1) (.bl _)⟩
theorem ex_orV {b c : Bool} (h1 : EX B ta ε L (.d (.bool b)) L1) (h2 : b = false → EX B tb ε L1 (.d (.bool c)) L2) (hL : b = true → L1 = L2) : EX B (tOrV ta tb) ε L (.d (.bool (b || c))) L2 := fun F σ H rp Q q => h1 F σ H rp _ fun v F1 H1 s1 r1 o1 => ⟨b, bool_inv o1, by
  cases b with
  | false => exact h2 rfl F1 σ H1 r1 Q fun v2 F2 H2 s2 r2 o2 => q v2 F2 H2 (s1.tr s2) r2 o2
  | true => exact q _ F1 H1 s1 (hL rfl ▸ r1) (.bl _)⟩
theorem ex_if {b : Bool} (h : ETt B tt ε L b L1) (h1 : b = true → EX B ta ε L1 a L2) (h2 : b = false → EX B tb ε L1 a L2) : EX B (tIf tt ta tb) ε L a L2 := fun F σ H rp Q q => h F σ H rp _ fun F1 H1 s1 r1 => by
  cases b with
  | true => exact h1 rfl F1 σ H1 r1 Q fun v2 F2 H2 s2 r2 o2 => q v2 F2 H2 (s1.tr s2) r2 o2
  | false => exact h2 rfl F1 σ H1 r1 Q fun v2 F2 H2 s2 r2 o2 => q v2 F2 H2 (s1.tr s2) r2 o2
/-- x if c else y, on ints -/
theorem ex_ifI {b : Bool} (h : ETt B tt ε L b L1) (h1 : b = true → EX B ta ε L1 (.d (.int i)) L2) (h2 : b = false → EX B tb ε L1 (.d (.int j)) L2) : EX B (tIf tt ta tb) ε L (.d (.int (if b then i else j))) L2 :=
  ex_if h (fun e => ex_int (h1 e) (by rw [e]; rfl)) (fun e => ex_int (h2 e) (by rw [e]; rfl))
/-! #### arguments, displays -/
theorem ea_nil : EA B tNil ε L [] L := fun F σ H rp Q q => q [] F H (Sub.rfl' F) rp trivial
theorem ea_cons {as : List AD} (h : EX B te ε L a L1) (hr : EA B tr ε L1 as L2) : EA B (tCons te tr) ε L (a :: as) L2 := fun F σ H rp Q q =>
  h F σ H rp _ fun v F1 H1 s1 r1 o1 => hr F1 σ H1 r1 _ fun vs F2 H2 s2 r2 o2 => q _ F2 H2 (s1.tr s2) r2 ⟨o1.sub s2, o2⟩
theorem ad_data {K : PySem.W.Frag} {F : Hp} : ∀ {ds : List PyData} {vs : List V}, AdAll K F (ds.map AD.d) vs → DqAll K F vs ds
  | [], [], _ => .nil
  | _ :: _, _ :: _, h => .cons h.1 (ad_data h.2)
theorem ex_tup {ds : List PyData} (h : EA B tas ε L (ds.map AD.d) L1) (hl : ds.length ≤ 100000) : EX B (tTup tas) ε L (.d (.tuple ds)) L1 := fun F σ H rp Q q =>
  h F σ H rp _ fun vs F1 H1 s1 r1 o1 => by
    have oa := ad_data o1
    refine ⟨Evl.sz_of (by rw [dpa_len oa]; exact hl), fun p hp => ?_⟩
    have hF := sub_none r1.sub hp
    exact q _ _ _ (s1.tr (sub_fresh hF)) (r1.grow hp) (.tup upd_same (dpa_sub (sub_fresh hF) oa))
theorem en_lst {ds : List PyData} (h : EA B tas ε L (ds.map AD.d) L1) (hl : ds.length ≤ 100000) : EN B (tLst tas) ε L ds L1 := fun F σ H rp Q q =>
  h F σ H rp _ fun vs F1 H1 s1 r1 o1 => by
    have oa := ad_data o1
    exact ⟨Evl.sz_of (by rw [dpa_len oa]; exact hl), fun p hp => q p F1 _ s1 (r1.newM hp) (r1.alloc hp rfl ⟨vs, upd_same, oa⟩)⟩
/-- a new list that will not change -/
theorem ex_frz {ds : List PyData} (h : EN B te ε L ds L1) : EX B te ε L (.d (.list ds)) L1 := fun F σ H rp Q q =>
  h F σ H rp _ fun p F1 H1 s1 hp r1 => by
    obtain ⟨vs, h1, h2⟩ := r1.own _ List.mem_cons_self
    have e1 : fps (.lst p ds :: L1) = p :: fps L1 := rfl
    have of := r1.off p (by rw [e1]; exact List.mem_cons_self)
    have nd := r1.nd
    rw [e1] at nd
    have nd' := List.nodup_cons.mp nd
    have sF : Sub F1 (upd F1 p (.lst vs)) := sub_fresh of.1
    have h0p : B.H0 p = none := of.2.resolve_left hp
    refine q _ (upd F1 p (.lst vs)) H1 (s1.tr sF) ⟨fun a o e => ?_, fun m hm => (r1.own m (List.mem_cons_of_mem _ hm)).subF sF, fun x hx => ?_, nd'.2, fun k x e => ?_, r1.len, r1.f0.tr sF, r1.h0, fun a g1 g2 => ?_, fun x hx => ?_⟩ (.lst upd_same (dpa_sub sF h2))
    · by_cases z : a = p
      · subst z; rw [upd_same] at e; cases e; exact h1
      · rw [upd_ne z] at e; exact r1.sub a o e
    · have ne : x ≠ p := fun z => nd'.1 (z ▸ hx)
      have := r1.off x (by rw [e1]; exact List.mem_cons_of_mem _ hx)
      exact ⟨by rw [upd_ne ne]; exact this.1, this.2⟩
    · obtain ⟨s, q1, q2⟩ := r1.sl k x e
      exact ⟨s, q1, q2.sub sF⟩
    · have ne : a ≠ p := fun z => g2 (z ▸ h0p)
      rw [upd_ne ne]; exact r1.nc a g1 g2
    · have := r1.mm x hx
      rw [e1] at this
      rcases List.mem_cons.mp this with z | z
      · exact absurd (z ▸ hx) hp
      · exact z
/-! #### lists and tuples read -/
/-- a list at hand: frozen, or owned -/
inductive IsL (L : Own) : AD → List PyData → Prop
  | d {ds : List PyData} : IsL L (.d (.list ds)) ds
  | o {p : Addr} {ds : List PyData} {k : Nat} (h : L[k]? = some (.lst p ds)) : IsL L (.v (.ref p)) ds
  | r {p : Addr} {ds : List PyData} {k : Nat} (h : L[k]? = some (.seq p ds)) : IsL L (.v (.ref p)) ds
theorem IsL.get {F : Hp} {σ : St} {H : Hp} {v : V} {ds : List PyData} (h : IsL L a ds) (rp : Rep B ε L F σ H) (o : a.ok B.K F v) : ∃ p vs, v = .ref p ∧ SqL B.K H p vs ∧ DqAll B.K F vs ds := by
  cases h with
  | d =>
    have o' : Dq B.K F v (.list ds) := o
    cases o' with
    | lst h1 h2 => exact ⟨_, _, rfl, .inl (.inl (rp.sub _ _ h1)), h2⟩
  | o hk =>
    obtain ⟨vs, h1, h2⟩ := rp.own _ (List.mem_of_getElem? hk)
    exact ⟨_, vs, o, .inl (.inl h1), h2⟩
  | r hk =>
    obtain ⟨vs, h1, h2⟩ := rp.own _ (List.mem_of_getElem? hk)
    exact ⟨_, vs, o, sql_sub rp.sub h1, h2⟩
theorem tup_inv {K : PySem.W.Frag} {F : Hp} {v : V} {ds : List PyData} (h : (AD.d (.tuple ds)).ok K F v) : ∃ p vs, v = .ref p ∧ F p = some (.tup vs) ∧ DqAll K F vs ds := by
  have o' : Dq K F v (.tuple ds) := h
  cases o' with
  | tup h1 h2 => exact ⟨_, _, rfl, h1, h2⟩
theorem ixN_lt {n : Nat} {i : Int} {k : Nat} (h : ixN n i = some k) : k < n := by
  unfold ixN at h
  split at h
  · split at h
    · cases h; omega
    · cases h
  · split at h
    · cases h; omega
    · cases h
theorem atI_dp {K : PySem.W.Frag} {F : Hp} {vs : List V} {ds : List PyData} {d : PyData} (h : DqAll K F vs ds) (e : atI ds i = some d) : ∃ v, atI vs i = some v ∧ Dq K F v d := by
  unfold atI at e ⊢
  rw [dpa_len h]
  cases hx : ixN ds.length i with
  | none => rw [hx] at e; cases e
  | some k =>
    rw [hx] at e
    exact dpa_get h e
theorem ex_ixL {ds : List PyData} {d : PyData} (ha : EX B ta ε L x L1) (hb : EX B tb ε L1 (.d (.int i)) L2) (hx : IsL L2 x ds) (hi : atI ds i = some d) : EX B (tOp (rIxL B.K) ta tb) ε L (.d d) L2 := ex_op ha hb fun F σ H v w rp hv hw Q q => by
  obtain ⟨p, vs, rfl, h1, h2⟩ := hx.get rp hv
  obtain ⟨u, e1, e2⟩ := atI_dp h2 hi
  exact ⟨p, vs, i, u, rfl, int_inv hw, h1, e1, q u F H (Sub.rfl' F) rp e2⟩
theorem ex_ixT {ds : List PyData} {d : PyData} (ha : EX B ta ε L (.d (.tuple ds)) L1) (hb : EX B tb ε L1 (.d (.int i)) L2) (hi : atI ds i = some d) : EX B (tOp (rIxT B.K) ta tb) ε L (.d d) L2 := ex_op ha hb fun F σ H v w rp hv hw Q q => by
  obtain ⟨p, vs, rfl, h1, h2⟩ := tup_inv hv
  obtain ⟨u, e1, e2⟩ := atI_dp h2 hi
  exact ⟨p, vs, i, u, rfl, int_inv hw, tq_sub rp.sub h1, e1, q u F H (Sub.rfl' F) rp e2⟩
theorem eo_n : EO B tNoPart ε L none L := fun F σ H rp Q q => q F H (Sub.rfl' F) rp
theorem eo_s (h : EX B te ε L (.d (.int i)) L1) : EO B (tPart te) ε L (some i) L1 := fun F σ H rp Q q => h F σ H rp _ fun v F1 H1 s1 r1 o1 => ⟨i, int_inv o1, q F1 H1 s1 r1⟩
def cutD (xs : List PyData) (lo hi : Option Int) : List PyData := (xs.drop (HT.sIx xs.length 0 lo)).take (HT.sIx xs.length xs.length hi - HT.sIx xs.length 0 lo)
theorem cut_dp {K : PySem.W.Frag} {F : Hp} {vs : List V} {ds : List PyData} {lo hi : Option Int} (h : DqAll K F vs ds) : DqAll K F (cutV vs lo hi) (cutD ds lo hi) := by
  unfold cutV cutD
  rw [dpa_len h]
  exact dpa_take _ (dpa_drop _ h)
theorem en_slL {tl th : TO} {lo hi : Option Int} {ds : List PyData} (h : EX B te ε L x L1) (h1 : EO B tl ε L1 lo L2) (h2 : EO B th ε L2 hi L3) (hx : IsL L3 x ds) : EN B (tSl (rSlL B.K) te tl th) ε L (cutD ds lo hi) L3 := fun F σ H rp Q q =>
  h F σ H rp _ fun v F1 H1 s1 r1 o1 => h1 F1 σ H1 r1 _ fun F2 H2 s2 r2 => h2 F2 σ H2 r2 _ fun F3 H3 s3 r3 => by
    obtain ⟨p, vs, rfl, g1, g2⟩ := hx.get r3 (o1.sub (s2.tr s3))
    exact ⟨p, vs, rfl, g1, fun p' hp => q p' F3 _ ((s1.tr s2).tr s3) (r3.newM hp) (r3.alloc hp rfl ⟨_, upd_same, cut_dp g2⟩)⟩
theorem ex_slT {tl th : TO} {lo hi : Option Int} {ds : List PyData} (h : EX B te ε L (.d (.tuple ds)) L1) (h1 : EO B tl ε L1 lo L2) (h2 : EO B th ε L2 hi L3) : EX B (tSl (rSlA B.K) te tl th) ε L (.d (.tuple (cutD ds lo hi))) L3 := fun F σ H rp Q q =>
  h F σ H rp _ fun v F1 H1 s1 r1 o1 => h1 F1 σ H1 r1 _ fun F2 H2 s2 r2 => h2 F2 σ H2 r2 _ fun F3 H3 s3 r3 => by
    obtain ⟨p, vs, rfl, g1, g2⟩ := tup_inv (o1.sub (s2.tr s3))
    refine ⟨p, vs, rfl, tq_sub r3.sub g1, fun c => ?_, fun _ p' hp => ?_⟩
    · refine q _ F3 H3 ((s1.tr s2).tr s3) r3 (.tup g1 ?_)
      have e := cut_dp (lo := lo) (hi := hi) g2
      have e2 : cutV vs lo hi = vs := by
        unfold cutV
        rw [c.1, c.2, List.drop_zero, Nat.sub_zero, List.take_length]
      rw [e2] at e
      exact e
    · have hF := sub_none r3.sub hp
      exact q _ _ _ (((s1.tr s2).tr s3).tr (sub_fresh hF)) (r3.grow hp) (.tup upd_same (dpa_sub (sub_fresh hF) (cut_dp g2)))
theorem ex_catT {ds es : List PyData} (ha : EX B ta ε L (.d (.tuple ds)) L1) (hb : EX B tb ε L1 (.d (.tuple es)) L2) (hl : ds.length + es.length ≤ 100000) : EX B (tOp (rCatA B.K) ta tb) ε L (.d (.tuple (ds ++ es))) L2 := ex_op ha hb fun F σ H v w rp hv hw Q q => by
  obtain ⟨p, vs, rfl, g1, g2⟩ := tup_inv hv
  obtain ⟨p', ws, rfl, g3, g4⟩ := tup_inv hw
  have app := dpa_app g2 g4
  refine ⟨p, p', vs, ws, rfl, rfl, tq_sub rp.sub g1, tq_sub rp.sub g3, Evl.sz_of (by rw [dpa_len g2, dpa_len g4]; exact hl), fun e => ?_, fun _ e => ?_, fun _ _ n hn => ?_⟩
  · subst e
    exact q _ F H (Sub.rfl' F) rp (.tup g3 app)
  · subst e
    rw [List.append_nil] at app
    exact q _ F H (Sub.rfl' F) rp (.tup g1 app)
  · have hF := sub_none rp.sub hn
    exact q _ _ _ (sub_fresh hF) (rp.grow hn) (.tup upd_same (dpa_sub (sub_fresh hF) app))
theorem ex_lenL {ds : List PyData} {r : List V → Hp → VK → Prop} (h : EX B te ε L x L1) (hx : IsL L1 x ds) (hr : r = fun xs H Q => ∃ p ys, xs = [.ref p] ∧ (SqL B.K H p ys ∨ SqT B.K H p ys) ∧ Q (.int ys.length) H) :
    EX B (tCB r (tCons te tNil)) ε L (.d (.int (ds.length : Int))) L1 := fun F σ H rp Q q =>
  h F σ H rp _ fun v F1 H1 s1 r1 o1 => by
    obtain ⟨p, vs, rfl, g1, g2⟩ := hx.get r1 o1
    show r [.ref p] H1 Q
    rw [hr]
    refine ⟨p, vs, rfl, .inl g1, ?_⟩
    rw [dpa_len g2]
    exact q _ F1 H1 s1 r1 (.int _)
theorem ex_lenT {ds : List PyData} {r : List V → Hp → VK → Prop} (h : EX B te ε L (.d (.tuple ds)) L1) (hr : r = fun xs H Q => ∃ p ys, xs = [.ref p] ∧ (SqL B.K H p ys ∨ SqT B.K H p ys) ∧ Q (.int ys.length) H) :
    EX B (tCB r (tCons te tNil)) ε L (.d (.int (ds.length : Int))) L1 := fun F σ H rp Q q =>
  h F σ H rp _ fun v F1 H1 s1 r1 o1 => by
    obtain ⟨p, vs, rfl, g1, g2⟩ := tup_inv o1
    show r [.ref p] H1 Q
    rw [hr]
    refine ⟨p, vs, rfl, .inr (tq_sub r1.sub g1), ?_⟩
    rw [dpa_len g2]
    exact q _ F1 H1 s1 r1 (.int _)
end
end Fz

/-! ## Fz2 -/
set_option Elab.async false
set_option linter.all false
set_option maxRecDepth 100000
set_option maxHeartbeats 2000000
set_option autoImplicit false
/-! Fz2: statements, loops, comprehensions, calls. -/
namespace Fz
open PySem L2

section
variable {B : Bg} {ε ε' : Eps} {L L' L0 L1 L2 L3 : Own} {te ta tb : TE} {tt tu : TT} {tas tr : TA} {a b : AD} {D : Ends} {ts tc tw : TS} {g : TG}
/-! ### statements -/
theorem gt_name {j : Nat} : GT B (gName j) a ε (ε.set j (some a)) := fun L F σ H v r o P p => p _ (r.slot o)
theorem x_asg (h : EX B te ε L a L1) (hg : GT B g a ε ε') (k : Ho B D.nx ε' L1) : Ho B (tAsg te g D) ε L := fun F σ H r =>
  h F σ H r _ fun v F1 H1 _ r1 o1 => hg L1 F1 σ H1 v r1 o1 _ fun σ' r2 => k F1 σ' H1 r2
theorem x_set {i : Nat} (h : EX B te ε L a L1) (k : Ho B D.nx (ε.set i (some a)) L1) : Ho B (tAsg te (gName i) D) ε L := x_asg h gt_name k
theorem x_setN {i : Nat} {ds : List PyData} (h : EN B te ε L ds L1) (k : ∀ p, p ∉ B.M → Ho B D.nx (ε.set i (some (.v (.ref p)))) (.lst p ds :: L1)) : Ho B (tAsg te (gName i) D) ε L := fun F σ H r =>
  h F σ H r _ fun p F1 H1 _ hp r1 => k p hp F1 _ H1 (r1.slot (a := .v (.ref p)) rfl)
theorem x_drop (h : EX B te ε L a L1) (k : Ho B D.nx ε L1) : Ho B (tDrop te D) ε L := fun F σ H r => h F σ H r _ fun v F1 H1 _ r1 o1 => k F1 σ H1 r1
theorem x_seq (h : Ho B (ts { D with nx := tc D }) ε L) : Ho B (tSeq ts tc D) ε L := h
/-- a statement, then the rest from what M says -/
theorem x_cut {M : Eps → Own → Prop} (h : Ho B (ts { D with nx := AbsP B M }) ε L) (k : ∀ ε' L', M ε' L' → Ho B (tc D) ε' L') : Ho B (Evl.tCut ts tc D) ε L := fun F σ H r =>
  ⟨AbsP B M, h F σ H r, fun σ' H' ⟨ε', L', F', hm, r'⟩ => k ε' L' hm F' σ' H' r'⟩
theorem x_next (h : Ho B D.nx ε L) : Ho B (tNext D) ε L := h
theorem x_cont (h : Ho B D.ct ε L) : Ho B (tCont D) ε L := h
theorem x_break (h : Ho B D.bk ε L) : Ho B (tBreak D) ε L := h
theorem x_if {b : Bool} (h : ETt B tt ε L b L1) (h1 : b = true → Ho B (ts D) ε L1) (h2 : b = false → Ho B (tw D) ε L1) : Ho B (tIfS tt ts tw D) ε L := fun F σ H r =>
  h F σ H r _ fun F1 H1 _ r1 => by
    cases b with
    | true => exact h1 rfl F1 σ H1 r1
    | false => exact h2 rfl F1 σ H1 r1
theorem x_ret {d : PyData} (h : EX B te ε L (.d d) L1) (k : ∀ v F σ H, Rep B ε L1 F σ H → Dq B.K F v d → D.rt v H) : Ho B (tRet te D) ε L := fun F σ H r =>
  h F σ H r _ fun v F1 H1 _ r1 o1 => k v F1 σ H1 r1 o1
theorem x_retV {v : V} (h : EX B te ε L (.v v) L1) (k : ∀ F σ H, Rep B ε L1 F σ H → D.rt v H) : Ho B (tRet te D) ε L := fun F σ H r =>
  h F σ H r _ fun w F1 H1 _ r1 o1 => by
    have e : w = v := o1
    rw [e]; exact k F1 σ H1 r1
theorem x_par {i j : Nat} {a b : AD} (h : EA B tas ε L [a, b] L1) (k : Ho B D.nx ((ε.set i (some a)).set j (some b)) L1) : Ho B (tPar i j tas D) ε L := fun F σ H r =>
  h F σ H r _ fun vs F1 H1 _ r1 o1 => by
    match vs, o1 with
    | [v, w], o => exact ⟨v, w, rfl, k F1 _ H1 ((r1.slot o.1).slot o.2.1)⟩
/-- what is wanted holds from what is known, junk forgotten -/
theorem x_abs {I : Eps → Own → Prop} (h : I ε' L) (w : Wk ε ε') : Ho B (AbsP B I) ε L := fun F σ H r => ⟨ε', L, F, h, r.wk w⟩
theorem ho_wk {P : St → Hp → Prop} (h : Ho B P ε' L) (w : Wk ε ε') : Ho B P ε L := fun F σ H r => h F σ H (r.wk w)
theorem ho_abs {P : St → Hp → Prop} {I : Eps → Own → Prop} (h : ∀ ε L, I ε L → Ho B P ε L) {σ : St} {H : Hp} (x : AbsP B I σ H) : P σ H :=
  let ⟨ε, L, F, i, r⟩ := x
  h ε L i F σ H r
/-- an owned thing, or a thing known, given up -/
theorem ho_drop {P : St → Hp → Prop} {k : Nat} {m : MO} (h : Ho B P ε (L.eraseIdx k)) (hk : L[k]? = some m) (hM : ∀ p ∈ m.fp, p ∉ B.M) : Ho B P ε L := fun F σ H r => h F σ H (r.drop hk hM)

/-! ### targets that are tuples -/
theorem gt_tup2 {i j : Nat} {d e : PyData} : GT B (gTup B.K 2 (gCons (gName i) (gCons (gName j) gNil))) (.d (.tuple [d, e])) ε ((ε.set i (some (.d d))).set j (some (.d e))) := fun L F σ H v r o P p => by
  obtain ⟨q, vs, rfl, h1, h2⟩ := tup_inv o
  cases h2 with
  | cons a t =>
    cases t with
    | cons b t =>
      cases t
      exact ⟨q, _, rfl, tq_sub r.sub h1, rfl, _, _, rfl, _, _, rfl, rfl, p _ ((r.slot (a := .d d) a).slot (a := .d e) b)⟩
theorem gt_tup3 {i j k : Nat} {d e f : PyData} : GT B (gTup B.K 3 (gCons (gName i) (gCons (gName j) (gCons (gName k) gNil)))) (.d (.tuple [d, e, f])) ε (((ε.set i (some (.d d))).set j (some (.d e))).set k (some (.d f))) := fun L F σ H v r o P p => by
  obtain ⟨q, vs, rfl, h1, h2⟩ := tup_inv o
  cases h2 with
  | cons a t =>
    cases t with
    | cons b t =>
      cases t with
      | cons c t =>
        cases t
        exact ⟨q, _, rfl, tq_sub r.sub h1, rfl, _, _, rfl, _, _, rfl, _, _, rfl, rfl, p _ (((r.slot (a := .d d) a).slot (a := .d e) b).slot (a := .d f) c)⟩

/-! ### loops -/
theorem x_forR1 {j : Nat} {n : Int} (h : EA B tas ε L [.d (.int n)] L1) (hn : -(2 ^ 62) ≤ n ∧ n < 2 ^ 62) (I : Nat → Eps → Own → Prop) (h0 : I 0 ε L1)
    (hs : ∀ (i : Nat) ε' L', (i : Int) < n → I i ε' L' → Ho B (tc { D with nx := AbsP B (I (i + 1)), ct := AbsP B (I (i + 1)), bk := D.nx }) (ε'.set j (some (.d (.int (i : Int))))) L')
    (hd : ∀ ε' L', I n.toNat ε' L' → Ho B D.nx ε' L') : Ho B (tFor (iRng1 tas) (gName j) tc D) ε L := fun F σ H r =>
  h F σ H r _ fun vs F1 H1 _ r1 o1 => by
    match vs, o1 with
    | [v], o =>
      have ev : v = .int n := int_inv o.1
      subst ev
      refine ⟨n, rfl, hn.1, hn.2, for_range (lo := 0) (n := n.toNat) (fun i => AbsP B (I i)) ⟨ε, L1, F1, h0, r1⟩ (fun i σ' H' hi p => ?_) fun σ' H' p => ho_abs hd p⟩
      obtain ⟨ε', L', F', hI, r'⟩ := p
      have e0 : (0 : Int) + (i : Int) = (i : Int) := Int.zero_add _
      show tc _ (σ'.set j (some (.int ((0 : Int) + (i : Int))))) H'
      rw [e0]
      exact hs i ε' L' (by omega) hI F' _ H' (r'.slot (a := .d (.int (i : Int))) (.int _))
theorem x_forR2 {j : Nat} {lo n : Int} (h : EA B tas ε L [.d (.int lo), .d (.int n)] L1) (hn : (-(2 ^ 62) ≤ lo ∧ lo < 2 ^ 62) ∧ -(2 ^ 62) ≤ n ∧ n < 2 ^ 62) (I : Nat → Eps → Own → Prop) (h0 : I 0 ε L1)
    (hs : ∀ (i : Nat) ε' L', lo + (i : Int) < n → I i ε' L' → Ho B (tc { D with nx := AbsP B (I (i + 1)), ct := AbsP B (I (i + 1)), bk := D.nx }) (ε'.set j (some (.d (.int (lo + (i : Int)))))) L')
    (hd : ∀ ε' L', I (n - lo).toNat ε' L' → Ho B D.nx ε' L') : Ho B (tFor (iRng2 tas) (gName j) tc D) ε L := fun F σ H r =>
  h F σ H r _ fun vs F1 H1 _ r1 o1 => by
    match vs, o1 with
    | [v, w], o =>
      have ev : v = .int lo := int_inv o.1
      have ew : w = .int n := int_inv o.2.1
      subst ev ew
      refine ⟨lo, n, rfl, ⟨hn.1.1, hn.1.2, hn.2.1, hn.2.2⟩, for_range (lo := lo) (n := (n - lo).toNat) (fun i => AbsP B (I i)) ⟨ε, L1, F1, h0, r1⟩ (fun i σ' H' hi p => ?_) fun σ' H' p => ho_abs hd p⟩
      obtain ⟨ε', L', F', hI, r'⟩ := p
      exact hs i ε' L' (by omega) hI F' _ H' (r'.slot (a := .d (.int (lo + (i : Int)))) (.int _))
/-- over a frozen list -/
theorem x_forL {ds : List PyData} (h : EX B te ε L (.d (.list ds)) L1) (I : V → Nat → Eps → Own → Prop) (h0 : ∀ v, I v 0 ε (L1 ++ [.know v (.list ds)])) (hl : ∀ v i ε' L', I v i ε' L' → MO.know v (.list ds) ∈ L')
    (hs : ∀ v i d ε' L', ds[i]? = some d → I v i ε' L' → ∃ ε'', GT B g (.d d) ε' ε'' ∧ Ho B (tc { D with nx := AbsP B (I v (i + 1)), ct := AbsP B (I v (i + 1)), bk := D.nx }) ε'' L')
    (hd : ∀ v ε' L', I v ds.length ε' L' → Ho B D.nx ε' L') : Ho B (tFor (iList B.K te) g tc D) ε L := fun F σ H r =>
  h F σ H r _ fun v F1 H1 _ r1 o1 => by
    have o' : Dq B.K F1 v (.list ds) := o1
    have r2 := r1.learn o'
    cases o' with
    | @lst p vs _ q1 q2 =>
      have back : ∀ {i : Nat} {ε' : Eps} {L' : Own} {F' : Hp} {σ' : St} {H' : Hp}, I (.ref p) i ε' L' → Rep B ε' L' F' σ' H' → ∃ ws, SqL B.K H' p ws ∧ DqAll B.K F' ws ds := fun hI r' => by
        have k : Dq B.K _ (.ref p) (.list ds) := r'.own _ (hl _ _ _ _ hI)
        cases k with
        | lst k1 k2 => exact ⟨_, .inl (.inl (r'.sub _ _ k1)), k2⟩
      refine ⟨p, rfl, ⟨vs, .inl (.inl (r1.sub _ _ q1))⟩, ⟨fun i m σ' H' => m = ds.length - i ∧ i ≤ ds.length ∧ AbsP B (I (.ref p) i) σ' H', ⟨_, rfl, Nat.zero_le _, ε, _, F1, h0 _, r2⟩, ?_⟩⟩
      rintro i m σ' H' ⟨rfl, hi, ε', L', F', hI, r'⟩
      obtain ⟨ws, k1, k2⟩ := back hI r'
      by_cases hlt : i < ds.length
      · obtain ⟨d, hdi⟩ : ∃ d, ds[i]? = some d := ⟨_, List.getElem?_eq_getElem hlt⟩
        obtain ⟨w, e1, e2⟩ := dpa_get k2 hdi
        obtain ⟨ε'', hg, hb⟩ := hs _ i d ε' L' hdi hI
        refine .inr ⟨⟨ws, w, k1, e1⟩, AbsP B (I (.ref p) (i + 1)), fun σ2 H2 hN => ⟨ds.length - (i + 1), by omega, rfl, hlt, hN⟩, fun x H2 hy => ?_⟩
        obtain ⟨rfl, hx⟩ := hy
        have ex : x = w := Option.some.inj ((hx ws k1).symm.trans e1)
        subst ex
        exact hg L' F' σ' _ x r' e2 _ fun σ3 r3 => hb F' σ3 _ r3
      · have ei : i = ds.length := by omega
        subst ei
        exact .inl ⟨⟨ws, k1, by rw [dpa_len k2]; exact Nat.le_refl _⟩, hd _ _ _ hI F' σ' H' r'⟩
/-- over an owned list that the loop leaves -/
theorem x_forO {p : Addr} {ds : List PyData} (h : EX B te ε L (.v (.ref p)) L1) (I : Nat → Eps → Own → Prop) (h0 : I 0 ε L1) (hl : ∀ i ε' L', I i ε' L' → MO.lst p ds ∈ L')
    (hs : ∀ i d ε' L', ds[i]? = some d → I i ε' L' → ∃ ε'', GT B g (.d d) ε' ε'' ∧ Ho B (tc { D with nx := AbsP B (I (i + 1)), ct := AbsP B (I (i + 1)), bk := D.nx }) ε'' L')
    (hd : ∀ ε' L', I ds.length ε' L' → Ho B D.nx ε' L') : Ho B (tFor (iList B.K te) g tc D) ε L := fun F σ H r =>
  h F σ H r _ fun v F1 H1 _ r1 o1 => by
    have ev : v = .ref p := o1
    subst ev
    have back : ∀ {i : Nat} {ε' : Eps} {L' : Own} {F' : Hp} {σ' : St} {H' : Hp}, I i ε' L' → Rep B ε' L' F' σ' H' → ∃ ws, SqL B.K H' p ws ∧ DqAll B.K F' ws ds := fun hI r' => by
      obtain ⟨ws, k1, k2⟩ := r'.own _ (hl _ _ _ hI)
      exact ⟨ws, .inl (.inl k1), k2⟩
    obtain ⟨vs, q1, q2⟩ := back h0 r1
    refine ⟨p, rfl, ⟨vs, q1⟩, ⟨fun i m σ' H' => m = ds.length - i ∧ i ≤ ds.length ∧ AbsP B (I i) σ' H', ⟨_, rfl, Nat.zero_le _, ε, _, F1, h0, r1⟩, ?_⟩⟩
    rintro i m σ' H' ⟨rfl, hi, ε', L', F', hI, r'⟩
    obtain ⟨ws, k1, k2⟩ := back hI r'
    by_cases hlt : i < ds.length
    · obtain ⟨d, hdi⟩ : ∃ d, ds[i]? = some d := ⟨_, List.getElem?_eq_getElem hlt⟩
      obtain ⟨w, e1, e2⟩ := dpa_get k2 hdi
      obtain ⟨ε'', hg, hb⟩ := hs i d ε' L' hdi hI
      refine .inr ⟨⟨ws, w, k1, e1⟩, AbsP B (I (i + 1)), fun σ2 H2 hN => ⟨ds.length - (i + 1), by omega, rfl, hlt, hN⟩, fun x H2 hy => ?_⟩
      obtain ⟨rfl, hx⟩ := hy
      have ex : x = w := Option.some.inj ((hx ws k1).symm.trans e1)
      subst ex
      exact hg L' F' σ' _ x r' e2 _ fun σ3 r3 => hb F' σ3 _ r3
    · have ei : i = ds.length := by omega
      subst ei
      exact .inl ⟨⟨ws, k1, by rw [dpa_len k2]; exact Nat.le_refl _⟩, hd _ _ hI F' σ' H' r'⟩
/-- over a tuple -/
theorem x_forT {ds : List PyData} (h : EX B te ε L (.d (.tuple ds)) L1) (I : V → Nat → Eps → Own → Prop) (h0 : ∀ v, I v 0 ε (L1 ++ [.know v (.tuple ds)])) (hl : ∀ v i ε' L', I v i ε' L' → MO.know v (.tuple ds) ∈ L')
    (hs : ∀ v i d ε' L', ds[i]? = some d → I v i ε' L' → ∃ ε'', GT B g (.d d) ε' ε'' ∧ Ho B (tc { D with nx := AbsP B (I v (i + 1)), ct := AbsP B (I v (i + 1)), bk := D.nx }) ε'' L')
    (hd : ∀ v ε' L', I v ds.length ε' L' → Ho B D.nx ε' L') : Ho B (tFor (iTup B.K te) g tc D) ε L := fun F σ H r =>
  h F σ H r _ fun v F1 H1 _ r1 o1 => by
    have o' : Dq B.K F1 v (.tuple ds) := o1
    have r2 := r1.learn o'
    cases o' with
    | @tup p vs _ q1 q2 =>
      have back : ∀ {i : Nat} {ε' : Eps} {L' : Own} {F' : Hp} {σ' : St} {H' : Hp}, I (.ref p) i ε' L' → Rep B ε' L' F' σ' H' → ∃ ws, SqT B.K H' p ws ∧ DqAll B.K F' ws ds := fun hI r' => by
        have k : Dq B.K _ (.ref p) (.tuple ds) := r'.own _ (hl _ _ _ _ hI)
        cases k with
        | tup k1 k2 => exact ⟨_, tq_sub r'.sub k1, k2⟩
      refine ⟨p, rfl, ⟨vs, tq_sub r1.sub q1⟩, ⟨fun i m σ' H' => m = ds.length - i ∧ i ≤ ds.length ∧ AbsP B (I (.ref p) i) σ' H', ⟨_, rfl, Nat.zero_le _, ε, _, F1, h0 _, r2⟩, ?_⟩⟩
      rintro i m σ' H' ⟨rfl, hi, ε', L', F', hI, r'⟩
      obtain ⟨ws, k1, k2⟩ := back hI r'
      by_cases hlt : i < ds.length
      · obtain ⟨d, hdi⟩ : ∃ d, ds[i]? = some d := ⟨_, List.getElem?_eq_getElem hlt⟩
        obtain ⟨w, e1, e2⟩ := dpa_get k2 hdi
        obtain ⟨ε'', hg, hb⟩ := hs _ i d ε' L' hdi hI
        refine .inr ⟨⟨ws, w, k1, e1⟩, AbsP B (I (.ref p) (i + 1)), fun σ2 H2 hN => ⟨ds.length - (i + 1), by omega, rfl, hlt, hN⟩, fun x H2 hy => ?_⟩
        obtain ⟨rfl, hx⟩ := hy
        have ex : x = w := Option.some.inj ((hx ws k1).symm.trans e1)
        subst ex
        exact hg L' F' σ' _ x r' e2 _ fun σ3 r3 => hb F' σ3 _ r3
      · have ei : i = ds.length := by omega
        subst ei
        exact .inl ⟨⟨ws, k1, by rw [dpa_len k2]; exact Nat.le_refl _⟩, hd _ _ _ hI F' σ' H' r'⟩
/-- over enumerate of a frozen list -/
theorem x_forE {ds : List PyData} (h : EA B tas ε L [.d (.list ds)] L1) (I : V → Nat → Eps → Own → Prop) (h0 : ∀ v, I v 0 ε (L1 ++ [.know v (.list ds)])) (hl : ∀ v i ε' L', I v i ε' L' → MO.know v (.list ds) ∈ L')
    (hs : ∀ v i d ε' L', ds[i]? = some d → I v i ε' L' → ∃ ε'', GT B g (.d (.tuple [.int (i : Int), d])) ε' ε'' ∧ Ho B (tc { D with nx := AbsP B (I v (i + 1)), ct := AbsP B (I v (i + 1)), bk := D.nx }) ε'' L')
    (hd : ∀ v ε' L', I v ds.length ε' L' → Ho B D.nx ε' L') : Ho B (tFor (iEnum B.K tas) g tc D) ε L := fun F σ H r =>
  h F σ H r _ fun vs0 F1 H1 _ r1 o1 => by
    match vs0, o1 with
    | [v], o =>
    have o' : Dq B.K F1 v (.list ds) := o.1
    have r2 := r1.learn o'
    cases o' with
    | @lst p vs _ q1 q2 =>
      have back : ∀ {i : Nat} {ε' : Eps} {L' : Own} {F' : Hp} {σ' : St} {H' : Hp}, I (.ref p) i ε' L' → Rep B ε' L' F' σ' H' → ∃ ws, SqL B.K H' p ws ∧ DqAll B.K F' ws ds := fun hI r' => by
        have k : Dq B.K _ (.ref p) (.list ds) := r'.own _ (hl _ _ _ _ hI)
        cases k with
        | lst k1 k2 => exact ⟨_, .inl (.inl (r'.sub _ _ k1)), k2⟩
      refine ⟨p, vs, rfl, .inl (.inl (r1.sub _ _ q1)), ⟨fun i m σ' H' => m = ds.length - i ∧ i ≤ ds.length ∧ AbsP B (I (.ref p) i) σ' H', ⟨_, rfl, Nat.zero_le _, ε, _, F1, h0 _, r2⟩, ?_⟩⟩
      rintro i m σ' H' ⟨rfl, hi, ε', L', F', hI, r'⟩
      obtain ⟨ws, k1, k2⟩ := back hI r'
      by_cases hlt : i < ds.length
      · obtain ⟨d, hdi⟩ : ∃ d, ds[i]? = some d := ⟨_, List.getElem?_eq_getElem hlt⟩
        obtain ⟨w, e1, e2⟩ := dpa_get k2 hdi
        obtain ⟨ε'', hg, hb⟩ := hs _ i d ε' L' hdi hI
        refine .inr ⟨⟨ws, w, k1, e1⟩, AbsP B (I (.ref p) (i + 1)), fun σ2 H2 hN => ⟨ds.length - (i + 1), by omega, rfl, hlt, hN⟩, fun x H2 hy => ?_⟩
        obtain ⟨T, y, rfl, hT, rfl, hx⟩ := hy
        have ex : y = w := Option.some.inj ((hx ws k1).symm.trans e1)
        subst ex
        have hF := sub_none r'.sub hT
        exact hg L' _ σ' _ _ (r'.grow hT) (.tup upd_same (.cons (.int _) (.cons (dp_sub (sub_fresh hF) e2) .nil))) _ fun σ3 r3 => hb _ σ3 _ r3
      · have ei : i = ds.length := by omega
        subst ei
        exact .inl ⟨⟨ws, k1, by rw [dpa_len k2]; exact Nat.le_refl _⟩, hd _ _ _ hI F' σ' H' r'⟩
theorem x_while (I : Nat → Eps → Own → Prop) {m0 : Nat} (h0 : I m0 ε L)
    (hs : ∀ m ε' L', I m ε' L' → ∃ b L'', ETt B tt ε' L' b L'' ∧ (b = true → Ho B (tc { D with nx := AbsP B (fun ε L => ∃ m', m' < m ∧ I m' ε L), ct := AbsP B (fun ε L => ∃ m', m' < m ∧ I m' ε L), bk := D.nx }) ε' L'') ∧ (b = false → Ho B D.nx ε' L'')) :
    Ho B (tWhile tt tc D) ε L := fun F σ H r => by
  refine ⟨fun m => AbsP B (I m), ⟨m0, ε, L, F, h0, r⟩, ?_⟩
  rintro m σ' H' ⟨ε', L', F', hI, r'⟩
  obtain ⟨b, L'', ht, h1, h2⟩ := hs m ε' L' hI
  refine ht F' σ' H' r' _ fun F2 H2 _ r2 => ?_
  cases b with
  | true =>
    refine ⟨AbsP B (fun ε L => ∃ m', m' < m ∧ I m' ε L), fun σ3 H3 ⟨ε3, L3, F3, ⟨m', hm, hI'⟩, r3⟩ => ⟨m', hm, ε3, L3, F3, hI', r3⟩, ?_⟩
    exact h1 rfl F2 σ' H2 r2
  | false => exact h2 rfl F2 σ' H2 r2
end

/-! ### comprehensions -/
def wipeE (ε : Eps) : List Nat → Eps
  | [] => ε
  | v :: vs => (wipeE ε vs).set v none
section
variable {B : Bg} {ε ε' : Eps} {L L' L0 L1 L2 L3 : Own} {F : Hp} {σ : St} {H : Hp}
theorem Rep.forget (r : Rep B ε L F σ H) {i : Nat} : Rep B (ε.set i none) L F (σ.set i none) H := by
  refine ⟨r.sub, r.own, r.off, r.nd, fun j x e => ?_, by rw [List.length_set, List.length_set]; exact r.len, r.f0, r.h0, r.nc, r.mm⟩
  rw [List.getElem?_set] at e
  rw [List.getElem?_set, r.len]
  split at e
  · rename_i ij
    subst ij
    split at e
    · rename_i il
      cases e
      rw [if_pos rfl, if_pos il]
      exact ⟨_, rfl, trivial⟩
    · cases e
  · rename_i ij
    rw [if_neg ij]
    exact r.sl j x e
theorem Rep.wipe (r : Rep B ε L F σ H) : ∀ vs : List Nat, Rep B (wipeE ε vs) L F (_root_.L2.wipe σ vs) H
  | [] => r
  | _ :: vs => (r.wipe vs).forget
/-- the slots as they were, the heap as it is -/
theorem Rep.reslot {σ' : St} {ε0 : Eps} {L0 : Own} {F0 H0 : Hp} (r : Rep B ε L F σ H) (r0 : Rep B ε0 L0 F0 σ' H0) (s : Sub F0 F) : Rep B ε0 L F σ' H :=
  ⟨r.sub, r.own, r.off, r.nd, fun i x e => let ⟨y, a, b⟩ := r0.sl i x e; ⟨y, a, b.sub s⟩, r0.len, r.f0, r.h0, r.nc, r.mm⟩
theorem fps_rot (m : MO) (L : Own) : (fps (L ++ [m])).Perm (fps (m :: L)) := by
  have e : fps (L ++ [m]) = fps L ++ m.fp := by unfold fps; rw [List.flatMap_append]; show _ ++ (m.fp ++ []) = _; rw [List.append_nil]
  rw [e]
  exact List.perm_append_comm
theorem Rep.perm (r : Rep B ε L F σ H) (h1 : ∀ m, m ∈ L' → m ∈ L) (h2 : (fps L).Perm (fps L')) : Rep B ε L' F σ H :=
  ⟨r.sub, fun m hm => r.own m (h1 m hm), fun p hp => r.off p (h2.mem_iff.mpr hp), h2.nodup r.nd, r.sl, r.len, r.f0, r.h0, r.nc, fun p hp => h2.mem_iff.mp (r.mm p hp)⟩
theorem Rep.toEnd {m : MO} (r : Rep B ε (m :: L) F σ H) : Rep B ε (L ++ [m]) F σ H := r.perm (fun x hx => by
  rcases List.mem_append.mp hx with h | h
  · exact List.mem_cons_of_mem _ h
  · rw [List.mem_singleton.mp h]; exact List.mem_cons_self) (fps_rot m L).symm
theorem Rep.toHead {m : MO} (r : Rep B ε (L ++ [m]) F σ H) : Rep B ε (m :: L) F σ H := r.perm (fun x hx => by
  rcases List.mem_cons.mp hx with h | h
  · rw [h]; exact List.mem_append_right _ List.mem_cons_self
  · exact List.mem_append_left _ h) (fps_rot m L)
end
end Fz

/-! ## Fz3 -/
set_option Elab.async false
set_option linter.all false
set_option maxRecDepth 100000
set_option maxHeartbeats 2000000
set_option autoImplicit false
/-! Fz3: comprehensions, calls, methods of lists, built-ins. -/
namespace Fz
open PySem L2

section
variable {B : Bg} {ε ε' : Eps} {L L' La Lb Lc Ld : Own} {te ta tb tl : TE} {tt tu : TT} {tas tr : TA} {a b x : AD} {D : Ends} {ts tc tw : TS} {g : TG} {vs : List Nat}
/-! ### comprehensions: I says what is gathered behind i items, and what is owned then -/
def CW (B : Bg) (ε : Eps) (vs : List Nat) (F1 : Hp) (σ : St) (I : Nat → List PyData → Own → Prop) (Dl : Addr) (i : Nat) (H : Hp) : Prop :=
  ∃ acc L F, Sub F1 F ∧ I i acc L ∧ Rep B (wipeE ε vs) (L ++ [.lst Dl acc]) F (wipe σ vs) H
/-- one turn of a comprehension, said of data -/
def CTurn (B : Bg) (g : TG) (tt : TT) (te : TE) (ε : Eps) (vs : List Nat) (I : Nat → List PyData → Own → Prop) (i : Nat) (d : PyData) : Prop :=
  ∀ acc L', I i acc L' → acc.length < 100000 ∧ ∃ ε2, GT B g (.d d) (wipeE ε vs) ε2 ∧ ∃ b L2, (∀ m, ETt B tt ε2 (L' ++ [m]) b (L2 ++ [m])) ∧ (b = true → ∃ e L3, (∀ m, EX B te ε2 (L2 ++ [m]) (.d e) (L3 ++ [m])) ∧ I (i + 1) (acc ++ [e]) L3) ∧ (b = false → I (i + 1) acc L2)
theorem get_last {L : Own} {m : MO} : (L ++ [m])[L.length]? = some m := by rw [List.getElem?_append_right (Nat.le_refl _), Nat.sub_self]; rfl
theorem set_last {L : Own} {m n : MO} : (L ++ [m]).set L.length n = L ++ [n] := by rw [List.set_append_right _ _ (Nat.le_refl _), Nat.sub_self]; rfl
theorem cturn_go {F1 : Hp} {σ : St} {I : Nat → List PyData → Own → Prop} {Dl : Addr} {i : Nat} {H : Hp} {d : PyData} {w : V} (hw : ∀ v σ H P, (g v (wipe σ vs) H P ↔ g v (wipe σ vs) H fun σ2 H2 => wipe σ2 vs = wipe σ vs ∧ P σ2 H2))
    (ct : CTurn B g tt te ε vs I i d) (c : CW B ε vs F1 σ I Dl i H) (hd : ∀ F acc L, Sub F1 F → Rep B (wipeE ε vs) (L ++ [.lst Dl acc]) F (wipe σ vs) H → Dq B.K F w d) :
    g w (wipe σ vs) H fun σ2 H2 => wipe σ2 vs = wipe σ vs ∧ tt σ2 H2 fun b H3 =>
      if b = true then te σ2 H3 fun y H4 => ∃ acc, H4 Dl = some (.lst acc) ∧ acc.length < sizeLine ∧ CW B ε vs F1 σ I Dl (i + 1) (upd H4 Dl (.lst (acc ++ [y]))) else CW B ε vs F1 σ I Dl (i + 1) H3 := by
  obtain ⟨acc, L', F, s, hI, r⟩ := c
  obtain ⟨hz, ε2, hg, b, L2, h1, h2, h3⟩ := ct acc L' hI
  refine (hw w σ H _).mp (hg _ F _ H w r (hd F acc L' s r) _ fun σ2 r2 => ?_)
  refine h1 _ F σ2 H r2 _ fun F3 H3 s3 r3 => ?_
  cases b with
  | true =>
    obtain ⟨e, L3, h4, h5⟩ := h2 rfl
    show te σ2 H3 _
    refine h4 _ F3 σ2 H3 r3 _ fun y F4 H4 s4 r4 o4 => ?_
    obtain ⟨ws, k1, k2⟩ := r4.own _ (List.mem_append_right _ List.mem_cons_self)
    have hz2 : ws.length < sizeLine := by rw [dpa_len k2]; exact Evl.sz_lt hz
    refine ⟨ws, k1, hz2, acc ++ [e], L3, F4, (s.tr s3).tr s4, h5, ?_⟩
    have r5 : Rep B (wipeE ε vs) (L3 ++ [.lst Dl acc]) F4 (wipe σ vs) H4 := r4.reslot r ((s3).tr s4)
    have r6 := r5.chg (m' := .lst Dl (acc ++ [e])) (H' := upd H4 Dl (.lst (ws ++ [y]))) get_last rfl ⟨_, upd_same, dpa_app k2 (.cons o4 .nil)⟩ fun q o hq e => by
      rw [upd_ne (fun z => hq (by rw [z]; exact List.mem_cons_self))]; exact e
    rw [set_last] at r6
    exact r6
  | false =>
    exact ⟨acc, L2, F3, s.tr s3, h3 rfl, r3.reslot r s3⟩
/-- targets that store in slots of the comprehension alone -/
theorem gw_name {j : Nat} (hj : j ∈ vs) : ∀ (v : V) (σ : St) (H : Hp) (P : St → Hp → Prop), (gName j v (wipe σ vs) H P ↔ gName j v (wipe σ vs) H fun σ2 H2 => wipe σ2 vs = wipe σ vs ∧ P σ2 H2) := fun v σ H P => by
  have key : ∀ (vs : List Nat), j ∈ vs → ∀ (σ : St) x, wipe (σ.set j x) vs = wipe σ vs := by
    intro vs
    induction vs with
    | nil => intro h; simp at h
    | cons k ks ih =>
      intro h σ x
      show (wipe (σ.set j x) ks).set k none = (wipe σ ks).set k none
      by_cases hk : j ∈ ks
      · rw [ih hk]
      · have ejk : j = k := by
          rcases List.mem_cons.mp h with e | e
          · exact e
          · exact absurd e hk
        subst ejk
        have push : ∀ (ks : List Nat) (σ : St), j ∉ ks → wipe (σ.set j x) ks = (wipe σ ks).set j x := by
          intro ks
          induction ks with
          | nil => intro σ _; rfl
          | cons l ls ih2 =>
            intro σ hn
            show (wipe (σ.set j x) ls).set l none = ((wipe σ ls).set l none).set j x
            rw [ih2 σ fun z => hn (List.mem_cons_of_mem _ z)]
            exact List.set_comm _ _ fun z => hn (z ▸ List.mem_cons_self)
        rw [push ks σ hk, List.set_set]
  have w2 : ∀ (vs : List Nat) (σ : St), wipe (wipe σ vs) vs = wipe σ vs := by
    intro vs
    have aux : ∀ (ks ls : List Nat) (σ : St), (∀ k ∈ ks, k ∈ ls) → wipe (wipe σ ls) ks = wipe σ ls := by
      intro ks
      induction ks with
      | nil => intro ls σ _; rfl
      | cons k ks ih =>
        intro ls σ h
        show (wipe (wipe σ ls) ks).set k none = wipe σ ls
        rw [ih ls σ fun z hz => h z (List.mem_cons_of_mem _ hz)]
        have hk := h k List.mem_cons_self
        clear ih h
        induction ls with
        | nil => simp at hk
        | cons l ls ih =>
          show ((wipe σ ls).set l none).set k none = (wipe σ ls).set l none
          by_cases e : l = k
          · subst e; rw [List.set_set]
          · rw [List.set_comm _ _ e]
            rcases List.mem_cons.mp hk with z | z
            · exact absurd z.symm e
            · rw [ih z]
    intro σ
    exact aux vs vs σ fun _ h => h
  constructor
  · intro h
    exact ⟨by rw [key vs hj, w2], h⟩
  · intro h
    exact h.2
theorem cw_start {F1 : Hp} {σ : St} {H1 : Hp} {I : Nat → List PyData → Own → Prop} {Dl : Addr} (r1 : Rep B ε La F1 σ H1) (hD : H1 Dl = none) (h0 : I 0 [] La) : CW B ε vs F1 σ I Dl 0 (upd H1 Dl (.lst [])) :=
  ⟨[], La, F1, Sub.rfl' F1, h0, ((r1.alloc (m := .lst Dl []) hD rfl ⟨[], upd_same, .nil⟩).toEnd).wipe vs⟩
theorem cw_end {F F1 : Hp} {σ : St} {H1 : Hp} {I : Nat → List PyData → Own → Prop} {Dl : Addr} {n : Nat} {H' : Hp} {Q : VK} (s1 : Sub F F1) (r1 : Rep B ε La F1 σ H1) (hD : H1 Dl = none) (c : CW B ε vs F1 σ I Dl n H')
    {ds : List PyData} (hd : ∀ acc L', I n acc L' → acc = ds ∧ L' = L) (q : ∀ p F' H', Sub F F' → p ∉ B.M → Rep B ε (.lst p ds :: L) F' σ H' → Q (.ref p) H') : Q (.ref Dl) H' := by
  obtain ⟨acc, L', F', s, hI, r⟩ := c
  obtain ⟨rfl, rfl⟩ := hd acc L' hI
  exact q Dl F' H' (s1.tr s) (r1.newM hD) (r.reslot r1 s).toHead
theorem en_lcR1 {j : Nat} {n : Int} {ds : List PyData} (h : EA B tas ε L [.d (.int n)] La) (hn : -(2 ^ 62) ≤ n ∧ n < 2 ^ 62) (I : Nat → List PyData → Own → Prop) (h0 : I 0 [] La) (hj : j ∈ vs)
    (hs : ∀ i : Nat, (i : Int) < n → CTurn B (gName j) tt te ε vs I i (.int (i : Int))) (hd : ∀ acc L', I n.toNat acc L' → acc = ds ∧ L' = Lb) : EN B (tLc (iRng1 tas) (gName j) tt te vs) ε L ds Lb := fun F σ H r Q q =>
  h F σ H r _ fun ws F1 H1 s1 r1 o1 => by
    match ws, o1 with
    | [v], o =>
      have ev : v = .int n := int_inv o.1
      subst ev
      refine ⟨n, rfl, hn.1, hn.2, fun Dl hD => lc_range (lo := 0) (n := n.toNat) (CW B ε vs F1 σ I Dl) (cw_start r1 hD h0) (fun i H' hi c => ?_) fun H' c => cw_end s1 r1 hD c hd q⟩
      have e0 : (0 : Int) + (i : Int) = (i : Int) := Int.zero_add _
      rw [e0]
      exact cturn_go (gw_name hj) (hs i (by omega)) c fun _ _ _ _ _ => .int _
theorem en_lcR2 {j : Nat} {lo n : Int} {ds : List PyData} (h : EA B tas ε L [.d (.int lo), .d (.int n)] La) (hn : (-(2 ^ 62) ≤ lo ∧ lo < 2 ^ 62) ∧ -(2 ^ 62) ≤ n ∧ n < 2 ^ 62) (I : Nat → List PyData → Own → Prop) (h0 : I 0 [] La) (hj : j ∈ vs)
    (hs : ∀ i : Nat, lo + (i : Int) < n → CTurn B (gName j) tt te ε vs I i (.int (lo + (i : Int)))) (hd : ∀ acc L', I (n - lo).toNat acc L' → acc = ds ∧ L' = Lb) : EN B (tLc (iRng2 tas) (gName j) tt te vs) ε L ds Lb := fun F σ H r Q q =>
  h F σ H r _ fun ws F1 H1 s1 r1 o1 => by
    match ws, o1 with
    | [v, w], o =>
      have ev : v = .int lo := int_inv o.1
      have ew : w = .int n := int_inv o.2.1
      subst ev ew
      refine ⟨lo, n, rfl, ⟨hn.1.1, hn.1.2, hn.2.1, hn.2.2⟩, fun Dl hD => lc_range (lo := lo) (n := (n - lo).toNat) (CW B ε vs F1 σ I Dl) (cw_start r1 hD h0) (fun i H' hi c => ?_) fun H' c => cw_end s1 r1 hD c hd q⟩
      exact cturn_go (gw_name hj) (hs i (by omega)) c fun _ _ _ _ _ => .int _
/-- over a frozen list, any target -/
theorem en_lcL {xs ds : List PyData} (h : EX B tl ε L (.d (.list xs)) La) (I : Nat → List PyData → Own → Prop) (h0 : I 0 [] La)
    (hw : ∀ (v : V) (σ : St) (H : Hp) (P : St → Hp → Prop), (g v (wipe σ vs) H P ↔ g v (wipe σ vs) H fun σ2 H2 => wipe σ2 vs = wipe σ vs ∧ P σ2 H2))
    (hs : ∀ (i : Nat) d, xs[i]? = some d → CTurn B g tt te ε vs I i d) (hd : ∀ acc L', I xs.length acc L' → acc = ds ∧ L' = Lb) : EN B (tLc (iList B.K tl) g tt te vs) ε L ds Lb := fun F σ H r Q q =>
  h F σ H r _ fun v F1 H1 s1 r1 o1 => by
    have o' : Dq B.K F1 v (.list xs) := o1
    cases o' with
    | @lst p us _ q1 q2 =>
      refine ⟨p, rfl, ⟨us, .inl (.inl (r1.sub _ _ q1))⟩, fun Dl hD => lc_list (xs := us) (CW B ε vs F1 σ I Dl) (cw_start r1 hD h0) (fun i H' _ c => ?_) (fun i x H' hi c => ?_) fun H' c => cw_end s1 r1 hD (by rw [dpa_len q2] at c; exact c) hd q⟩
      · obtain ⟨acc, L', F', s, hI, r'⟩ := c
        exact .inl (.inl (r'.sub _ _ (s _ _ q1)))
      · have hlt : i < xs.length := by rw [← dpa_len q2]; exact (List.getElem?_eq_some_iff.mp hi).1
        obtain ⟨w, e1, e2⟩ := dpa_get q2 (List.getElem?_eq_getElem hlt)
        have ex : x = w := Option.some.inj (hi.symm.trans e1)
        subst ex
        exact cturn_go hw (hs i _ (List.getElem?_eq_getElem hlt)) c fun F' _ _ s _ => dp_sub s e2
theorem en_lcT {xs ds : List PyData} (h : EX B tl ε L (.d (.tuple xs)) La) (I : Nat → List PyData → Own → Prop) (h0 : I 0 [] La)
    (hw : ∀ (v : V) (σ : St) (H : Hp) (P : St → Hp → Prop), (g v (wipe σ vs) H P ↔ g v (wipe σ vs) H fun σ2 H2 => wipe σ2 vs = wipe σ vs ∧ P σ2 H2))
    (hs : ∀ (i : Nat) d, xs[i]? = some d → CTurn B g tt te ε vs I i d) (hd : ∀ acc L', I xs.length acc L' → acc = ds ∧ L' = Lb) : EN B (tLc (iTup B.K tl) g tt te vs) ε L ds Lb := fun F σ H r Q q =>
  h F σ H r _ fun v F1 H1 s1 r1 o1 => by
    have o' : Dq B.K F1 v (.tuple xs) := o1
    cases o' with
    | @tup p us _ q1 q2 =>
      refine ⟨p, rfl, ⟨us, tq_sub r1.sub q1⟩, fun Dl hD => lc_tup (xs := us) (CW B ε vs F1 σ I Dl) (cw_start r1 hD h0) (fun i H' _ c => ?_) (fun i x H' hi c => ?_) fun H' c => cw_end s1 r1 hD (by rw [dpa_len q2] at c; exact c) hd q⟩
      · obtain ⟨acc, L', F', s, hI, r'⟩ := c
        exact tq_sub r'.sub (s _ _ q1)
      · have hlt : i < xs.length := by rw [← dpa_len q2]; exact (List.getElem?_eq_some_iff.mp hi).1
        obtain ⟨w, e1, e2⟩ := dpa_get q2 (List.getElem?_eq_getElem hlt)
        have ex : x = w := Option.some.inj (hi.symm.trans e1)
        subst ex
        exact cturn_go hw (hs i _ (List.getElem?_eq_getElem hlt)) c fun F' _ _ s _ => dp_sub s e2
/-- the plain kind: what is owned stays, the items are filtered and mapped -/
theorem cturn_pure {i : Nat} {d : PyData} {L0 : Own} {xs : List PyData} {f : PyData → PyData} {t : PyData → Bool} {ε2 : Eps} (hx : xs[i]? = some d) (hz : xs.length ≤ 90000) (hg : GT B g (.d d) (wipeE ε vs) ε2)
    (ht : ∀ m, ETt B tt ε2 (L0 ++ [m]) (t d) (L0 ++ [m])) (he : t d = true → ∀ m, EX B te ε2 (L0 ++ [m]) (.d (f d)) (L0 ++ [m])) :
    CTurn B g tt te ε vs (fun i acc L => acc = ((xs.take i).filter t).map f ∧ L = L0) i d := fun acc L' ⟨ha, hL⟩ => by
  subst ha hL
  have hi : i < xs.length := (List.getElem?_eq_some_iff.mp hx).1
  have e1 : xs.take (i + 1) = xs.take i ++ [d] := by rw [List.take_add_one, hx]; rfl
  refine ⟨?_, ε2, hg, t d, L', ht, fun hb => ⟨f d, L', he hb, ?_, rfl⟩, fun hb => ⟨?_, rfl⟩⟩
  · rw [List.length_map]
    exact Nat.lt_of_le_of_lt (List.length_filter_le _ _) (by rw [List.length_take]; omega)
  · rw [e1, List.filter_append, List.map_append, List.filter_cons, if_pos hb]; rfl
  · rw [e1, List.filter_append, List.map_append, List.filter_cons, if_neg (by rw [hb]; exact Bool.false_ne_true)]
    show _ = _ ++ []
    rw [List.append_nil]
theorem et_yes : ETt B tYes ε L true L := fun F σ H r Q q => q F H (Sub.rfl' F) r
end

/-! ### what defs promise -/
def NxM (M : List Addr) (F H F' H' : Hp) : Prop := Sub F F' ∧ (∀ a o, a ∉ M → H a = some o → H' a = some o) ∧ Sub F' H' ∧ ∀ a, F a = none → H a ≠ none → F' a = none ∨ ∃ xs, H a = some (.tup xs)
/-- a def of data: R says what comes of what -/
def spR (K : PySem.W.Frag) (R : List PyData → PyData → Prop) : Sp := fun vs H Q _ => ∃ F ds d, Sub F H ∧ DqAll K F vs ds ∧ R ds d ∧ ∀ v F' H', NxM [] F H F' H' → Dq K F' v d → Q v H'
def BOk (cells : List Int) (cur mix : Int) : Prop := 0 ≤ mix ∧ mix < 2147483647 ∧ 0 ≤ cur ∧ ∀ c ∈ cells, 0 ≤ c
structure Bag where
  cells : List Int
  cur : Int
  mix : Int
  ok : BOk cells cur mix
def Bag.at (b : Bag) (pb pc : Addr) : MO := .bag pb pc b.cells b.cur b.mix
/-- a def whose first argument is the bag -/
def spB (K : PySem.W.Frag) (R : Bag → List PyData → PyData → Bag → Prop) : Sp := fun vs H Q _ => ∃ F pb pc b vs' ds d b', vs = .ref pb :: vs' ∧ Sub F H ∧ F pb = none ∧ F pc = none ∧ pb ≠ pc ∧ BagAt H pb pc b.cells b.cur b.mix ∧ DqAll K F vs' ds ∧ R b ds d b' ∧
  ∀ v F' H', NxM [pb, pc] F H F' H' → BagAt H' pb pc b'.cells b'.cur b'.mix → Dq K F' v d → Q v H'
section
variable {B : Bg} {ε ε' : Eps} {L L' La Lb Lc Ld : Own} {te ta tb tl : TE} {tt tu : TT} {tas tr : TA} {a b x : AD} {D : Ends} {ts tc tw : TS} {g : TG} {F : Hp} {σ : St} {H : Hp}
/-- behind a call that changes what M tells of -/
theorem Rep.call (r : Rep B ε L F σ H) {F' H' : Hp} (n : NxM [] F H F' H') : Rep B ε L F' σ H' := by
  obtain ⟨n1, n2, n3, n4⟩ := n
  have k : Sub H H' := fun a o e => n2 a o (by simp) e
  refine ⟨n3, fun m hm => ((r.own m hm).subF n1).same fun p _ o e => k p o e, fun p hp => ⟨?_, (r.off p hp).2⟩, r.nd, fun i x e => ?_, r.len, r.f0.tr n1, fun a o h e => k a o (r.h0 a o h e), fun a h1 h2 => ?_, r.mm⟩
  · obtain ⟨o, ho⟩ := r.there hp
    exact (n4 p (r.off p hp).1 (by rw [ho]; exact fun z => nomatch z)).resolve_right fun ⟨xs, e⟩ => r.noT hp e
  · obtain ⟨s, q1, q2⟩ := r.sl i x e
    exact ⟨s, q1, q2.sub n1⟩
  · refine (r.nc a h1 h2).elim (fun hn => ?_) .inr
    by_cases hm : a ∈ B.M
    · obtain ⟨o, ho⟩ := r.there (r.mm a hm)
      exact .inl ((n4 a hn (by rw [ho]; exact fun z => nomatch z)).resolve_right fun ⟨xs, e⟩ => r.noT (r.mm a hm) e)
    · cases e : B.H0 a with
      | none => exact absurd e h2
      | some o =>
        refine (n4 a hn (by rw [r.h0 a o hm e]; exact fun z => nomatch z)).elim .inl fun ⟨xs, q⟩ => .inr ⟨xs, ?_⟩
        rw [r.h0 a o hm e] at q
        exact q
theorem Rep.callB (r : Rep B ε L F σ H) {k : Nat} {pb pc : Addr} {c : List Int} {u m : Int} {b' : Bag} (hk : L[k]? = some (.bag pb pc c u m)) {F' H' : Hp} (n : NxM [pb, pc] F H F' H') (hb : BagAt H' pb pc b'.cells b'.cur b'.mix) : Rep B ε (L.set k (b'.at pb pc)) F' σ H' := by
  obtain ⟨n1, n2, n3, n4⟩ := n
  -- first the frozen part grows over the old heap, then the bag changes
  have hL := List.mem_of_getElem? hk
  have ef := fps_set (m' := b'.at pb pc) hk rfl
  have hmem : ∀ p ∈ ([pb, pc] : List Addr), p ∈ fps L := fun p hp => mem_fps hL hp
  refine ⟨n3, fun x hx => ?_, fun p hp => ?_, by rw [ef]; exact r.nd, fun i x e => ?_, r.len, r.f0.tr n1, fun a o h e => ?_, fun a h1 h2 => ?_, by rw [ef]; exact r.mm⟩
  · obtain ⟨j, hj⟩ := List.mem_iff_getElem?.mp hx
    rw [List.getElem?_set] at hj
    split at hj
    · split at hj
      · cases hj; exact hb
      · cases hj
    · rename_i ne
      exact ((r.own x (List.mem_of_getElem? hj)).subF n1).same fun p hp o e => n2 p o (fun h => fps_apart r.nd hk hj ne p h hp) e
  · rw [ef] at hp
    obtain ⟨o, ho⟩ := r.there hp
    exact ⟨(n4 p (r.off p hp).1 (by rw [ho]; exact fun z => nomatch z)).resolve_right fun ⟨xs, e⟩ => r.noT hp e, (r.off p hp).2⟩
  · obtain ⟨s, q1, q2⟩ := r.sl i x e
    exact ⟨s, q1, q2.sub n1⟩
  · refine n2 a o (fun hm => ?_) (r.h0 a o h e)
    rcases (r.off a (hmem a hm)).2 with q | q
    · exact h q
    · rw [q] at e; cases e
  · refine (r.nc a h1 h2).elim (fun hn => ?_) .inr
    by_cases hm : a ∈ B.M
    · obtain ⟨o, ho⟩ := r.there (r.mm a hm)
      exact .inl ((n4 a hn (by rw [ho]; exact fun z => nomatch z)).resolve_right fun ⟨xs, e⟩ => r.noT (r.mm a hm) e)
    · cases e : B.H0 a with
      | none => exact absurd e h2
      | some o =>
        refine (n4 a hn (by rw [r.h0 a o hm e]; exact fun z => nomatch z)).elim .inl fun ⟨xs, q⟩ => .inr ⟨xs, ?_⟩
        rw [r.h0 a o hm e] at q
        exact q
theorem ex_call {R : List PyData → PyData → Prop} {E : XK} {ds : List PyData} {d : PyData} (h : EA B tas ε L (ds.map AD.d) La) (hR : R ds d) : EX B (tCall (spR B.K R) [] E tas) ε L (.d d) La := fun F σ H r Q q =>
  h F σ H r _ fun vs F1 H1 s1 r1 o1 => by
    rw [List.append_nil]
    exact ⟨F1, ds, d, r1.sub, ad_data o1, hR, fun v F' H' n o => q v F' H' (s1.tr n.1) (r1.call n) o⟩
theorem ex_callB {R : Bag → List PyData → PyData → Bag → Prop} {E : XK} {k : Nat} {pb pc : Addr} {b : Bag} {ds : List PyData} {d : PyData} {b' : Bag} (h : EA B tas ε L (.v (.ref pb) :: ds.map AD.d) La) (hk : La[k]? = some (b.at pb pc)) (hR : R b ds d b') :
    EX B (tCall (spB B.K R) [] E tas) ε L (.d d) (La.set k (b'.at pb pc)) := fun F σ H r Q q =>
  h F σ H r _ fun vs F1 H1 s1 r1 o1 => by
    match vs, o1 with
    | v :: vs', o =>
      have ev : v = .ref pb := o.1
      subst ev
      rw [List.append_nil]
      have hm := List.mem_of_getElem? hk
      have nd : pb ≠ pc := fun e => by
        have x : ([pb, pc] : List Addr).Nodup := by
          have sl : ([pb, pc] : List Addr).Sublist (fps La) := by
            obtain ⟨l1, l2, e2⟩ := List.append_of_mem hm
            rw [e2]
            unfold fps
            rw [List.flatMap_append, List.flatMap_cons]
            exact (List.sublist_append_left _ _).trans (List.sublist_append_right _ _)
          exact r1.nd.sublist sl
        subst e
        simp at x
      exact ⟨F1, pb, pc, b, vs', ds, d, b', rfl, r1.sub, (r1.off pb (mem_fps hm List.mem_cons_self)).1, (r1.off pc (mem_fps hm (List.mem_cons_of_mem _ List.mem_cons_self))).1, nd, r1.own _ hm, ad_data o.2, hR,
        fun v F' H' n hb o => q v F' H' (s1.tr n.1) (r1.callB hk n hb) o⟩
/-- with keywords alone: perm puts them in the parameters' order -/
theorem ex_callK {R : List PyData → PyData → Prop} {E : XK} {gV : List V → List V → List V} {tk : TA} {as bs : List AD} {ds : List PyData} {d : PyData} (h : EA B tas ε L as La) (hk : EA B tk ε La bs Lb)
    (hp : ∀ K F vs zs, AdAll K F as vs → AdAll K F bs zs → DqAll K F (gV vs zs) ds) (hR : R ds d) : EX B (tCallK (spR B.K R) gV E tas tk) ε L (.d d) Lb := fun F σ H r Q q =>
  h F σ H r _ fun vs F1 H1 s1 r1 o1 => hk F1 σ H1 r1 _ fun zs F2 H2 s2 r2 o2 =>
    ⟨F2, ds, d, r2.sub, hp _ _ _ _ (o1.sub s2) o2, hR, fun v F' H' n o => q v F' H' ((s1.tr s2).tr n.1) (r2.call n) o⟩

/-! ### a def's entry and end -/
def argE (ds : List PyData) (n : Nat) : Eps := ds.map (fun d => some (.d d)) ++ List.replicate (n - ds.length) none
theorem rep_start {K : PySem.W.Frag} {N : List Str} {F H : Hp} {vs : List V} {ds : List PyData} (s : Sub F H) (h : DqAll K F vs ds) (hn : ds.length ≤ N.length) : Rep ⟨K, F, H, []⟩ (argE ds N.length) [] F (_root_.L2.start N vs) H := by
  have hl := dpa_len h
  refine ⟨s, fun m hm => (nomatch hm), fun p hp => (nomatch hp), List.nodup_nil, fun i x e => ?_, ?_, Sub.rfl' F, fun _ _ _ e => e, fun _ e _ => .inl e, fun p hp => (nomatch hp)⟩
  · unfold argE at e
    unfold _root_.L2.start
    by_cases hi : i < ds.length
    · rw [List.getElem?_append_left (by rw [List.length_map]; exact hi), List.getElem?_map] at e
      cases e1 : ds[i]? with
      | none => rw [e1] at e; cases e
      | some d =>
        rw [e1] at e
        cases e
        obtain ⟨v, g1, g2⟩ := dpa_get h e1
        refine ⟨some v, ?_, v, rfl, g2⟩
        rw [List.getElem?_append_left (by rw [List.length_map, hl]; exact hi), List.getElem?_map, g1]; rfl
    · rw [List.getElem?_append_right (by rw [List.length_map]; omega), List.length_map, List.getElem?_replicate] at e
      split at e
      · cases e
        rename_i hlt
        refine ⟨none, ?_, trivial⟩
        rw [List.getElem?_append_right (by rw [List.length_map, hl]; omega), List.length_map, hl, List.getElem?_replicate, if_pos hlt]
      · cases e
  · unfold _root_.L2.start argE
    rw [List.length_append, List.length_append, List.length_map, List.length_map, List.length_replicate, List.length_replicate, hl]
theorem rep_startB {K : PySem.W.Frag} {N : List Str} {F H : Hp} {pb pc : Addr} {b : Bag} {vs : List V} {ds : List PyData} (s : Sub F H) (f1 : F pb = none) (f2 : F pc = none) (ne : pb ≠ pc) (hb : BagAt H pb pc b.cells b.cur b.mix) (h : DqAll K F vs ds) (hn : ds.length + 1 ≤ N.length) :
    Rep ⟨K, F, H, [pb, pc]⟩ (some (.v (.ref pb)) :: argE ds (N.length - 1)) [b.at pb pc] F (_root_.L2.start N (.ref pb :: vs)) H := by
  have hl := dpa_len h
  refine ⟨s, fun m hm => ?_, fun p hp => ?_, ?_, fun i x e => ?_, ?_, Sub.rfl' F, fun _ _ _ e => e, fun _ e _ => .inl e, fun p hp => hp⟩
  · rw [List.mem_singleton.mp hm]; exact hb
  · have hp' : p ∈ ([pb, pc] : List Addr) := hp
    refine ⟨?_, .inl hp'⟩
    rcases List.mem_cons.mp hp' with e | e
    · rw [e]; exact f1
    · rw [List.mem_singleton.mp e]; exact f2
  · show ([pb, pc] : List Addr).Nodup
    simp [ne]
  · cases i with
    | zero => cases e; exact ⟨_, rfl, _, rfl, rfl⟩
    | succ i =>
      have e : (argE ds (N.length - 1))[i]? = some x := e
      show ∃ s, (_root_.L2.start N (.ref pb :: vs))[i + 1]? = some s ∧ _
      have es : (_root_.L2.start N (.ref pb :: vs))[i + 1]? = (vs.map some ++ List.replicate (N.length - 1 - vs.length) none)[i]? := by
        unfold _root_.L2.start
        rw [List.map_cons, List.cons_append, List.getElem?_cons_succ, List.length_cons]
        have : N.length - (vs.length + 1) = N.length - 1 - vs.length := by omega
        rw [this]
      rw [es]
      unfold argE at e
      by_cases hi : i < ds.length
      · rw [List.getElem?_append_left (by rw [List.length_map]; exact hi), List.getElem?_map] at e
        cases e1 : ds[i]? with
        | none => rw [e1] at e; cases e
        | some d =>
          rw [e1] at e
          cases e
          obtain ⟨v, g1, g2⟩ := dpa_get h e1
          refine ⟨some v, ?_, v, rfl, g2⟩
          rw [List.getElem?_append_left (by rw [List.length_map, hl]; exact hi), List.getElem?_map, g1]; rfl
      · rw [List.getElem?_append_right (by rw [List.length_map]; omega), List.length_map, List.getElem?_replicate] at e
        split at e
        · cases e
          rename_i hlt
          refine ⟨none, ?_, trivial⟩
          rw [List.getElem?_append_right (by rw [List.length_map, hl]; omega), List.length_map, hl, List.getElem?_replicate, if_pos hlt]
        · cases e
  · unfold _root_.L2.start argE
    simp only [List.length_append, List.length_map, List.length_replicate, List.length_cons, hl]
    omega
theorem Rep.nx (r : Rep B ε L F σ H) : NxM B.M B.F0 B.H0 F H := ⟨r.f0, r.h0, r.sub, r.nc⟩
theorem Rep.bag {pb pc : Addr} {c : List Int} {u m : Int} (r : Rep B ε L F σ H) (h : MO.bag pb pc c u m ∈ L) : BagAt H pb pc c u m := r.own _ h
end

section
variable {P : Program} {w : World} {K : PySem.W.Frag} {mg : Str → Option Value} {base : Heap}
/-- THE RULE for a def of data -/
theorem fn_data {x qual : Str} {st : Stmt} {f : Addr} {fd : FuncData} {N ps : List Str} {k : Nat} {R : List PyData → PyData → Prop} (Fn : Fun K x qual st f fd) (S : FnScope N ps (defScope st)) (hps : ps.length ≤ N.length) (len : ∀ ds d, R ds d → ds.length = ps.length)
    (hbody : ∀ (cdv : Value) (A : Around) (outer : List Env) (s : Shared) (H : Hp) (E : XK), Room k (A.deeper (PyProof.Rows.envOfC qual (defScope st) s.heap.objs.size f cdv)) →
      ∃ t, PSs (cxOf CX0 P w K mg base N qual (defScope st) f cdv A outer s H E).nox (defBody st) t ∧
        ∀ (B : Bg) (Q : VK) ds d, B.K = K → B.M = [] → R ds d → (∀ v F' H', NxM [] B.F0 B.H0 F' H' → Dq K F' v d → Q v H') → Ho B (t { nx := fun _ H' => Q .non H', rt := Q }) (argE ds N.length) []) :
    FnOk P w K mg base CX0 (k + 1) f fd ps (spR K R) := by
  refine Fn.ok S (fun vs H Q E h => ?_) fun cdv A outer s H vs Q E hr h => ?_
  · obtain ⟨F, ds, d, _, hd, hR, _⟩ := h
    rw [dpa_len hd]; exact len ds d hR
  · obtain ⟨t, ht, hb⟩ := hbody cdv A outer s H E hr
    obtain ⟨F, ds, d, hs, hd, hR, q⟩ := h
    refine ⟨t, ht, hb ⟨K, F, H, []⟩ Q ds d rfl rfl hR q F _ H (rep_start hs hd ?_)⟩
    rw [len ds d hR]; exact hps
/-- THE RULE for a def with the bag -/
theorem fn_bag {x qual : Str} {st : Stmt} {f : Addr} {fd : FuncData} {N ps : List Str} {k : Nat} {R : Bag → List PyData → PyData → Bag → Prop} (Fn : Fun K x qual st f fd) (S : FnScope N ps (defScope st)) (hps : ps.length ≤ N.length) (len : ∀ b ds d b', R b ds d b' → ds.length + 1 = ps.length)
    (hbody : ∀ (cdv : Value) (A : Around) (outer : List Env) (s : Shared) (H : Hp) (E : XK), Room k (A.deeper (PyProof.Rows.envOfC qual (defScope st) s.heap.objs.size f cdv)) →
      ∃ t, PSs (cxOf CX0 P w K mg base N qual (defScope st) f cdv A outer s H E).nox (defBody st) t ∧
        ∀ (B : Bg) (Q : VK) pb pc b ds d b', B.K = K → B.M = [pb, pc] → R b ds d b' → (∀ v F' H', NxM [pb, pc] B.F0 B.H0 F' H' → BagAt H' pb pc b'.cells b'.cur b'.mix → Dq K F' v d → Q v H') →
          Ho B (t { nx := fun _ H' => Q .non H', rt := Q }) (some (.v (.ref pb)) :: argE ds (N.length - 1)) [b.at pb pc]) :
    FnOk P w K mg base CX0 (k + 1) f fd ps (spB K R) := by
  refine Fn.ok S (fun vs H Q E h => ?_) fun cdv A outer s H vs Q E hr h => ?_
  · obtain ⟨F, pb, pc, b, vs', ds, d, b', rfl, _, _, _, _, _, hd, hR, _⟩ := h
    rw [List.length_cons, dpa_len hd]; exact len b ds d b' hR
  · obtain ⟨t, ht, hb⟩ := hbody cdv A outer s H E hr
    obtain ⟨F, pb, pc, b, vs', ds, d, b', rfl, hs, f1, f2, ne, bg, hd, hR, q⟩ := h
    refine ⟨t, ht, hb ⟨K, F, H, [pb, pc]⟩ Q pb pc b ds d b' rfl rfl hR q F _ H (rep_startB hs f1 f2 ne bg hd ?_)⟩
    rw [len b ds d b' hR]; exact hps
end
end Fz

/-! ## Fz4 -/
set_option Elab.async false
set_option linter.all false
set_option maxRecDepth 100000
set_option maxHeartbeats 2000000
set_option autoImplicit false
/-! Fz4: methods of lists, built-ins, the bag. -/
namespace Fz
open PySem L2

section
variable {B : Bg} {ε ε' : Eps} {L L' La Lb Lc Ld : Own} {te ta tb tl to ti : TE} {tt tu : TT} {tas tr : TA} {a b x : AD} {D : Ends} {ts tc tw : TS} {g : TG}
/-! ### built-ins by values -/
theorem ex_abs {i : Int} (h : EX B te ε L (.d (.int i)) La) : EX B (tCB (fun xs H Q => ∃ i, xs = [.int i] ∧ Q (.int (if i < 0 then -i else i)) H) (tCons te tNil)) ε L (.d (.int (if i < 0 then -i else i))) La := fun F σ H r Q q =>
  h F σ H r _ fun v F1 H1 s1 r1 o1 => ⟨i, by rw [int_inv o1], q _ F1 H1 s1 r1 (.int _)⟩
theorem ex_int1 {i : Int} (h : EX B te ε L (.d (.int i)) La) : EX B (tCB (fun xs H Q => (∃ i, xs = [.int i] ∧ Q (.int i) H) ∨ ∃ k, xs = [.bl k] ∧ Q (.int (if k then 1 else 0)) H) (tCons te tNil)) ε L (.d (.int i)) La := fun F σ H r Q q =>
  h F σ H r _ fun v F1 H1 s1 r1 o1 => .inl ⟨i, by rw [int_inv o1], q _ F1 H1 s1 r1 (.int _)⟩
theorem ex_max2 {i j : Int} (h : EX B ta ε L (.d (.int i)) La) (h2 : EX B tb ε La (.d (.int j)) Lb) : EX B (tCB (fun xs H Q => ∃ i j, xs = [.int i, .int j] ∧ Q (.int (if j > i then j else i)) H) (tCons ta (tCons tb tNil))) ε L (.d (.int (if j > i then j else i))) Lb := fun F σ H r Q q =>
  h F σ H r _ fun v F1 H1 s1 r1 o1 => h2 F1 σ H1 r1 _ fun w F2 H2 s2 r2 o2 => ⟨i, j, by rw [int_inv o1, int_inv o2], q _ F2 H2 (s1.tr s2) r2 (.int _)⟩
theorem ex_min2 {i j : Int} (h : EX B ta ε L (.d (.int i)) La) (h2 : EX B tb ε La (.d (.int j)) Lb) : EX B (tCB (fun xs H Q => ∃ i j, xs = [.int i, .int j] ∧ Q (.int (if j < i then j else i)) H) (tCons ta (tCons tb tNil))) ε L (.d (.int (if j < i then j else i))) Lb := fun F σ H r Q q =>
  h F σ H r _ fun v F1 H1 s1 r1 o1 => h2 F1 σ H1 r1 _ fun w F2 H2 s2 r2 o2 => ⟨i, j, by rw [int_inv o1, int_inv o2], q _ F2 H2 (s1.tr s2) r2 (.int _)⟩
/-- list(x) of a list, of a tuple -/
def rListOf (K : PySem.W.Frag) : List V → Hp → VK → Prop := fun xs H Q => ∃ p ys, xs = [.ref p] ∧ (SqL K H p ys ∨ SqT K H p ys) ∧ ∀ l, H l = none → Q (.ref l) (upd H l (.lst ys))
theorem en_list {ds : List PyData} (h : EX B te ε L x La) (hx : IsL La x ds) : EN B (tCB (rListOf B.K) (tCons te tNil)) ε L ds La := fun F σ H r Q q =>
  h F σ H r _ fun v F1 H1 s1 r1 o1 => by
    obtain ⟨p, vs, rfl, g1, g2⟩ := hx.get r1 o1
    exact ⟨p, vs, rfl, .inl g1, fun l hl => q l F1 _ s1 (r1.newM hl) (r1.alloc hl rfl ⟨vs, upd_same, g2⟩)⟩
theorem en_listT {ds : List PyData} (h : EX B te ε L (.d (.tuple ds)) La) : EN B (tCB (rListOf B.K) (tCons te tNil)) ε L ds La := fun F σ H r Q q =>
  h F σ H r _ fun v F1 H1 s1 r1 o1 => by
    obtain ⟨p, vs, rfl, g1, g2⟩ := tup_inv o1
    exact ⟨p, vs, rfl, .inr (tq_sub r1.sub g1), fun l hl => q l F1 _ s1 (r1.newM hl) (r1.alloc hl rfl ⟨vs, upd_same, g2⟩)⟩
/-- tuple(x) -/
theorem ex_tupL {ds : List PyData} (h : EX B te ε L x La) (hx : IsL La x ds) : EX B (tThen te (kTup B.K)) ε L (.d (.tuple ds)) La := fun F σ H r Q q =>
  h F σ H r _ fun v F1 H1 s1 r1 o1 => by
    obtain ⟨p, vs, rfl, g1, g2⟩ := hx.get r1 o1
    refine .inl ⟨p, vs, rfl, g1, fun l hl => ?_⟩
    have hF := sub_none r1.sub hl
    exact q _ _ _ (s1.tr (sub_fresh hF)) (r1.grow hl) (.tup upd_same (dpa_sub (sub_fresh hF) g2))
theorem ex_tupT {ds : List PyData} (h : EX B te ε L (.d (.tuple ds)) La) : EX B (tThen te (kTup B.K)) ε L (.d (.tuple ds)) La := fun F σ H r Q q =>
  h F σ H r _ fun v F1 H1 s1 r1 o1 => by
    obtain ⟨p, vs, rfl, g1, g2⟩ := tup_inv o1
    exact .inr ⟨p, vs, rfl, tq_sub r1.sub g1, q _ F1 H1 s1 r1 o1⟩
def rgD (a b : Int) : List PyData := (List.range (b - a).toNat).map fun i => PyData.int (a + (i : Nat))
theorem rg_dp {K : PySem.W.Frag} {F : Hp} (a b : Int) : DqAll K F (rgV a b) (rgD a b) := by
  unfold rgV rgD
  generalize List.range (b - a).toNat = l
  induction l with
  | nil => exact .nil
  | cons x l ih => exact .cons (.int _) ih
theorem en_listRg1 {n : Int} (h : EX B ta ε L (.d (.int n)) La) (hn : 0 ≤ n ∧ n ≤ 100000) : EN B (tLstRg (tRg1 ta)) ε L (rgD 0 n) La := fun F σ H r Q q =>
  h F σ H r _ fun v F1 H1 s1 r1 o1 => ⟨n, int_inv o1, RgOk.of_le (by omega) (by omega) (by omega) (by omega), fun l hl => q l F1 _ s1 (r1.newM hl) (r1.alloc hl rfl ⟨_, upd_same, rg_dp 0 n⟩)⟩
theorem en_listRg2 {m n : Int} (h : EX B ta ε L (.d (.int m)) La) (h2 : EX B tb ε La (.d (.int n)) Lb) (hn : (0 ≤ m ∧ m ≤ 100000) ∧ 0 ≤ n ∧ n ≤ 100000) : EN B (tLstRg (tRg2 ta tb)) ε L (rgD m n) Lb := fun F σ H r Q q =>
  h F σ H r _ fun v F1 H1 s1 r1 o1 => h2 F1 σ H1 r1 _ fun w F2 H2 s2 r2 o2 => ⟨m, n, int_inv o1, int_inv o2, RgOk.of_le (by omega) (by omega) (by omega) (by omega), fun l hl => q l F2 _ (s1.tr s2) (r2.newM hl) (r2.alloc hl rfl ⟨_, upd_same, rg_dp m n⟩)⟩
theorem ex_sum {ns : List Int} (h : EX B te ε L x La) (hx : IsL La x (ns.map PyData.int)) : EX B (tCB (rSum B.K) (tCons te tNil)) ε L (.d (.int ns.sum)) La := fun F σ H r Q q =>
  h F σ H r _ fun v F1 H1 s1 r1 o1 => by
    obtain ⟨p, vs, rfl, g1, g2⟩ := hx.get r1 o1
    rw [dpa_int_inv g2] at g1
    exact ⟨p, ns, rfl, g1, q _ F1 H1 s1 r1 (.int _)⟩
theorem ex_allB {bs : List Bool} (h : EX B te ε L x La) (hx : IsL La x (bs.map PyData.bool)) : EX B (tCB (rAll B.K) (tCons te tNil)) ε L (.d (.bool (bs.all id))) La := fun F σ H r Q q =>
  h F σ H r _ fun v F1 H1 s1 r1 o1 => by
    obtain ⟨p, vs, rfl, g1, g2⟩ := hx.get r1 o1
    rw [dpa_bool_inv g2] at g1
    exact ⟨p, bs, rfl, g1, q _ F1 H1 s1 r1 (.bl _)⟩
theorem ex_anyB {bs : List Bool} (h : EX B te ε L x La) (hx : IsL La x (bs.map PyData.bool)) : EX B (tCB (rAny B.K) (tCons te tNil)) ε L (.d (.bool (bs.any id))) La := fun F σ H r Q q =>
  h F σ H r _ fun v F1 H1 s1 r1 o1 => by
    obtain ⟨p, vs, rfl, g1, g2⟩ := hx.get r1 o1
    rw [dpa_bool_inv g2] at g1
    exact ⟨p, bs, rfl, g1, q _ F1 H1 s1 r1 (.bl _)⟩
/-! ### lists that change -/
theorem lst_ne {p a : Addr} {o : HO} {H : Hp} {o' : HO} (hq : a ∉ [p]) (e : H a = some o) : upd H p o' a = some o := by
  rw [upd_ne (fun z => hq (by rw [z]; exact List.mem_cons_self))]; exact e
theorem Rep.setL {F : Hp} {σ : St} {H : Hp} (r : Rep B ε L F σ H) {k : Nat} {p : Addr} {ds ds' : List PyData} {vs : List V} (hk : L[k]? = some (.lst p ds)) (h : DqAll B.K F vs ds') : Rep B ε (L.set k (.lst p ds')) F σ (upd H p (.lst vs)) :=
  r.chg (m' := .lst p ds') hk rfl ⟨vs, upd_same, h⟩ fun a o hq e => lst_ne hq e
theorem tyv {K : PySem.W.Frag} {H : Hp} {p : Addr} {vs : List V} (h : H p = some (.lst vs)) : tyV K "list" (.ref p) H := Or.inl ⟨rfl, _, Or.inl (Or.inl h)⟩
/-- xs.append(e) as a statement -/
theorem x_app {k : Nat} {p : Addr} {ds : List PyData} {d : PyData} (ho : EX B to ε L (.v (.ref p)) La) (h : EX B te ε La (.d d) Lb) (hk : Lb[k]? = some (.lst p ds)) (hka : ∃ (j : Nat) (ds' : List PyData), La[j]? = some (.lst p ds')) (hz : ds.length < 100000)
    (q : Ho B D.nx ε (Lb.set k (.lst p (ds ++ [d])))) : Ho B (tDrop (tBM B.K "list" rAppend to (tCons te tNil)) D) ε L := fun F σ H r =>
  ho F σ H r _ fun v F1 H1 s1 r1 o1 => by
    have ev : v = .ref p := o1
    subst ev
    obtain ⟨j, ds', hj⟩ := hka
    obtain ⟨us, u1, _⟩ := r1.own _ (List.mem_of_getElem? hj)
    refine ⟨tyv u1, h F1 σ H1 r1 _ fun w F2 H2 s2 r2 o2 => ?_⟩
    obtain ⟨vs, g1, g2⟩ := r2.own _ (List.mem_of_getElem? hk)
    exact ⟨p, vs, w, rfl, rfl, g1, by rw [dpa_len g2]; exact Evl.sz_lt hz, q F2 σ _ (r2.setL hk (dpa_app g2 (.cons o2 .nil)))⟩
/-- xs.insert(i, e) as a statement -/
def rInsert : V → List V → Hp → VK → Prop := fun x vs H Q => ∃ (l : Addr) (xs : List V) (i : Int) (y : V), x = .ref l ∧ vs = [.int i, y] ∧ H l = some (.lst xs) ∧ xs.length < sizeLine ∧ 0 ≤ i ∧ i < 2 ^ 63 ∧
    Q .non (upd H l (.lst (xs.take i.toNat ++ [y] ++ xs.drop i.toNat)))
theorem x_ins {k : Nat} {p : Addr} {ds : List PyData} {d : PyData} {i : Int} (ho : EX B to ε L (.v (.ref p)) La) (hi : EX B ti ε La (.d (.int i)) Lb) (h : EX B te ε Lb (.d d) Lc) (hk : Lc[k]? = some (.lst p ds)) (hka : ∃ (j : Nat) (ds' : List PyData), La[j]? = some (.lst p ds')) (hz : ds.length < 100000) (hr : 0 ≤ i ∧ i < 2 ^ 63)
    (q : Ho B D.nx ε (Lc.set k (.lst p (ds.take i.toNat ++ [d] ++ ds.drop i.toNat)))) : Ho B (tDrop (tBM B.K "list" rInsert to (tCons ti (tCons te tNil))) D) ε L := fun F σ H r =>
  ho F σ H r _ fun v F1 H1 s1 r1 o1 => by
    have ev : v = .ref p := o1
    subst ev
    obtain ⟨j, ds', hj⟩ := hka
    obtain ⟨us, u1, _⟩ := r1.own _ (List.mem_of_getElem? hj)
    refine ⟨tyv u1, hi F1 σ H1 r1 _ fun w F2 H2 s2 r2 o2 => h F2 σ H2 r2 _ fun y F3 H3 s3 r3 o3 => ?_⟩
    have ew : w = .int i := int_inv o2
    subst ew
    obtain ⟨vs, g1, g2⟩ := r3.own _ (List.mem_of_getElem? hk)
    exact ⟨p, vs, i, y, rfl, rfl, g1, by rw [dpa_len g2]; exact Evl.sz_lt hz, hr.1, hr.2, q F3 σ _ (r3.setL hk (dpa_app (dpa_app (dpa_take _ g2) (.cons o3 .nil)) (dpa_drop _ g2)))⟩
/-- xs.pop() -/
theorem ex_pop {k : Nat} {p : Addr} {ds : List PyData} {d : PyData} (ho : EX B to ε L (.v (.ref p)) La) (hk : La[k]? = some (.lst p ds)) (hd : ds[ds.length - 1]? = some d) : EX B (tBM0 B.K "list" rPop to) ε L (.d d) (La.set k (.lst p ds.dropLast)) := fun F σ H r Q q =>
  ho F σ H r _ fun v F1 H1 s1 r1 o1 => by
    have ev : v = .ref p := o1
    subst ev
    obtain ⟨vs, g1, g2⟩ := r1.own _ (List.mem_of_getElem? hk)
    obtain ⟨u, e1, e2⟩ := dpa_get g2 hd
    exact ⟨tyv g1, p, vs, u, rfl, rfl, g1, by rw [dpa_len g2]; exact e1, q u F1 _ s1 (r1.setL hk (dpa_last g2)) e2⟩
/-- xs.pop(i) -/
theorem ex_popAt {k j : Nat} {p : Addr} {ds : List PyData} {d : PyData} {i : Int} (ho : EX B to ε L (.v (.ref p)) La) (hi : EX B ti ε La (.d (.int i)) Lb) (hka : ∃ (j : Nat) (ds' : List PyData), La[j]? = some (.lst p ds')) (hk : Lb[k]? = some (.lst p ds)) (hr : -(2 ^ 63) ≤ i ∧ i < 2 ^ 63) (hj : seqIndex? i ds.length = some j) (hd : ds[j]? = some d) :
    EX B (tBM B.K "list" rPopAt to (tCons ti tNil)) ε L (.d d) (Lb.set k (.lst p (ds.eraseIdx j))) := fun F σ H r Q q =>
  ho F σ H r _ fun v F1 H1 s1 r1 o1 => by
    have ev : v = .ref p := o1
    subst ev
    obtain ⟨j', ds', hj'⟩ := hka
    obtain ⟨us, u1, _⟩ := r1.own _ (List.mem_of_getElem? hj')
    refine ⟨tyv u1, hi F1 σ H1 r1 _ fun w F2 H2 s2 r2 o2 => ?_⟩
    have ew : w = .int i := int_inv o2
    subst ew
    obtain ⟨vs, g1, g2⟩ := r2.own _ (List.mem_of_getElem? hk)
    obtain ⟨u, e1, e2⟩ := dpa_get g2 hd
    exact ⟨p, vs, i, j, u, rfl, rfl, g1, hr.1, hr.2, by rw [dpa_len g2]; exact hj, e1, q u F2 _ (s1.tr s2) (r2.setL hk (dpa_erase j g2)) e2⟩
/-- xs[i] = e -/
theorem x_setIx {k j : Nat} {p : Addr} {ds : List PyData} {d : PyData} {i : Int} (h : EX B te ε L (.d d) La) (ho : EX B to ε La (.v (.ref p)) Lb) (hi : EX B ti ε Lb (.d (.int i)) Lc) (hk : Lc[k]? = some (.lst p ds)) (hj : ixN ds.length i = some j)
    (q : Ho B D.nx ε (Lc.set k (.lst p (ds.set j d)))) : Ho B (tAsg te (gSub to ti rSetL) D) ε L := fun F σ H r =>
  h F σ H r _ fun y F1 H1 s1 r1 o1 => ho F1 σ H1 r1 _ fun v F2 H2 s2 r2 o2 => hi F2 σ H2 r2 _ fun w F3 H3 s3 r3 o3 => by
    have ev : v = .ref p := o2
    have ew : w = .int i := int_inv o3
    subst ev ew
    obtain ⟨vs, g1, g2⟩ := r3.own _ (List.mem_of_getElem? hk)
    exact ⟨p, vs, i, j, rfl, rfl, g1, by rw [dpa_len g2]; exact hj, q F3 σ _ (r3.setL hk (dpa_set (o1.sub (s2.tr s3)) j g2))⟩
/-! ### the bag -/
section
variable {k : Nat} {pb pc : Addr} {c : List Int} {u m : Int}
theorem Rep.bagL {F : Hp} {σ : St} {H : Hp} (r : Rep B ε L F σ H) (hk : L[k]? = some (.bag pb pc c u m)) : SqL B.K H pb [.ref pc, .int u, .int m] ∧ SqL B.K H pc (c.map V.int) :=
  let h := r.own _ (List.mem_of_getElem? hk)
  ⟨.inl (.inl h.1), .inl (.inl h.2)⟩
theorem Rep.bagNe {F : Hp} {σ : St} {H : Hp} (r : Rep B ε L F σ H) (hk : L[k]? = some (.bag pb pc c u m)) : pb ≠ pc := fun e => by
  have h := r.own _ (List.mem_of_getElem? hk)
  have h1 : H pb = some (.lst [.ref pc, .int u, .int m]) := h.1
  have h2 : H pc = some (.lst (c.map V.int)) := h.2
  rw [← e, h1] at h2
  cases c with
  | nil => cases h2
  | cons a t => cases h2
theorem ex_bag0 (ho : EX B to ε L (.v (.ref pb)) La) (hi : EX B ti ε La (.d (.int 0)) Lb) (hk : Lb[k]? = some (.bag pb pc c u m)) : EX B (tOp (rIxL B.K) to ti) ε L (.v (.ref pc)) Lb := ex_op ho hi fun F σ H v w rp hv hw Q q =>
  ⟨pb, _, 0, .ref pc, hv, int_inv hw, (rp.bagL hk).1, rfl, q _ F H (Sub.rfl' F) rp rfl⟩
theorem ex_bag1 (ho : EX B to ε L (.v (.ref pb)) La) (hi : EX B ti ε La (.d (.int 1)) Lb) (hk : Lb[k]? = some (.bag pb pc c u m)) : EX B (tOp (rIxL B.K) to ti) ε L (.d (.int u)) Lb := ex_op ho hi fun F σ H v w rp hv hw Q q =>
  ⟨pb, _, 1, .int u, hv, int_inv hw, (rp.bagL hk).1, rfl, q _ F H (Sub.rfl' F) rp (.int _)⟩
theorem ex_bag2 (ho : EX B to ε L (.v (.ref pb)) La) (hi : EX B ti ε La (.d (.int 2)) Lb) (hk : Lb[k]? = some (.bag pb pc c u m)) : EX B (tOp (rIxL B.K) to ti) ε L (.d (.int m)) Lb := ex_op ho hi fun F σ H v w rp hv hw Q q =>
  ⟨pb, _, 2, .int m, hv, int_inv hw, (rp.bagL hk).1, rfl, q _ F H (Sub.rfl' F) rp (.int _)⟩
theorem Rep.bagSet {F : Hp} {σ : St} {H : Hp} (r : Rep B ε L F σ H) (hk : L[k]? = some (.bag pb pc c u m)) (u' m' : Int) : Rep B ε (L.set k (.bag pb pc c u' m')) F σ (upd H pb (.lst [.ref pc, .int u', .int m'])) :=
  r.chg (m' := .bag pb pc c u' m') hk rfl ⟨upd_same, by rw [upd_ne (r.bagNe hk).symm]; exact (r.own _ (List.mem_of_getElem? hk)).2⟩ fun a o hq e => by
    rw [upd_ne (fun z => hq (by rw [z]; exact List.mem_cons_self))]; exact e
theorem x_bag1 {z : Int} (h : EX B te ε L (.d (.int z)) La) (ho : EX B to ε La (.v (.ref pb)) Lb) (hi : EX B ti ε Lb (.d (.int 1)) Lc) (hk : Lc[k]? = some (.bag pb pc c u m))
    (q : Ho B D.nx ε (Lc.set k (.bag pb pc c z m))) : Ho B (tAsg te (gSub to ti rSetL) D) ε L := fun F σ H r =>
  h F σ H r _ fun y F1 H1 s1 r1 o1 => ho F1 σ H1 r1 _ fun v F2 H2 s2 r2 o2 => hi F2 σ H2 r2 _ fun w F3 H3 s3 r3 o3 => by
    have ev : v = .ref pb := o2
    have ey : y = .int z := int_inv o1
    subst ev ey
    exact ⟨pb, [.ref pc, .int u, .int m], 1, 1, rfl, int_inv o3, (r3.own _ (List.mem_of_getElem? hk)).1, rfl, q F3 σ _ (r3.bagSet hk z m)⟩
theorem x_bag2 {z : Int} (h : EX B te ε L (.d (.int z)) La) (ho : EX B to ε La (.v (.ref pb)) Lb) (hi : EX B ti ε Lb (.d (.int 2)) Lc) (hk : Lc[k]? = some (.bag pb pc c u m))
    (q : Ho B D.nx ε (Lc.set k (.bag pb pc c u z))) : Ho B (tAsg te (gSub to ti rSetL) D) ε L := fun F σ H r =>
  h F σ H r _ fun y F1 H1 s1 r1 o1 => ho F1 σ H1 r1 _ fun v F2 H2 s2 r2 o2 => hi F2 σ H2 r2 _ fun w F3 H3 s3 r3 o3 => by
    have ev : v = .ref pb := o2
    have ey : y = .int z := int_inv o1
    subst ev ey
    exact ⟨pb, [.ref pc, .int u, .int m], 2, 2, rfl, int_inv o3, (r3.own _ (List.mem_of_getElem? hk)).1, rfl, q F3 σ _ (r3.bagSet hk u z)⟩
theorem ex_popBag {z : Int} (ho : EX B to ε L (.v (.ref pc)) La) (hk : La[k]? = some (.bag pb pc c u m)) (hd : c[c.length - 1]? = some z) : EX B (tBM0 B.K "list" rPop to) ε L (.d (.int z)) (La.set k (.bag pb pc c.dropLast u m)) := fun F σ H r Q q =>
  ho F σ H r _ fun v F1 H1 s1 r1 o1 => by
    have ev : v = .ref pc := o1
    subst ev
    have hb := r1.own _ (List.mem_of_getElem? hk)
    have hc : H1 pc = some (.lst (c.map V.int)) := hb.2
    refine ⟨tyv hc, pc, _, .int z, rfl, rfl, hc, by rw [List.length_map, List.getElem?_map, hd]; rfl, q _ F1 _ s1 ?_ (.int _)⟩
    refine r1.chg (m' := .bag pb pc c.dropLast u m) hk rfl ⟨by rw [upd_ne (r1.bagNe hk)]; exact hb.1, by rw [upd_same, List.map_dropLast]⟩ fun a o hq e => by
      rw [upd_ne (fun z => hq (by rw [z]; exact List.mem_cons_of_mem _ List.mem_cons_self))]; exact e
theorem depth_ints : ∀ l : List Int, PyData.depthAll (l.map PyData.int) = 0
  | [] => rfl
  | a :: l => by
    show max 0 (PyData.depthAll (l.map PyData.int)) = 0
    rw [depth_ints l]; rfl
theorem lay_ints : ∀ l : List Int, PyData.canLayAll0 (l.map PyData.int) = true
  | [] => rfl
  | a :: l => by
    show (true && PyData.canLayAll0 (l.map PyData.int)) = true
    rw [lay_ints l]; rfl
theorem shaped_ints (l : List Int) : SeqAt.shaped (.list (l.map PyData.int)) = true := by
  unfold SeqAt.shaped
  show (PyData.canLayAll0 (l.map PyData.int) && decide (PyData.depthAll (l.map PyData.int) + 1 ≤ 64)) = true
  rw [lay_ints, depth_ints]; rfl
/-- bag[0] != [] -/
theorem ex_bagFull (ho : EX B to ε L (.v (.ref pc)) La) (hk : La[k]? = some (.bag pb pc c u m)) : EX B (tOp (rNeD B.K) to (tLst tNil)) ε L (.d (.bool (!c.isEmpty))) La := fun F σ H r Q q =>
  ho F σ H r _ fun v F1 H1 s1 r1 o1 => ⟨Nat.zero_le _, fun p hp => by
    have ev : v = .ref pc := o1
    subst ev
    have hb := r1.own _ (List.mem_of_getElem? hk)
    have hc : H1 pc = some (.lst (c.map V.int)) := hb.2
    have ne : pc ≠ p := fun e => by rw [e, hp] at hc; cases hc
    have ee : (!PyData.eqv (.list (c.map PyData.int)) (.list [])) = !c.isEmpty := by cases c <;> rfl
    refine ⟨.list (c.map PyData.int), .list [], dq_dp (nodict_shaped (shaped_ints c)) (.lst (by rw [upd_ne ne]; exact hc) (dpa_ints c)), dq_dp rfl (.lst upd_same .nil), shaped_ints c, rfl, ?_⟩
    rw [ee]
    exact q _ F1 _ s1 (r1.heap (sub_fresh hp)) (.bl _)⟩
end
end
end Fz

/-! ## FzD -/
set_option Elab.async false
set_option linter.all false
set_option maxRecDepth 100000
set_option maxHeartbeats 2000000
set_option autoImplicit false
/-! FzD: defs ready to be called; repr of data; // of very great ints. -/
namespace Fz
open PySem L2

/-- a def of the module, ready to be called -/
structure Df (P : Program) (w : World) (K : PySem.W.Frag) (mg : Str → Option Value) (base : Heap) (k : Nat) (x : Str) (ps : List Str) (sp : Sp) : Prop where
  ex : ∃ f fd, FnOk P w K mg base CX0 k f fd ps sp ∧ mg x = some (.ref f) ∧ PySem.W.keepIn K (.ref f) = true ∧ Binds K fd ps []
/-- the same, called with keywords -/
structure DfK (P : Program) (w : World) (K : PySem.W.Frag) (mg : Str → Option Value) (base : Heap) (k : Nat) (x : Str) (ps ks : List Str) (g : List Value → List Value → List Value) (gV : List V → List V → List V) (sp : Sp) : Prop where
  ex : ∃ f fd, FnOk P w K mg base CX0 k f fd ps sp ∧ mg x = some (.ref f) ∧ PySem.W.keepIn K (.ref f) = true ∧ KBinds K fd ps ks g gV
theorem Df.mk' {P : Program} {w : World} {K : PySem.W.Frag} {mg : Str → Option Value} {base : Heap} {k : Nat} {x : Str} {ps : List Str} {sp : Sp} {f : Addr} {fd : FuncData} (F : FnOk P w K mg base CX0 k f fd ps sp) (m : mg x = some (.ref f)) (kp : PySem.W.keepIn K (.ref f) = true) (b : Binds K fd ps []) : Df P w K mg base k x ps sp := ⟨f, fd, F, m, kp, b⟩
section
variable {X : Cx} {k : Nat} {x : Str} {ps ks : List Str} {sp : Sp} {p pos : Pos} {e : Expr} {es : List Expr} {kws : List Keyword} {t tk : TA} {g : List Value → List Value → List Value} {gV : List V → List V → List V}
theorem pe_callD (C : Df X.prog X.w X.K X.mg X.base k x ps sp) (hr : Room k X.A) (hg : Gl X x) (ha : PA X (e :: es) t) (hdb : (x == ("__debug__" : Str)) = false := by decide)
    (he : starEach (e :: es) X.env = (false, eval e X.env) :: starEach es X.env := by rfl) (hpl : (backTo pos (starEach es X.env)).any (·.1) = false := by rfl) : PE X (.Call (.Name x p) (e :: es) [] pos) (tCall sp [] E0 t) := by
  obtain ⟨f, fd, F, m, kp, b⟩ := C.ex
  exact pe_call F hr hg m kp b .nil pass0 ha hdb he hpl
theorem pe_callKD (C : DfK X.prog X.w X.K X.mg X.base k x ps ks g gV sp) (hr : Room k X.A) (hg : Gl X x) (hkw : PK X kws tk) (hall : (backToKw pos (keywordEach kws X.env)).all (·.1.isSome) = true := by rfl)
    (hks : (backToKw pos (keywordEach kws X.env)).filterMap (·.1) = ks := by rfl) (hdb : (x == ("__debug__" : Str)) = false := by decide)
    (hpl : ((backTo pos (starEach [] X.env)).any (·.1) || (backToKw pos (keywordEach kws X.env)).any (·.1.isNone)) = false := by rfl) : PE X (.Call (.Name x p) [] kws pos) (tCallK sp gV E0 tNil tk) := by
  obtain ⟨f, fd, F, m, kp, b⟩ := C.ex
  refine ⟨fun pins s σ H Q I h => ?_⟩
  refine wpAny_Call_Name_kw (ld_glob I hg m ?_ hdb)
  refine PySem.W.callWith_KW0 (h₀ := X.base) I.ok.mod.kin kp hall (thn (hkw.run pos pins s σ H _ I h) fun ws s2 ⟨zs, H2, I2, rz, q2⟩ => ⟨I2.kIn, ?_⟩) hpl
  rw [hks]
  exact run_fnk F hr b pass0 I2 .nil rz q2
end
/-- keywords alone: idx tells where each parameter's value stands among them -/
def kwG {α : Type} (n : Nat) (idx : List Nat) (us ws : List α) : List α := if us.isEmpty && ws.length == n then idx.filterMap (fun i => ws[i]?) else []
theorem kwG_vals {n : Nat} {idx : List Nat} {vs : List V} {us : List Value} {zs : List V} {ws : List Value} (r : Vals vs us) (q : Vals zs ws) : Vals (kwG n idx vs zs) (kwG n idx us ws) := by
  unfold kwG
  have e1 : vs.isEmpty = us.isEmpty := by cases r <;> rfl
  rw [e1, q.length]
  split
  · clear e1
    induction idx with
    | nil => exact .nil
    | cons i idx ih =>
      rw [List.filterMap_cons, List.filterMap_cons]
      cases e : zs[i]? with
      | none => rw [q.none_of e]; exact ih
      | some z =>
        obtain ⟨u, h1, h2⟩ := q.get e
        rw [h1]
        exact .cons h2 ih
  · exact .nil
theorem kwG_shape {α : Type} {n m : Nat} {idx : List Nat} {us ws : List α} (h : (kwG n idx us ws).length = m + 1) : us = [] ∧ ws.length = n := by
  unfold kwG at h
  split at h
  · rename_i c
    rw [Bool.and_eq_true] at c
    exact ⟨List.isEmpty_iff.mp c.1, beq_iff_eq.mp c.2⟩
  · cases h
/-- two parameters, by names -/
theorem kb2 {K : PySem.W.Frag} {fd : FuncData} {ps ks : List Str} {idx : List Nat} (hp : ps.length = 2) (h : ∀ a b : Value, bindArgs fd ⟨[], ks.zip [a, b]⟩ = pure (ps.zip (kwG 2 idx [] [a, b]))) : KBinds K fd ps ks (kwG 2 idx) (kwG 2 idx) :=
  ⟨fun s us ws _ hl => by
    obtain ⟨rfl, hw⟩ := kwG_shape (m := 1) (hl.trans hp)
    match ws, hw with
    | [a, b], _ => exact .of_eq (h a b), fun r q => kwG_vals r q⟩
theorem kb3 {K : PySem.W.Frag} {fd : FuncData} {ps ks : List Str} {idx : List Nat} (hp : ps.length = 3) (h : ∀ a b c : Value, bindArgs fd ⟨[], ks.zip [a, b, c]⟩ = pure (ps.zip (kwG 3 idx [] [a, b, c]))) : KBinds K fd ps ks (kwG 3 idx) (kwG 3 idx) :=
  ⟨fun s us ws _ hl => by
    obtain ⟨rfl, hw⟩ := kwG_shape (m := 2) (hl.trans hp)
    match ws, hw with
    | [a, b, c], _ => exact .of_eq (h a b c), fun r q => kwG_vals r q⟩

/-! ### // by a positive int of any size -/
section
variable {X : Cx} {k : Nat}
theorem op_fdivP (hr : Room k X.A) (hN : X.base.NoSeer ∧ X.prog.given.tree = none) (hk : 40 ≤ k := by decide) (hst : X.stack = X.env :: X.outer := by rfl) (hgen : X.env.scope.isGenerator = false := by rfl) (hco : X.env.scope.isCoroutine = false := by rfl)
    (hb : X.env.builtins = builtinsNs := by rfl) (hg : X.env.globals = mainGlobals := by rfl) : OpR X (binaryOp .FloorDiv) (rI (fun _ j => 0 < j) fun i j => .int (i / j)) := by
  intro pins s σ H x y v u Q I rx ry h
  obtain ⟨i, j, rfl, rfl, hc, q⟩ := h
  obtain ⟨t, rfl⟩ := rx
  obtain ⟨t', rfl⟩ := ry
  have hd : X.A.depth + Builtin.pylongFrames < recursionLimit := by
    have := hr.dp
    show X.A.depth + 100 < _
    omega
  have hsr : SeerAt (model X.prog X.w) X.A s.heap := SeerAt.of (hN.1.keeps I.bk) hN.2 (by rw [I.ok.frames, hst]) hgen hco hb hg
  refine PyProof.Rows.floordiv_int (by omega) ?_ (.inr (PylongRoom.of I.nolimit hd hsr))
  rw [Int.fdiv_eq_ediv_of_nonneg i (by omega)]
  exact ⟨.int (i / j), H, I.tok _, ⟨_, rfl⟩, q⟩
end
section
variable {B : Bg} {ε : Eps} {L La Lb : Own} {ta tb : TE} {i j : Int}
theorem ex_fdivP (ha : EX B ta ε L (.d (.int i)) La) (hb : EX B tb ε La (.d (.int j)) Lb) (hc : 0 < j) : EX B (tOp (rI (fun _ j => 0 < j) fun i j => .int (i / j)) ta tb) ε L (.d (.int (i / j))) Lb := ex_op ha hb (rx_I hc fun _ _ => .int _)
end

/-! ### where nothing is under way: repr -/
structure GOk (P : Program) (w : World) (K : PySem.W.Frag) (mg : Str → Option Value) (base : Heap) (k : Nat) (f : Addr) (fd : FuncData) (ps : List Str) (sp : Sp) : Prop where
  len : ∀ vs H Q E, sp vs H Q E → vs.length = ps.length
  run : ∀ (A : Around) (outer : List Env) (s : Shared) (H : Hp) (args : Args) (us : List Value) (vs : List V) (Q : VK), Room k A → A.guards = some [] → Env0 P w K mg base A outer s H → BindsTo s fd args (ps.zip us) → Vals vs us → sp vs H Q E0 →
    codeAny (model P w) A (.call (.ref f) args) (CR CX0 outer P w H s Q E0) s
structure GDf (P : Program) (w : World) (K : PySem.W.Frag) (mg : Str → Option Value) (base : Heap) (k : Nat) (x : Str) (ps : List Str) (sp : Sp) : Prop where
  ex : ∃ f fd, GOk P w K mg base k f fd ps sp ∧ mg x = some (.ref f) ∧ PySem.W.keepIn K (.ref f) = true ∧ Binds K fd ps []
theorem GDf.mk' {P : Program} {w : World} {K : PySem.W.Frag} {mg : Str → Option Value} {base : Heap} {k : Nat} {x : Str} {ps : List Str} {sp : Sp} {f : Addr} {fd : FuncData} (F : GOk P w K mg base k f fd ps sp) (m : mg x = some (.ref f)) (kp : PySem.W.keepIn K (.ref f) = true) (b : Binds K fd ps []) : GDf P w K mg base k x ps sp := ⟨f, fd, F, m, kp, b⟩
section
variable {X : Cx} {k : Nat} {x : Str} {ps : List Str} {sp : Sp} {p pos : Pos} {e : Expr} {es : List Expr} {t : TA}
theorem pe_callG (hG : X.A.guards = some []) (C : GDf X.prog X.w X.K X.mg X.base k x ps sp) (hr : Room k X.A) (hg : Gl X x) (ha : PA X (e :: es) t) (hdb : (x == ("__debug__" : Str)) = false := by decide)
    (he : starEach (e :: es) X.env = (false, eval e X.env) :: starEach es X.env := by rfl) (hpl : (backTo pos (starEach es X.env)).any (·.1) = false := by rfl) : PE X (.Call (.Name x p) (e :: es) [] pos) (tCall sp [] E0 t) := by
  obtain ⟨f, fd, F, m, kp, b⟩ := C.ex
  refine ⟨fun pins s σ H Q I h => ?_⟩
  refine wpAny_Call_Name_kw (ld_glob I hg m ?_ hdb)
  refine PySem.W.callWith_K (h₀ := X.base) I.ok.mod.kin kp (thn (ha.run pos pins s σ H _ I h) fun us s1 ⟨vs, H1, I1, rv, q⟩ => ⟨I1.kIn, ?_⟩) he hpl
  have q : sp (vs ++ []) H1 Q E0 := q
  rw [List.append_nil] at q
  have hlen : us.length = ps.length := by rw [← rv.length]; exact F.len _ _ _ _ q
  have bt : BindsTo s1 fd ⟨us, []⟩ (ps.zip us) := by
    have z := b s1 us I1.kIn (by rw [List.append_nil]; exact hlen)
    rw [List.append_nil] at z
    exact z
  refine wpAny_call (codeAny_mono (F.run X.A X.stack s1 H1 ⟨us, []⟩ us vs Q hr hG I1.env0 bt rv q) fun res s' hres => ?_)
  match res, hres with
  | .error e, hq => exact False.elim hq
  | .ok (.ret u), hq => exact I1.after hq
  | .ok .next, hq => exact False.elim hq
  | .ok .brk, hq => exact False.elim hq
  | .ok .cont, hq => exact False.elim hq
mutual
/-- no list within -/
def noLst : PyData → Bool
  | .list _ => false
  | .tuple ds => noLsts ds
  | _ => true
def noLsts : List PyData → Bool
  | [] => true
  | d :: ds => noLst d && noLsts ds
end
section
variable {pins : List (Addr × Obj)} {σ : St} {H : Hp} {s : Shared}
theorem sim_reads {h : Heap} {v : V} {u : Value} {d : PyData} (hs : simV v = some d) (r : RelV v u) : Reads h u d [] := by
  cases v with
  | non => cases hs; cases r; exact .none
  | bl b => cases hs; cases r; exact .bool b
  | int i => cases hs; obtain ⟨t, rfl⟩ := r; exact .int i t
  | str x => cases hs; obtain ⟨t, rfl⟩ := r; exact .str x t
  | _ => cases hs
theorem key_reads {h : Heap} {k : Key} {u : Value} (hk : keyIs k u = true) : Reads h u (keyD k) [] := by
  rcases keyIs_shape hk with ⟨i, t, rfl, rfl⟩ | ⟨x, t, rfl, rfl⟩
  · exact .int i t
  · exact .str x t
theorem kvs_reads {h : Heap} {P : Program} {w : World} : ∀ {es : List DictEntry} {ws : List (Key × Value)} {kvs : List (Key × V)} {ps : List (PyData × PyData)}, Pairs (mixKind P w) es ws → KV kvs ws → KvD kvs ps →
    ReadsAll h (es.map (·.key)) (ps.map (·.1)) [] ∧ ReadsAll h (es.map (·.val)) (ps.map (·.2)) []
  | _, _, _, ps, .nil, kv, kd => by
    cases kv
    cases ps with
    | nil => exact ⟨.nil, .nil⟩
    | cons p ps => cases kd
  | _, _, _, ps, .cons hk hv t, kv, kd => by
    cases kv with
    | cons q kv =>
      cases ps with
      | nil => cases kd
      | cons p ps =>
        unfold KvD at kd
        rw [List.map_cons, List.map_cons] at kd
        injection kd with k1 k2
        injection k1 with e1 e2
        obtain ⟨i1, i2⟩ := kvs_reads t kv k2
        obtain ⟨q1, q2⟩ := q
        refine ⟨ReadsAll.cons (as := []) (bs := []) ?_ i1, ReadsAll.cons (as := []) (bs := []) ?_ i2⟩
        · show Reads h _ p.1 []
          rw [← e1, q1]; exact key_reads hk
        · show Reads h (DictEntry.val _) _ []
          rw [hv]; exact sim_reads e2 q2
mutual
theorem dq_reads (I : Inv X pins σ H s) : ∀ {d : PyData} {v : V} {u : Value}, Dq X.K H v d → RelV v u → ∃ as, Reads s.heap u d as ∧ (noLst d = true → sysModules ∉ as)
  | .none, _, _, h, r => by
    cases h
    cases r
    exact ⟨_, .none, fun _ z => nomatch z⟩
  | .bool b, _, _, h, r => by
    cases h
    cases r
    exact ⟨_, .bool b, fun _ z => nomatch z⟩
  | .int i, _, _, h, r => by
    cases h
    obtain ⟨t, rfl⟩ := r
    exact ⟨_, .int i t, fun _ z => nomatch z⟩
  | .str x, _, _, h, r => by
    cases h
    obtain ⟨t, rfl⟩ := r
    exact ⟨_, .str x t, fun _ z => nomatch z⟩
  | .list ds, _, _, h, r => by
    cases h with
    | lst hs ha =>
      cases r
      obtain ⟨its, rv, ⟨o, n, ho, hc, _, hd⟩, _⟩ := I.list (.inl (.inl hs))
      obtain ⟨as, hr, _⟩ := dq_readsAll I ha rv
      exact ⟨_, .list ho hc hd hr, fun z => nomatch z⟩
  | .tuple ds, _, _, h, r => by
    cases h with
    | tup hs ha =>
      cases r
      obtain ⟨its, rv, ⟨o, ho, hc, n, hd⟩, _⟩ := I.tuple (.inl (.inl hs))
      obtain ⟨as, hr, hn⟩ := dq_readsAll I ha rv
      exact ⟨_, .tuple ho hc hd hr, hn⟩
  | .dict _, _, _, h, r => by
    cases h with
    | dic ha hk =>
      cases r
      obtain ⟨_, hne, ws, kv, o, es, ep, ho, hx, hd, _, hp, _⟩ := dk_of I.hok ha
      obtain ⟨r1, r2⟩ := kvs_reads (h := s.heap) hp kv hk
      refine ⟨_, .dict ho hx.1 hd r1 r2, fun _ z => ?_⟩
      rw [List.append_nil] at z
      exact (beq_eq_false_iff_ne.mp hne) (List.mem_singleton.mp z).symm
theorem dq_readsAll (I : Inv X pins σ H s) : ∀ {ds : List PyData} {vs : List V} {us : List Value}, DqAll X.K H vs ds → Vals vs us → ∃ as, ReadsAll s.heap us ds as ∧ (noLsts ds = true → sysModules ∉ as)
  | [], _, _, h, r => by
    cases h
    cases r
    exact ⟨_, .nil, fun _ z => nomatch z⟩
  | d :: ds, _, _, h, r => by
    cases h with
    | cons h1 h2 =>
      cases r with
      | cons r1 r2 =>
        obtain ⟨as, q1, n1⟩ := dq_reads I h1 r1
        obtain ⟨bs, q2, n2⟩ := dq_readsAll I h2 r2
        refine ⟨_, .cons q1 q2, fun z m => ?_⟩
        have z : (noLst d && noLsts ds) = true := z
        rw [Bool.and_eq_true] at z
        rcases List.mem_append.mp m with m | m
        · exact n1 z.1 m
        · exact n2 z.2 m
end
end
/-- what repr can show: no dict beside a list -/
def repOk (d : PyData) : Bool := !d.hasDict || noLst d
def rReprD (K : PySem.W.Frag) : List V → Hp → VK → Prop := fun xs H Q => ∃ v d, xs = [v] ∧ Dq K H v d ∧ d.showable = true ∧ repOk d = true ∧ d.depth ≤ 64 ∧ d.shown.length ≤ sizeLine ∧ Q (.str d.shown) H
theorem call_reprD (hr : Room k X.A) (hG : X.A.guards = some []) : CallR X (.builtin "repr") (rReprD X.K) := by
  intro pins s σ H xs us Q I r h
  obtain ⟨v, d, rfl, hd, h1, h2, h3, h4, q⟩ := h
  obtain ⟨u, rfl, ru⟩ := vals1 r
  have fin : ∀ h' (z : Tok) (tk : Nat), (∀ b o, s.heap.get? b = some o → h'.get? b = some o) → EP X pins σ Q (.str d.shown z) { s with heap := h', toks := tk } := fun h' z tk hk =>
    ⟨.str d.shown, H, I.kept hk, ⟨z, rfl⟩, q⟩
  have big : ∀ a, u = .ref a → wpAny (model X.prog X.w) X.A (call (.builtin "repr") [u]) (EP X pins σ Q) X.xe s := fun a e => by
    subst e
    obtain ⟨as, rd, hn⟩ := dq_reads I hd ru
    refine repr_of_reads' rd h1 (fun hdd => hn ?_) hG (by have := hr.units; have := hr.un; omega) (fun _ _ e => e) (fun h' z tk hk => fin h' z tk hk) h4
    unfold repOk at h2
    rw [hdd] at h2
    exact h2
  cases hd with
  | non => cases ru; exact PySem.P.repr_of_none (fin s.heap _ _ fun _ _ e => e)
  | bl b => cases ru; exact PySem.P.repr_of_bool (fin s.heap _ _ fun _ _ e => e)
  | int i => obtain ⟨t, rfl⟩ := ru; exact PySem.P.repr_of_int (by simpa [PyData.showable] using h1) (fin s.heap _ _ fun _ _ e => e)
  | str z => obtain ⟨t, rfl⟩ := ru; exact PySem.P.repr_of_str (fin s.heap _ _ fun _ _ e => e) h4
  | @lst a _ _ _ _ => exact big a ru
  | @tup a _ _ _ _ => exact big a ru
  | @dic a _ _ _ _ => exact big a ru
end
section
variable {B : Bg} {ε : Eps} {L La : Own} {te : TE}
theorem ex_reprO {d : PyData} (h : EX B te ε L (.d d) La) (h1 : d.showable = true) (h2 : repOk d = true) (h3 : d.depth ≤ 64) (h4 : d.shown.length ≤ sizeLine) : EX B (tCB (rReprD B.K) (tCons te tNil)) ε L (.d (.str d.shown)) La := fun F σ H r Q q =>
  h F σ H r _ fun v F1 H1 s1 r1 o1 => ⟨v, d, rfl, dp_sub r1.sub o1, h1, h2, h3, h4, q _ F1 H1 s1 r1 (.str _)⟩
theorem ex_repr {d : PyData} (h : EX B te ε L (.d d) La) (h1 : d.showable = true) (h2 : d.hasDict = false) (h3 : d.depth ≤ 64) (h4 : d.shown.length ≤ sizeLine) : EX B (tCB (rReprD B.K) (tCons te tNil)) ε L (.d (.str d.shown)) La :=
  ex_reprO h h1 (by unfold repOk; rw [h2]; rfl) h3 h4
end

/-! ### the rule for a def where nothing is under way -/
section
variable {P : Program} {w : World} {K : PySem.W.Frag} {mg : Str → Option Value} {base : Heap}
theorem g_ok {x qual : Str} {st : Stmt} {f : Addr} {fd : FuncData} {N ps : List Str} {k : Nat} {sp : Sp} (Fn : Fun K x qual st f fd) (S : FnScope N ps (defScope st)) (len : ∀ vs H Q E, sp vs H Q E → vs.length = ps.length)
    (hbody : ∀ (cdv : Value) (A : Around) (outer : List Env) (s : Shared) (H : Hp) (vs : List V) (Q : VK), Room k (A.deeper (PyProof.Rows.envOfC qual (defScope st) s.heap.objs.size f cdv)) → (A.deeper (PyProof.Rows.envOfC qual (defScope st) s.heap.objs.size f cdv)).guards = some [] → sp vs H Q E0 →
      ∃ t, PSs (cxOf CX0 P w K mg base N qual (defScope st) f cdv A outer s H E0).nox (defBody st) t ∧ t { nx := fun _ H' => Q .non H', rt := Q } (_root_.L2.start N vs) H) : GOk P w K mg base (k + 1) f fd ps sp := by
  obtain ⟨oc, od, kV, doc, pm, an, cdv, ct, osl, rfl, lk, hcd⟩ := Fn.ex
  refine ⟨len, fun A outer s H args us vs Q hr hG e0 hbd rv hsp => ?_⟩
  have hvl := len _ _ _ _ hsp
  have inK : K.In s.heap := e0.mod.kin.keeps fun b o z => (e0.bs b o z).1
  have nolim : s.heap.NoLimit := e0.mod.nolimit.keeps fun b o z => (e0.bs b o z).1
  have kinds : ∀ y ∈ ps.zip us, (defScope st).names.lookup y.1 = some .local ∨ ((defScope st).names.lookup y.1 = some .cell ∧ ((cellsFrom (s.heap.objs.size + 1) (defScope st).names []).lookup y.1).isSome = true) := fun ⟨n, v⟩ hy => by
    cases S.par n (List.of_mem_zip hy).1 with
    | inl z => exact .inl z
    | inr z => exact .inr ⟨z, PySem.W.cellsFrom_some _ _ _ (.inl z)⟩
  refine codeAny_call_function hr.depth (inK _ _ lk) rfl S.co S.gen rfl (PySem.W.codeRec_of inK hcd) (hbd _ _ _ _ ?_)
  refine wpAny_newFunctionEnv_cells S.kind kinds fun env he s1 ic => ?_
  subst he
  refine ⟨nolim.keeps ic.toInCall.keep, codeAny_func ?_⟩
  obtain ⟨t, ht, hq⟩ := hbody cdv A outer s H vs Q (hr.deeper _) hG hsp
  have I := inv_start (CX := CX0) (E := E0) (cd := cdv) (f := f) (qual := qual) S hr.hd e0 hvl rv ic
  refine wpAny_mono (ht.nox.run [] s1 (_root_.L2.start N vs) H _ I hq) (fun fl s' hs => ?_) fun e s' hs => hs
  match fl, hs with
  | .ret u, ⟨v, σ', H', J, rv', q⟩ => exact ⟨v, H', J.os, J.bare, J.base, J.hok, rv', q⟩
  | .next, ⟨σ', H', J, q⟩ => exact ⟨V.non, H', J.os, J.bare, J.base, J.hok, rfl, q⟩
  | .brk, ⟨_, _, _, q⟩ => exact False.elim q
  | .cont, ⟨_, _, _, q⟩ => exact False.elim q
theorem g_bag {x qual : Str} {st : Stmt} {f : Addr} {fd : FuncData} {N ps : List Str} {k : Nat} {R : Bag → List PyData → PyData → Bag → Prop} (Fn : Fun K x qual st f fd) (S : FnScope N ps (defScope st)) (hps : ps.length ≤ N.length) (len : ∀ b ds d b', R b ds d b' → ds.length + 1 = ps.length)
    (hbody : ∀ (cdv : Value) (A : Around) (outer : List Env) (s : Shared) (H : Hp), Room k (A.deeper (PyProof.Rows.envOfC qual (defScope st) s.heap.objs.size f cdv)) → (A.deeper (PyProof.Rows.envOfC qual (defScope st) s.heap.objs.size f cdv)).guards = some [] →
      ∃ t, PSs (cxOf CX0 P w K mg base N qual (defScope st) f cdv A outer s H E0).nox (defBody st) t ∧
        ∀ (B : Bg) (Q : VK) pb pc b ds d b', B.K = K → B.M = [pb, pc] → R b ds d b' → (∀ v F' H', NxM [pb, pc] B.F0 B.H0 F' H' → BagAt H' pb pc b'.cells b'.cur b'.mix → Dq K F' v d → Q v H') →
          Ho B (t { nx := fun _ H' => Q .non H', rt := Q }) (some (.v (.ref pb)) :: argE ds (N.length - 1)) [b.at pb pc]) :
    GOk P w K mg base (k + 1) f fd ps (spB K R) := by
  refine g_ok Fn S (fun vs H Q E h => ?_) fun cdv A outer s H vs Q hr hG h => ?_
  · obtain ⟨F, pb, pc, b, vs', ds, d, b', rfl, _, _, _, _, _, hd, hR, _⟩ := h
    rw [List.length_cons, dpa_len hd]; exact len b ds d b' hR
  · obtain ⟨t, ht, hb⟩ := hbody cdv A outer s H hr hG
    obtain ⟨F, pb, pc, b, vs', ds, d, b', rfl, hs, f1, f2, ne, bg, hd, hR, q⟩ := h
    refine ⟨t, ht, hb ⟨K, F, H, [pb, pc]⟩ Q pb pc b ds d b' rfl rfl hR q F _ H (rep_startB hs f1 f2 ne bg hd ?_)⟩
    rw [len b ds d b' hR]; exact hps
end
end Fz

/-! ## FzP -/
set_option Elab.async false
set_option linter.all false
set_option maxRecDepth 100000
set_option maxHeartbeats 2000000
set_option autoImplicit false
/-! FzP: comprehensions that own nothing new. -/
namespace Fz
open PySem L2
section
variable {B : Bg} {ε : Eps} {L La : Own} {te tl : TE} {tt : TT} {tas : TA} {g : TG} {vs : List Nat}
theorem range_filter_succ {α : Type} {t : Nat → Bool} {f : Nat → α} {i : Nat} : ((List.range (i + 1)).filter t).map f = ((List.range i).filter t).map f ++ (if t i = true then [f i] else []) := by
  rw [List.range_succ, List.filter_append, List.map_append, List.filter_cons]
  split <;> rfl
theorem en_lcR1P {j : Nat} {n : Int} (t : Nat → Bool) (f : Nat → PyData) (h : EA B tas ε L [.d (.int n)] La) (hn : n ≤ 90000 ∧ -(2 ^ 62) ≤ n) (hj : j ∈ vs)
    (ht : ∀ (i : Nat) m, (i : Int) < n → ETt B tt ((wipeE ε vs).set j (some (.d (.int (i : Int))))) (La ++ [m]) (t i) (La ++ [m]))
    (he : ∀ (i : Nat) m, (i : Int) < n → t i = true → EX B te ((wipeE ε vs).set j (some (.d (.int (i : Int))))) (La ++ [m]) (.d (f i)) (La ++ [m])) :
    EN B (tLc (iRng1 tas) (gName j) tt te vs) ε L (((List.range n.toNat).filter t).map f) La :=
  en_lcR1 h (by omega) (fun i acc L => acc = ((List.range i).filter t).map f ∧ L = La) ⟨rfl, rfl⟩ hj (fun i hi acc L' ⟨ha, hL⟩ => by
    subst ha hL
    refine ⟨?_, _, gt_name, t i, L', fun m => ht i m hi, fun hb => ⟨f i, L', fun m => he i m hi hb, ?_, rfl⟩, fun hb => ⟨?_, rfl⟩⟩
    · rw [List.length_map]
      exact Nat.lt_of_le_of_lt (List.length_filter_le _ _) (by rw [List.length_range]; omega)
    · rw [range_filter_succ, if_pos hb]
    · rw [range_filter_succ, if_neg (by rw [hb]; exact Bool.false_ne_true)]; exact (List.append_nil _).symm) fun acc L' h => h
theorem en_lcR2P {j : Nat} {lo n : Int} (t : Nat → Bool) (f : Nat → PyData) (h : EA B tas ε L [.d (.int lo), .d (.int n)] La) (hn : (-90000 ≤ lo ∧ lo ≤ 90000) ∧ n ≤ 90000 ∧ -90000 ≤ n) (hj : j ∈ vs)
    (ht : ∀ (i : Nat) m, lo + (i : Int) < n → ETt B tt ((wipeE ε vs).set j (some (.d (.int (lo + (i : Int)))))) (La ++ [m]) (t i) (La ++ [m]))
    (he : ∀ (i : Nat) m, lo + (i : Int) < n → t i = true → EX B te ((wipeE ε vs).set j (some (.d (.int (lo + (i : Int)))))) (La ++ [m]) (.d (f i)) (La ++ [m])) (hz : n - lo ≤ 90000) :
    EN B (tLc (iRng2 tas) (gName j) tt te vs) ε L (((List.range (n - lo).toNat).filter t).map f) La :=
  en_lcR2 h (by omega) (fun i acc L => acc = ((List.range i).filter t).map f ∧ L = La) ⟨rfl, rfl⟩ hj (fun i hi acc L' ⟨ha, hL⟩ => by
    subst ha hL
    refine ⟨?_, _, gt_name, t i, L', fun m => ht i m hi, fun hb => ⟨f i, L', fun m => he i m hi hb, ?_, rfl⟩, fun hb => ⟨?_, rfl⟩⟩
    · rw [List.length_map]
      exact Nat.lt_of_le_of_lt (List.length_filter_le _ _) (by rw [List.length_range]; omega)
    · rw [range_filter_succ, if_pos hb]
    · rw [range_filter_succ, if_neg (by rw [hb]; exact Bool.false_ne_true)]; exact (List.append_nil _).symm) fun acc L' h => h
theorem en_lcLP {xs : List PyData} (t : PyData → Bool) (f : PyData → PyData) (E2 : PyData → Eps) (h : EX B tl ε L (.d (.list xs)) La) (hz : xs.length ≤ 90000)
    (hw : ∀ (v : V) (σ : St) (H : Hp) (P : St → Hp → Prop), (g v (wipe σ vs) H P ↔ g v (wipe σ vs) H fun σ2 H2 => wipe σ2 vs = wipe σ vs ∧ P σ2 H2))
    (hg : ∀ d ∈ xs, GT B g (.d d) (wipeE ε vs) (E2 d)) (ht : ∀ d ∈ xs, ∀ m, ETt B tt (E2 d) (La ++ [m]) (t d) (La ++ [m])) (he : ∀ d ∈ xs, t d = true → ∀ m, EX B te (E2 d) (La ++ [m]) (.d (f d)) (La ++ [m])) :
    EN B (tLc (iList B.K tl) g tt te vs) ε L ((xs.filter t).map f) La :=
  en_lcL h (fun i acc L => acc = ((xs.take i).filter t).map f ∧ L = La) ⟨rfl, rfl⟩ hw (fun i d hd => cturn_pure hd hz (hg d (List.mem_of_getElem? hd)) (ht d (List.mem_of_getElem? hd)) (he d (List.mem_of_getElem? hd)))
    fun acc L' ⟨h1, h2⟩ => ⟨by rw [h1, List.take_length], h2⟩
theorem en_lcTP {xs : List PyData} (t : PyData → Bool) (f : PyData → PyData) (E2 : PyData → Eps) (h : EX B tl ε L (.d (.tuple xs)) La) (hz : xs.length ≤ 90000)
    (hw : ∀ (v : V) (σ : St) (H : Hp) (P : St → Hp → Prop), (g v (wipe σ vs) H P ↔ g v (wipe σ vs) H fun σ2 H2 => wipe σ2 vs = wipe σ vs ∧ P σ2 H2))
    (hg : ∀ d ∈ xs, GT B g (.d d) (wipeE ε vs) (E2 d)) (ht : ∀ d ∈ xs, ∀ m, ETt B tt (E2 d) (La ++ [m]) (t d) (La ++ [m])) (he : ∀ d ∈ xs, t d = true → ∀ m, EX B te (E2 d) (La ++ [m]) (.d (f d)) (La ++ [m])) :
    EN B (tLc (iTup B.K tl) g tt te vs) ε L ((xs.filter t).map f) La :=
  en_lcT h (fun i acc L => acc = ((xs.take i).filter t).map f ∧ L = La) ⟨rfl, rfl⟩ hw (fun i d hd => cturn_pure hd hz (hg d (List.mem_of_getElem? hd)) (ht d (List.mem_of_getElem? hd)) (he d (List.mem_of_getElem? hd)))
    fun acc L' ⟨h1, h2⟩ => ⟨by rw [h1, List.take_length], h2⟩
end
end Fz
namespace Fz
open PySem L2
section
variable {B : Bg} {ε : Eps} {L : Own} {X : St → Hp → Prop} {rt : V → Hp → Prop} {bk ct : St → Hp → Prop}
theorem nxt (h : Ho B X ε L) : Ho B (Ends.nx ⟨X, rt, bk, ct⟩) ε L := h
theorem nxc (h : Ho B X ε L) {nx : St → Hp → Prop} : Ho B (Ends.ct ⟨nx, rt, bk, X⟩) ε L := h
end
end Fz
namespace Fz
open PySem L2
section
variable {B : Bg} {ε : Eps} {L : Own} {ts tc : TS} {D : Ends} {rt : V → Hp → Prop} {bk ct : St → Hp → Prop}
theorem x_sq (h : Ho B (ts { D with nx := tc D }) ε L) : Ho B (Ends.nx ⟨tSeq ts tc D, rt, bk, ct⟩) ε L := h
theorem x_sn (h : Ho B D.nx ε L) : Ho B (Ends.nx ⟨tNext D, rt, bk, ct⟩) ε L := h
end
end Fz

/-! ## FzM -/
set_option Elab.async false
set_option linter.all false
set_option maxRecDepth 100000
set_option maxHeartbeats 4000000
set_option autoImplicit false
/-! FzM: list(reversed(list)), at the model's level. -/
namespace Fz
open PySem PySem.Spec PyProof.Rows L2 RT
open Sem (wp)
section
variable {prog : Program} {w : World} {A : Around} {E : Value → Shared → Prop} {s : Shared}
theorem extend_rev {R : Result → Shared → Prop} {it l S : Addr} {items : Array Value} {res : Value} {c0 : Nat} (hh : A.handled = none) (hit : s.heap.IsRevIter it l ((items.size : Int) - 1)) (hl : s.heap.IsList l items) (hne : l ≠ it) (hn : items.size ≤ sizeLine)
    (hSi : S ≠ it) (hSl : S ≠ l) (hS : s.heap.get? S = some { cls := .type "list", data := .seq #[] c0 })
    (hR : ∀ h' tk acc' c', (∀ b o, b ≠ S → b ≠ it → s.heap.get? b = some o → h'.get? b = some o) → h'.get? S = some { cls := .type "list", dict := none, data := .seq acc' c', slots := #[] } →
      ItemsOf (fun i v => items[items.size - 1 - i]? = some v) acc' items.size → R (.ok (.ret res)) { s with heap := h', toks := tk }) :
    wpAny (model prog w) A.in1 (Builtin.List.listExtendWith (.ref S) (.ref it) res)
      (fun fin s' => match fin with | .done f => R (.ok f) s' | .again c' => c'.quiet = true ∧ codeAny (model prog w) A c' R s') (fun e s' => R (.error e) s') s := by
  have W := (Walks.listRev (prog := prog) (w := w) (A := A.in1) hh it l hne items).toS
  have hSf : S ∉ [it, l] := by simp [hSi, hSl]
  have hT : s.TypeIs (.ref it) "list_reverseiterator" := hit.typeIs
  have same : Builtin.List.listSameRef (.ref S) (.ref it) = false := by simp [Builtin.List.listSameRef, hSi]
  have n1 : (Value.type "list_reverseiterator" == Value.type "list") = false := by decide
  have n2 : (Value.type "list_reverseiterator" == Value.type "tuple") = false := by decide
  have e0 : ((items.size : Nat) : Int) - 1 - ((0 : Nat) : Int) = (items.size : Int) - 1 := by omega
  have key : ∀ (h : Heap) (c₁ tk : Nat), h.IsRevIter it l ((items.size : Int) - 1) → h.IsList l items → (∀ b o, b ≠ S → s.heap.get? b = some o → h.get? b = some o) →
      h.get? S = some { cls := .type "list", data := .seq #[] c₁ } → codeAny (model prog w) A (.builtin "list.extend.loop" ⟨[.ref S, .ref it, res], []⟩) R { s with heap := h, toks := tk } := by
    intro h c₁ tk h1 h2 hk hS₁
    refine codeAny_extend_loopS W hn S hSf res items.size 0 _ #[] c₁ rfl (Nat.zero_le _) ⟨Nat.zero_le _, by rw [e0]; exact h1, h2⟩ hS₁ (ItemsOf.nil _) fun s' acc' c' hm hS' hacc => ?_
    rw [Moved.eq_with hm]
    refine hR s'.heap s'.toks acc' c' (fun b o hb hbi e => hm.heap b o (fun hmem => ?_) (hk b o hb e)) hS' hacc
    rcases List.mem_cons.mp hmem with z | z
    · exact hb z
    · exact hbi (List.mem_singleton.mp z)
  unfold Builtin.List.listExtendWith
  refine wpAny_bind (wpAny_typeOf hT ?_)
  simp only [same, n1, n2, Bool.or_false, Bool.false_eq_true, if_false]
  refine wpAny_bind (wpAny_pyIter_revIter hit ?_)
  refine wpAny_bind (wpAny_holding ?_)
  unfold Builtin.List.listLengthHint
  refine wpAny_bind (wpAny_specialOf hT nolen_lri ?_)
  show wpAny _ A.in1 (specialOf (Value.ref it) (Str.ofString "__length_hint__") >>= _) _ _ _
  refine wpAny_bind (wpAny_specialOf hT hint_lri ?_)
  generalize hid : ("list_reverseiterator.__length_hint__" : String) = id0
  wp_delta
  rw [show splitId id0 = some ("list_reverseiterator", "__length_hint__") from by subst hid; decide +kernel]
  subst hid
  refine wpAny_bind (wpAny_isInstance (b := true) hT (by rw [isSubtype_type]; kernel_rfl) ?_)
  refine wpAny_pure ?_
  first
  | (rw [if_neg (by decide)]; exact wpAny_pure ⟨plainId_quiet F.plain_extend_loop _, key s.heap c0 s.toks hit hl (fun b o _ e => e) hS⟩)
  | (refine wpAny_ite_split (fun _ => ?_) (fun _ => wpAny_pure ⟨plainId_quiet F.plain_extend_loop _, key s.heap c0 s.toks hit hl (fun b o _ e => e) hS⟩)
     exact absurd ‹_› (by decide))
theorem list_init_rev {R : Result → Shared → Prop} {it l S : Addr} {items : Array Value} (hh : A.handled = none) (hit : s.heap.IsRevIter it l ((items.size : Int) - 1)) (hl : s.heap.IsList l items) (hne : l ≠ it) (hn : items.size ≤ sizeLine)
    (hSi : S ≠ it) (hSl : S ≠ l) (hS : s.heap.get? S = some { cls := .type "list", data := .seq #[] })
    (hR : ∀ h' tk acc' c', (∀ b o, b ≠ S → b ≠ it → s.heap.get? b = some o → h'.get? b = some o) → h'.get? S = some { cls := .type "list", dict := none, data := .seq acc' c', slots := #[] } →
      ItemsOf (fun i v => items[items.size - 1 - i]? = some v) acc' items.size → R (.ok (.ret .none)) { s with heap := h', toks := tk }) :
    wpAny (model prog w) A.in1 (Builtin.«list.__init__» ⟨[.ref S, .ref it], []⟩)
      (fun fin s' => match fin with | .done f => R (.ok f) s' | .again c' => c'.quiet = true ∧ codeAny (model prog w) A c' R s') (fun e s' => R (.error e) s') s := by
  have oth : ∀ b o, b ≠ S → s.heap.get? b = some o → (s.heap.update S (Obj.mapSeq (fun _ => (#[] : Array Value)))).get? b = some o :=
    fun b o hb e => (Heap.get?_update_other _ _ (Ne.symm hb)).trans e
  show wpAny _ A.in1 (do let old ← Builtin.List.listItems (.ref S); Builtin.List.listUpdate (.ref S) (fun _ => #[]); letGo old.toList.reverse; Builtin.List.listExtendWith (.ref S) (.ref it) .none) _ _ s
  refine wpAny_bind ?_
  unfold Builtin.List.listItems
  refine wpAny_bind (wpAny_seqItems hS rfl (wpAny_pure ?_))
  show wpAny _ _ (updateSeq S (fun _ => #[]) >>= fun _ => letGo (#[] : Array Value).toList.reverse >>= fun _ => Builtin.List.listExtendWith (.ref S) (.ref it) .none) _ _ s
  refine wpAny_bind (wpAny_updateSeq hS rfl ?_)
  have hS₂ := Heap.get?_update_self (Obj.mapSeq (fun _ => (#[] : Array Value))) hS rfl
  refine wpAny_bind (wpAny_letGo ?_)
  obtain ⟨ol, hol, hlr⟩ := id hl
  refine extend_rev hh (hit.at fun o e => oth it o hSi.symm e) ⟨ol, oth l ol hSl.symm hol, hlr⟩ hne hn hSi hSl hS₂ fun h' tk acc' c' hk hS' hacc => ?_
  exact hR h' tk acc' c' (fun b o hb hbi e => hk b o hb hbi (oth b o hb e)) hS' hacc
theorem call_list_rev {Q : Value → Shared → Prop} {it l : Addr} {items : Array Value} (hh : A.handled = none) (hit : s.heap.IsRevIter it l ((items.size : Int) - 1)) (hl : s.heap.IsList l items) (hne : l ≠ it) (hn : items.size ≤ sizeLine)
    (hQ : ∀ h' tk acc' c', (∀ b o, b ≠ it → s.heap.get? b = some o → h'.get? b = some o) →
      h'.get? s.heap.objs.size = some { cls := .type "list", dict := none, data := .seq acc' c', slots := #[] } → ItemsOf (fun i v => items[items.size - 1 - i]? = some v) acc' items.size → Q (.ref s.heap.objs.size) { s with heap := h', toks := tk }) :
    wpAny (model prog w) A (call (.type "list") [.ref it]) Q E s := by
  obtain ⟨oi, hoi, _⟩ := id hit
  obtain ⟨ol, hol, _⟩ := id hl
  refine callType_codes (Q₁ := fun obj s₁ => obj = .ref s.heap.objs.size ∧ s₁ = { s with heap := s.heap.push { cls := .type "list", data := .seq #[] } }) F.called_list (F.typeCall_list_1 _) F.entry_list_init
    (code_list_new _ ⟨rfl, rfl⟩) fun obj s₁ h₁ => ?_
  obtain ⟨rfl, rfl⟩ := h₁
  have hS : (s.heap.push { cls := .type "list", data := .seq #[] }).get? s.heap.objs.size = some { cls := .type "list", data := .seq #[] } := Heap.get?_push_size _ rfl
  refine ⟨⟨_, hS, rfl⟩, F.args_list_init_2 _ _, list_init_rev (A := A.in1) hh (hit.at fun o e => Heap.get?_push_of_some _ e) (hl.push _) hne hn (Nat.ne_of_gt (Heap.lt_size hoi)) (Nat.ne_of_gt (Heap.lt_size hol)) hS fun h' tk acc' c' hk hS' hacc => ?_⟩
  exact ⟨rfl, hQ h' tk acc' c' (fun b o hb e => hk b o (Nat.ne_of_lt (Heap.lt_size e)) hb (Heap.get?_push_of_some _ e)) hS' hacc⟩
end
end Fz

/-! ## FzM2 -/
set_option Elab.async false
set_option linter.all false
set_option maxRecDepth 100000
set_option maxHeartbeats 4000000
set_option autoImplicit false
/-! FzM2: the rule of list(reversed(x)). -/
namespace Fz
open PySem PySem.Spec PyProof.Rows L2 RT
def tListRev (K : PySem.W.Frag) (te : TE) : TE := fun σ H Q => te σ H fun v H1 => ∃ (a : Addr) (xs : List V), v = .ref a ∧ SqL K H1 a xs ∧ ∀ q, H1 q = none → Q (.ref q) (upd H1 q (.lst xs.reverse))
section
variable {X : Cx}
theorem pe_listRev {e : Expr} {te : TE} {p p2 pos pos2 : Pos} (hc : X.calm = true) (hg : Gl X "list") (hm : X.mg "list" = none) (hg2 : Gl X "reversed") (hm2 : X.mg "reversed" = none) (he : PE X e te)
    (hs : starEach [e] X.env = (false, eval e X.env) :: starEach [] X.env := by rfl)
    (hs2 : starEach [.Call (.Name "reversed" p2) [e] [] pos2] X.env = (false, eval (.Call (.Name "reversed" p2) [e] [] pos2) X.env) :: starEach [] X.env := by rfl) :
    PE X (.Call (.Name "list" p) [.Call (.Name "reversed" p2) [e] [] pos2] [] pos) (tListRev X.K te) := by
  refine ⟨fun pins s σ H Q I h => ?_⟩
  refine Call_ (ld_blt I hg hm boot_list (callWith_type1 (args_cons (Call_ (ld_blt I hg2 hm2 boot_reversed (callWith_type1 (args_cons (thn (he.run pins s σ H _ I h) fun u s1 ⟨v, H1, I1, r1, q1⟩ => args_nil ?_) hs) hs rfl))) hs2) hs2 rfl))
  obtain ⟨a, xs, ev, hq, q⟩ := q1
  subst ev
  obtain rfl : u = Value.ref a := r1
  obtain ⟨its, rv, pl, hz⟩ := I1.list hq
  refine call_reversed_list pl.isList (args_nil ?_)
  have k0 : ∀ b o, s1.heap.get? b = some o → (s1.heap.push (revObj a ((its.toArray.size : Int) - 1))).get? b = some o := fun b o z => Heap.get?_push_of_some _ z
  have I2 : Inv X pins σ H1 { s1 with heap := s1.heap.push (revObj a ((its.toArray.size : Int) - 1)) } := I1.kept (t' := s1.toks) k0
  have fp := I1.fpOk (H' := H1) (b := s1.heap.objs.size) (Nat.le_refl _) (I1.hok.fresh (Nat.le_refl _))
  have hl := pl.isList
  obtain ⟨ol, hol, _⟩ := id hl
  have hne : a ≠ s1.heap.objs.size := Nat.ne_of_lt (Heap.lt_size hol)
  refine call_list_rev (s := { s1 with heap := s1.heap.push (revObj a ((its.toArray.size : Int) - 1)) }) (I1.ok.hd hc) ⟨_, Heap.get?_push_size _ rfl, rfl, rfl⟩ (hl.push _) hne (by rw [List.size_toArray, ← rv.length]; exact hz) fun h' tk acc c' hk hS hi => ?_
  refine ⟨.ref (s1.heap.push (revObj a ((its.toArray.size : Int) - 1))).objs.size, upd H1 (s1.heap.push (revObj a ((its.toArray.size : Int) - 1))).objs.size (.lst xs.reverse), ?_, rfl, q _ (I2.hok.fresh (Nat.le_refl _))⟩
  refine I2.turnedNew (t' := tk) (ch := [s1.heap.objs.size]) (fun b o hb z => hk b o (fun y => hb (by rw [y]; exact List.mem_singleton_self _)) z) (fun b hb => by rw [List.mem_singleton.mp hb]; exact fp) (Nat.le_refl _) ?_
  refine (⟨by rw [List.length_reverse]; exact hz, acc.toList, c', vals_rev rv hi, ?_⟩ : ObjOk X.prog X.w _ _ _ (.lst xs.reverse))
  rw [Array.toArray_toList]
  exact hS
end
section
variable {B : Bg} {ε : Eps} {L La : Own} {te : TE} {x : AD}
theorem en_listRev {ds : List PyData} (h : EX B te ε L x La) (hx : IsL La x ds) : EN B (tListRev B.K te) ε L ds.reverse La := fun F σ H r Q q =>
  h F σ H r _ fun v F1 H1 s1 r1 o1 => by
    obtain ⟨p, vs, rfl, g1, g2⟩ := hx.get r1 o1
    exact ⟨p, vs, rfl, g1, fun l hl => q l F1 _ s1 (r1.newM hl) (r1.alloc hl rfl ⟨_, upd_same, dpa_rev g2⟩)⟩
/-- .. of a list just made -/
theorem en_listRevN {ds : List PyData} (h : EN B te ε L ds La) : EN B (tListRev B.K te) ε L ds.reverse La := en_listRev (ex_frz h) .d
end
end Fz

/-! ## FzB -/
set_option Elab.async false
set_option linter.all false
set_option maxRecDepth 100000
set_option maxHeartbeats 2000000
set_option autoImplicit false
/-! FzB: the bag of a law: what is drawn. -/
namespace Fz
open PySem L2
/-- the cells from the last on, the digits at hand -/
def fetchR : List Int → Int → List Int × Int
  | [], cur => ([], cur)
  | c :: r, cur => if cur = 0 then fetchR r (if 1000000000 < c then c else 0) else (c :: r, cur)
theorem fetchR_ok : ∀ (r : List Int) (cur : Int), 0 ≤ cur → (∀ c ∈ r, 0 ≤ c) → 0 ≤ (fetchR r cur).2 ∧ ∀ c ∈ (fetchR r cur).1, 0 ≤ c
  | [], cur, h, h2 => ⟨h, h2⟩
  | c :: r, cur, h, h2 => by
    unfold fetchR
    split
    · refine fetchR_ok r _ ?_ fun x hx => h2 x (List.mem_cons_of_mem _ hx)
      split
      · exact h2 c List.mem_cons_self
      · exact Int.le_refl 0
    · exact ⟨h, h2⟩
def fetchC (b : Bag) : List Int := (fetchR b.cells.reverse b.cur).1
def fetchU (b : Bag) : Int := (fetchR b.cells.reverse b.cur).2
def nextM (m : Int) : Int := (m * 48271 + 11) % 2147483647
theorem nextM_ok (m : Int) : 0 ≤ nextM m ∧ nextM m < 2147483647 := ⟨Int.emod_nonneg _ (by decide), Int.emod_lt_of_pos _ (by decide)⟩
def drawV (b : Bag) (n : Int) : Int := if 0 < fetchU b then fetchU b % n else nextM b.mix * nextM b.mix % 2147483629 / 7 % n
theorem drawV_ok (b : Bag) {n : Int} (h : 0 < n) : 0 ≤ drawV b n ∧ drawV b n < n := by
  unfold drawV
  split
  · exact ⟨Int.emod_nonneg _ (by omega), Int.emod_lt_of_pos _ h⟩
  · exact ⟨Int.emod_nonneg _ (by omega), Int.emod_lt_of_pos _ h⟩
theorem fetch_ok (b : Bag) : 0 ≤ fetchU b ∧ ∀ c ∈ (fetchC b).reverse, 0 ≤ c := by
  have h := fetchR_ok b.cells.reverse b.cur b.ok.2.2.1 fun c hc => b.ok.2.2.2 c (List.mem_reverse.mp hc)
  exact ⟨h.1, fun c hc => h.2 c (List.mem_reverse.mp hc)⟩
def drawB (b : Bag) (n : Int) : Bag :=
  if h : 0 < n then (if hu : 0 < fetchU b then ⟨(fetchC b).reverse, fetchU b / n, b.mix, b.ok.1, b.ok.2.1, Int.ediv_nonneg (fetch_ok b).1 (Int.le_of_lt h), (fetch_ok b).2⟩
    else ⟨(fetchC b).reverse, fetchU b, nextM b.mix, (nextM_ok b.mix).1, (nextM_ok b.mix).2, (fetch_ok b).1, (fetch_ok b).2⟩) else b
theorem drawB_pos {b : Bag} {n : Int} (h : 0 < n) (hu : 0 < fetchU b) : (drawB b n).cells = (fetchC b).reverse ∧ (drawB b n).cur = fetchU b / n ∧ (drawB b n).mix = b.mix := by
  unfold drawB; rw [dif_pos h, dif_pos hu]; exact ⟨rfl, rfl, rfl⟩
theorem drawB_zero {b : Bag} {n : Int} (h : 0 < n) (hu : ¬ 0 < fetchU b) : (drawB b n).cells = (fetchC b).reverse ∧ (drawB b n).cur = fetchU b ∧ (drawB b n).mix = nextM b.mix := by
  unfold drawB; rw [dif_pos h, dif_neg hu]; exact ⟨rfl, rfl, rfl⟩
def R_draw : Bag → List PyData → PyData → Bag → Prop := fun b ds d b' => ∃ n : Int, 0 < n ∧ n.natAbs < 2 ^ 8000 ∧ ds = [.int n] ∧ d = .int (drawV b n) ∧ b' = drawB b n
def R_pick : Bag → List PyData → PyData → Bag → Prop := fun b ds d b' => ∃ xs : List PyData, xs ≠ [] ∧ xs.length ≤ 100000 ∧ ds = [.list xs] ∧ d = xs.getD (drawV b xs.length).toNat .none ∧ b' = drawB b xs.length
end Fz

/-! ## FzR -/
set_option Elab.async false
set_option linter.all false
set_option maxRecDepth 100000
set_option maxHeartbeats 2000000
set_option autoImplicit false
/-! FzR: lists put together, more targets, the bag made. -/
namespace Fz
open PySem L2
section
variable {B : Bg} {ε ε' : Eps} {L La Lb Lc : Own} {te ta tb tn : TE} {x y : AD} {D : Ends} {tas : TA}
inductive IsM (L : Own) : AD → List PyData → Prop
  | d {ds : List PyData} : IsM L (.d (.list ds)) ds
  | o {p : Addr} {ds : List PyData} {k : Nat} (h : L[k]? = some (.lst p ds)) : IsM L (.v (.ref p)) ds
theorem IsM.get {F : Hp} {σ : St} {H : Hp} {v : V} {ds : List PyData} {a : AD} (h : IsM L a ds) (rp : Rep B ε L F σ H) (o : a.ok B.K F v) : ∃ p vs, v = .ref p ∧ H p = some (.lst vs) ∧ DqAll B.K F vs ds := by
  cases h with
  | d =>
    have o' : Dq B.K F v (.list ds) := o
    cases o' with
    | lst h1 h2 => exact ⟨_, _, rfl, rp.sub _ _ h1, h2⟩
  | o hk =>
    obtain ⟨vs, h1, h2⟩ := rp.own _ (List.mem_of_getElem? hk)
    exact ⟨_, vs, o, h1, h2⟩
theorem en_cat {ds es : List PyData} (ha : EX B ta ε L x La) (hb : EX B tb ε La y Lb) (hx : IsM Lb x ds) (hy : IsM Lb y es) (hl : ds.length + es.length ≤ 100000) : EN B (tOp rCat ta tb) ε L (ds ++ es) Lb := en_op ha hb fun F σ H v w rp hv hw Q q => by
  obtain ⟨p, vs, rfl, g1, g2⟩ := hx.get rp hv
  obtain ⟨p', ws, rfl, g3, g4⟩ := hy.get rp hw
  exact ⟨p, p', vs, ws, rfl, rfl, g1, g3, Evl.sz_of (by rw [dpa_len g2, dpa_len g4]; exact hl), fun n hn => q n F _ (Sub.rfl' F) (rp.newM hn) (rp.alloc hn rfl ⟨_, upd_same, dpa_app g2 g4⟩)⟩
theorem gt_tup4 {i j k l : Nat} {d e f h : PyData} : GT B (gTup B.K 4 (gCons (gName i) (gCons (gName j) (gCons (gName k) (gCons (gName l) gNil))))) (.d (.tuple [d, e, f, h])) ε ((((ε.set i (some (.d d))).set j (some (.d e))).set k (some (.d f))).set l (some (.d h))) := fun L F σ H v r o P p => by
  obtain ⟨q, vs, rfl, h1, h2⟩ := tup_inv o
  cases h2 with
  | cons a t =>
    cases t with
    | cons b t =>
      cases t with
      | cons c t =>
        cases t with
        | cons c' t =>
          cases t
          exact ⟨q, _, rfl, tq_sub r.sub h1, rfl, _, _, rfl, _, _, rfl, _, _, rfl, _, _, rfl, rfl, p _ ((((r.slot (a := .d d) a).slot (a := .d e) b).slot (a := .d f) c).slot (a := .d h) c')⟩
/-- [cells, cur, mix] -/
theorem x_retBag {c : List Int} {u mx : Int} (h : EN B tn ε L (c.map PyData.int) La) (ha : ∀ m, EX B ta ε (m :: La) (.d (.int u)) (m :: La)) (hb : ∀ m, EX B tb ε (m :: La) (.d (.int mx)) (m :: La))
    (k : ∀ pb pc F σ H, Rep B ε (.bag pb pc c u mx :: La) F σ H → B.H0 pb = none → B.H0 pc = none → pb ≠ pc → D.rt (.ref pb) H) : Ho B (tRet (tLst (tCons tn (tCons ta (tCons tb tNil)))) D) ε L := fun F σ H r =>
  h F σ H r _ fun pc F1 H1 s1 hpc r1 => ha _ F1 σ H1 r1 _ fun v F2 H2 s2 r2 o2 => hb _ F2 σ H2 r2 _ fun w F3 H3 s3 r3 o3 => by
    have ev : v = .int u := int_inv o2
    have ew : w = .int mx := int_inv o3
    subst ev ew
    refine ⟨by show 3 ≤ sizeLine; decide, fun pb hp => ?_⟩
    obtain ⟨vs, g1, g2⟩ := r3.own _ List.mem_cons_self
    have e2 := dpa_int_inv g2
    subst e2
    have ne : pc ≠ pb := fun e => by rw [e, hp] at g1; cases g1
    have off := r3.off pc List.mem_cons_self
    have h0pc : B.H0 pc = none := off.2.resolve_left hpc
    have ra := r3.alloc (m := .raw pb (.lst [.ref pc, .int u, .int mx])) hp rfl ⟨upd_same, fun _ z => nomatch z⟩
    refine k pb pc F3 σ _ ⟨ra.sub, fun m hm => ?_, fun p hp' => ra.off p hp', ra.nd, ra.sl, ra.len, ra.f0, ra.h0, ra.nc, ra.mm⟩ (r3.newH hp) h0pc ne.symm
    rcases List.mem_cons.mp hm with e | e
    · rw [e]; exact ⟨upd_same, by rw [upd_ne ne]; exact g1⟩
    · exact ra.own m (List.mem_cons_of_mem _ (List.mem_cons_of_mem _ e))
/-- a def that makes the bag of the script -/
def spOwn (K : PySem.W.Frag) : Sp := fun vs H Q _ => ∃ (a : Addr) (ns : List Int), vs = [.ref a] ∧ SqL K H a (ns.map V.int) ∧ ns.length ≤ 63 ∧ ∀ pb pc (b : Bag) H', (∀ a o, H a = some o → H' a = some o) → H pb = none → H pc = none → pb ≠ pc → BagAt H' pb pc b.cells b.cur b.mix → Q (.ref pb) H'
end
end Fz
namespace Fz
open PySem L2
section
variable {B : Bg} {ε ε' : Eps} {L La Lb Lc : Own} {te ta tb tn : TE} {x y : AD} {D : Ends} {tas : TA} {a : AD}
/-- a, b = x, [..] -/
theorem x_parN {i j : Nat} {ds : List PyData} (h : EX B ta ε L a La) (h2 : EN B tb ε La ds Lb) (k : ∀ p, p ∉ B.M → Ho B D.nx ((ε.set i (some a)).set j (some (.v (.ref p)))) (.lst p ds :: Lb)) : Ho B (tPar i j (tCons ta (tCons tb tNil)) D) ε L := fun F σ H r =>
  h F σ H r _ fun v F1 H1 s1 r1 o1 => h2 F1 σ H1 r1 _ fun p F2 H2 s2 hp r2 => ⟨v, .ref p, rfl, k p hp F2 _ H2 ((r2.slot (o1.sub s2)).slot (a := .v (.ref p)) rfl)⟩
theorem seq_nat {n k : Nat} (h : k < n) : seqIndex? (k : Int) n = some k := by
  unfold seqIndex?
  simp; omega
theorem eqv_nil (ds : List PyData) : PyData.eqv (.list ds) (.list []) = ds.isEmpty := by cases ds <;> rfl
/-- x != [] -/
theorem ex_neNil {ds : List PyData} (h : EX B ta ε L x La) (hx : IsL La x ds) (hs : SeqAt.shaped (.list ds) = true) : EX B (tOp (rNeD B.K) ta (tLst tNil)) ε L (.d (.bool (!ds.isEmpty))) La := fun F σ H r Q q =>
  h F σ H r _ fun v F1 H1 s1 r1 o1 => ⟨Nat.zero_le _, fun p hp => by
    obtain ⟨pl, vs, rfl, g1, g2⟩ := hx.get r1 o1
    have s2 : Sub H1 (upd H1 p (.lst [])) := sub_fresh hp
    refine ⟨.list ds, .list [], .lst (sql_sub s2 g1) (dqa_dpa (nodict_shaped hs) (dpa_sub (r1.sub.tr s2) g2)), dq_dp rfl (.lst upd_same .nil), hs, rfl, ?_⟩
    rw [eqv_nil]
    exact q _ F1 _ s1 (r1.heap s2) (.bl _)⟩
end
end Fz
namespace Fz
open PySem L2
theorem en_is {B : Bg} {ε : Eps} {L La : Own} {te : TE} {ds es : List PyData} (h : EN B te ε L ds La) (e : ds = es) : EN B te ε L es La := e ▸ h
theorem cut_map (f : Int → PyData) (ns : List Int) (lo hi : Option Int) : ∃ ms : List Int, cutD (ns.map f) lo hi = ms.map f ∧ ms.length ≤ ns.length := by
  unfold cutD
  refine ⟨(ns.drop (HT.sIx (ns.map f).length 0 lo)).take (HT.sIx (ns.map f).length (ns.map f).length hi - HT.sIx (ns.map f).length 0 lo), ?_, ?_⟩
  · rw [List.map_take, List.map_drop]
  · rw [List.length_take, List.length_drop]
    omega
theorem rep_startS {K : PySem.W.Frag} {N : List Str} {H : Hp} {a : Addr} {ns : List Int} (hS : SqL K H a (ns.map V.int)) (hn : 1 ≤ N.length) :
    Rep ⟨K, H, H, []⟩ (some (.v (.ref a)) :: List.replicate (N.length - 1) none) [.seq a (ns.map PyData.int)] H (_root_.L2.start N [.ref a]) H := by
  refine ⟨Sub.rfl' H, fun m hm => ?_, fun p hp => (nomatch hp), List.nodup_nil, fun i x e => ?_, ?_, Sub.rfl' H, fun _ _ _ e => e, fun _ e _ => .inl e, fun p hp => (nomatch hp)⟩
  · rw [List.mem_singleton.mp hm]
    exact ⟨_, hS, dpa_ints ns⟩
  · cases i with
    | zero => cases e; exact ⟨_, rfl, _, rfl, rfl⟩
    | succ i =>
      have e : (List.replicate (N.length - 1) (none : Option AD))[i]? = some x := e
      rw [List.getElem?_replicate] at e
      split at e
      · cases e
        rename_i hlt
        refine ⟨none, ?_, trivial⟩
        show (List.replicate (N.length - 1) (none : Option V))[i]? = some none
        rw [List.getElem?_replicate, if_pos hlt]
      · cases e
  · show (some (V.ref a) :: List.replicate (N.length - 1) none).length = _
    rw [List.length_cons, List.length_replicate, List.length_cons, List.length_replicate]
end Fz

/-! ## FzS -/
set_option Elab.async false
set_option linter.all false
set_option maxRecDepth 100000
set_option maxHeartbeats 2000000
set_option autoImplicit false
/-! FzS: sum(list of tuples, ()); tuple * 1. -/
namespace Fz
open PySem L2
open Sem (wp)
/-- one deeper, with another wish -/
abbrev cx1 (X : Cx) (E : Value → Shared → Prop) : Cx := { X with A := X.A.in1, xe := E }
section
variable {X : Cx} {pins : List (Addr × Obj)} {σ : St} {H : Hp} {s : Shared} {E : Value → Shared → Prop}
theorem ok_to1 (o : X.Ok) : (cx1 X E).Ok := ⟨o.mod, o.kind, o.glob, o.blt, o.above, o.inj, o.has, o.cab, o.hd, o.frames, o.stk, o.exf, o.bs, o.bsz, o.noex, o.exfs, o.funs, o.frf⟩
theorem inv_to1 (I : Inv X pins σ H s) : Inv (cx1 X E) pins σ H s := ⟨ok_to1 I.ok, I.os, I.bare, I.base, I.loc, I.cell, I.free, I.freeC, I.pin, I.hok, I.len⟩
theorem inv_of1 (o : X.Ok) (I : Inv (cx1 X E) pins σ H s) : Inv X pins σ H s := ⟨o, I.os, I.bare, I.base, I.loc, I.cell, I.free, I.freeC, I.pin, I.hok, I.len⟩
end
theorem args_sumT (a b : Value) : argsOk "sum" ⟨[a, b], []⟩ := by unfold argsOk; kernel_rfl
theorem sub_tuple_bytearray : isSubtype (.type "tuple") (.type "bytearray") = pure false := by rw [isSubtype_type]; kernel_rfl
theorem sub_tuple_str' : isSubtype (.type "tuple") (.type "str") = pure false := by rw [isSubtype_type]; kernel_rfl
theorem sub_tuple_bytes' : isSubtype (.type "tuple") (.type "bytes") = pure false := by rw [isSubtype_type]; kernel_rfl
def stO (pa : Addr) (c : Nat) : Obj := { cls := .type "list", dict := none, data := .seq #[.ref pa] c, slots := #[] }
section
variable {X : Cx} {pins : List (Addr × Obj)} {σ : St} {R : Result → Shared → Prop} {S It l : Addr}
theorem sumT_loop (hh : X.A.handled = none) (hSI : S ≠ It) : ∀ (ps : List Addr) (zs : List (List V)) (dn : List Addr) (acc : List V) (pa : Addr) (H : Hp) (s : Shared) (c : Nat),
    Paired (fun p z => H p = some (.tup z)) ps zs → SqL X.K H l ((dn ++ ps).map V.ref) → H pa = some (.tup acc) → acc.length + zs.flatten.length ≤ sizeLine →
    Inv X pins σ H s → FpOk X pins H S → FpOk X pins H It → s.heap.IsListIter It l dn.length → s.heap.get? S = some (stO pa c) →
    (∀ p H' s', Sub H H' → Inv X pins σ H' s' → H' p = some (.tup (acc ++ zs.flatten)) → R (.ok (.ret (.ref p))) s') →
    codeAny (model X.prog X.w) X.A (.builtin "sum.loop" ⟨[.ref It, .ref S, rawInt 2, rawInt 0], []⟩) R s
  | [], zs, dn, acc, pa, H, s, c, hp, hs, ha, hz, I, fS, fI, hit, hS, hR => by
    cases hp
    obtain ⟨its, rv, hl, _⟩ := I.list hs
    refine codeAny_builtin F.entry_sum_loop ?_
    rw [Around.under_plainId F.plain_sum_loop _]
    show wpAny _ X.A.in1 (seqItems? (.ref S) >>= _) _ _ s
    refine wpAny_bind (wpAny_seqItems hS rfl ?_)
    show wpAny _ X.A.in1 (tryCatch (pyNext (.ref It)) _ >>= _) _ _ s
    refine wpAny_bind (wpAny_tryCatch (wpAny_pyNext_list_end (A := X.A.in1) hh hit hl.isList (Array.getElem?_eq_none (by
      have := rv.length
      rw [List.length_map, List.append_nil] at this
      rw [List.size_toArray]; omega)) fun h' he => ?_))
    obtain ⟨f0, f1, f2, f3, f4, f5⟩ := fI
    exact wpAny_pure (hR pa H _ (Sub.rfl' H) (I.turned (t' := s.toks) (fun b ob hb e => he b ob hb e) f0 f1 f3 f4 f5) (by rw [List.flatten_nil, List.append_nil]; exact ha))
  | p :: ps, zs, dn, acc, pa, H, s, c, hp, hs, ha, hz, I, fS, fI, hit, hS, hR => by
    cases hp with
    | @cons _ z _ zs hpz hp =>
    obtain ⟨its, rv, hl, _⟩ := I.list hs
    have ei := refs_at rv
    subst ei
    have hx : ((dn ++ p :: ps).map Value.ref).toArray[dn.length]? = some (.ref p) := by simp
    have hlI : l ≠ It := fun e => by
      rcases hs with (h | ⟨o, h⟩) | ⟨o, its, n, h, _⟩
      · rw [e, fI.1] at h; cases h
      · rw [e, fI.1] at h; cases h
      · obtain ⟨ol, hol, hcl, _⟩ := hl.isList
        obtain ⟨oi, hoi, hci, _⟩ := hit
        rw [e, hoi] at hol
        cases hol
        rw [hci] at hcl
        exact absurd (Value.type.inj hcl) (by decide)
    refine codeAny_builtin F.entry_sum_loop ?_
    rw [Around.under_plainId F.plain_sum_loop _]
    show wpAny _ X.A.in1 (seqItems? (.ref S) >>= _) _ _ s
    refine wpAny_bind (wpAny_seqItems hS rfl ?_)
    show wpAny _ X.A.in1 (tryCatch (pyNext (.ref It)) _ >>= _) _ _ s
    refine wpAny_bind (wpAny_tryCatch (wpAny_pyNext_list_item hit hl.isList hx fun h1 hit1 hs1 => ?_))
    show wpAny _ X.A.in1 ((holding [Value.ref p] (binaryOp .Add (.ref pa) (.ref p))).attempt >>= _) _ _ _
    refine wpAny_bind (wpAny_attempt (wpAny_holding ?_))
    obtain ⟨f0, f1, f2, f3, f4, f5⟩ := id fI
    have I1 : Inv X pins σ H { s with heap := h1 } := I.turned (t' := s.toks) (fun b ob hb e => (hs1.2 b hb).trans e) f0 f1 f3 f4 f5
    obtain ⟨oi, hoi, hci, hdi⟩ := id hit1
    have hS1 : h1.get? S = some (stO pa c) := (hs1.2 S hSI).trans hS
    have I2 : Inv X ((S, stO pa c) :: (It, oi) :: pins) σ H { s with heap := h1 } := I1.pins_of fun q hq => by
      rcases List.mem_cons.mp hq with e | hq
      · subst e
        exact ⟨hS1, fS.1, fS.2.1, fS.2.2.1, fun v z => by cases z⟩
      · rcases List.mem_cons.mp hq with e | hq
        · subst e
          exact ⟨hoi, fI.1, fI.2.1, fI.2.2.1, fun v z => by rw [hdi] at z; cases z⟩
        · exact I1.pin q (List.mem_append_right _ hq)
    rw [List.flatten_cons, List.length_append] at hz
    refine wpAny_mono (op_catA (X := cx1 X _) _ _ σ H (.ref pa) (.ref p) _ _ (fun v H' => ∃ q, v = .ref q ∧ Sub H H' ∧ H' q = some (.tup (acc ++ z))) (inv_to1 I2) rfl rfl
      ⟨pa, p, acc, z, rfl, rfl, .inl (.inl ha), .inl (.inl hpz), by omega, fun e => ⟨p, rfl, Sub.rfl' H, by rw [e]; exact hpz⟩, fun _ e => ⟨pa, rfl, Sub.rfl' H, by rw [e, List.append_nil]; exact ha⟩, fun _ _ n hn => ⟨n, rfl, sub_fresh hn, upd_same⟩⟩)
      (fun r s2 h2 => ?_) (fun _ _ e => e)
    obtain ⟨v, H', I3, rv3, q, ev, hsub, hq⟩ := h2
    subst ev
    obtain rfl : r = Value.ref q := rv3
    have I4 := inv_of1 I.ok I3
    have pS := I4.pin (S, stO pa c) (List.mem_append_right _ List.mem_cons_self)
    have pI := I4.pin (It, oi) (List.mem_append_right _ (List.mem_cons_of_mem _ List.mem_cons_self))
    have I5 : Inv X pins σ H' s2 := I4.pins_of fun q hq => I4.pin q (List.mem_append_right _ (List.mem_cons_of_mem _ (List.mem_cons_of_mem _ hq)))
    have gS : FpOk X pins H' S := ⟨pS.2.1, fS.2.1, fS.2.2.1, fS.2.2.2.1, fS.2.2.2.2.1, fS.2.2.2.2.2⟩
    have gI : FpOk X pins H' It := ⟨pI.2.1, fI.2.1, fI.2.2.1, fI.2.2.2.1, fI.2.2.2.2.1, fI.2.2.2.2.2⟩
    show wpAny _ X.A.in1 (updateSeq S (fun _ => #[.ref q]) >>= _) _ _ _
    refine wpAny_bind (wpAny_updateSeq pS.1 rfl ?_)
    have hS₂ := Heap.get?_update_self (Obj.mapSeq fun _ => #[Value.ref q]) pS.1 rfl
    refine wpAny_bind (wpAny_letGo ?_)
    refine wpAny_bind (wpAny_updateSeq hS₂ rfl (wpAny_pure ⟨plainId_quiet F.plain_sum_loop _, ?_⟩))
    have hS₃ := Heap.get?_update_self (Obj.mapSeq fun _ => #[Value.ref q]) hS₂ rfl
    have I6 : Inv X pins σ H' { s2 with heap := (s2.heap.update S (Obj.mapSeq fun _ => #[Value.ref q])).update S (Obj.mapSeq fun _ => #[Value.ref q]) } :=
      I5.turned (s := s2) (it := S) (t' := s2.toks) (fun b ob hb e => (Heap.get?_update_other _ _ (fun z => hb z.symm)).trans ((Heap.get?_update_other _ _ (fun z => hb z.symm)).trans e)) gS.1 gS.2.1 gS.2.2.2.1 gS.2.2.2.2.1 gS.2.2.2.2.2
    refine sumT_loop hh hSI ps zs (dn ++ [p]) (acc ++ z) q H' _ c (Paired.mapP hp fun a b h => hsub _ _ h) (by rw [List.append_assoc]; exact sql_sub hsub hs) hq (by rw [List.length_append]; omega)
      I6 gS gI ?_ hS₃ fun p' H'' s' hs' I' h' => hR p' H'' s' (hsub.tr hs') I' (by rw [List.flatten_cons, ← List.append_assoc]; exact h')
    refine ⟨oi, (Heap.get?_update_other _ _ hSI).trans ((Heap.get?_update_other _ _ hSI).trans pI.1), hci, ?_⟩
    rw [List.length_append]; exact hdi
/-- sum(xs, ()) of a list of tuples -/
def rSumT (K : PySem.W.Frag) : List V → Hp → VK → Prop := fun xs H Q => ∃ (l s0 : Addr) (ps : List Addr) (zs : List (List V)), xs = [.ref l, .ref s0] ∧ SqL K H l (ps.map V.ref) ∧ H s0 = some (.tup []) ∧ Paired (fun p z => H p = some (.tup z)) ps zs ∧ zs.flatten.length ≤ sizeLine ∧
  ∀ p H', Sub H H' → H' p = some (.tup zs.flatten) → Q (.ref p) H'
theorem cr_sumT (hc : X.calm = true) : CallR X (.builtin "sum") (rSumT X.K) := by
  intro pins s σ H vs us Q I r h
  obtain ⟨l, s0, ps, zs, rfl, hs, h0, hp, hz, q⟩ := h
  obtain ⟨its, rv, hl, _⟩ := I.list hs
  have hT : ∀ h' : Heap, (∀ b o, s.heap.get? b = some o → h'.get? b = some o) → Shared.TypeIs { s with heap := h' } (.ref s0) "tuple" := fun h' k => by
    obtain ⟨its, _, ⟨o, ho, hc, _⟩, _⟩ := I.tuple (a := s0) (xs := []) (.inl (.inl h0))
    exact ⟨o, k _ _ ho, hc⟩
  cases r with
  | cons r1 r =>
  cases r with
  | cons r2 r =>
  cases r
  cases r1
  cases r2
  refine call_function_tree F.kind_sum F.plain_sum F.entry_sum (args_sumT _ _) ?_
  unfold Builtin.«sum»
  simp only [List.length_cons, List.length_nil]
  rw [if_neg (by decide)]
  refine wpAny_bind (wpAny_of_eq (show Builtin.Builtins.bindParams "sum" ["start"] 0 ⟨[.ref s0], []⟩ = pure [some (.ref s0)] from rfl) ?_)
  refine wpAny_bind (wpAny_pyIter_list hl.isList ?_)
  refine wpAny_bind (wpAny_pure ?_)
  have k1 : ∀ b o, s.heap.get? b = some o → (s.heap.push { cls := .type "list_iterator", data := .fields #[.ref l, .int 0 0] }).get? b = some o := fun b o e => Heap.get?_push_of_some _ e
  simp only [List.forIn_cons, List.forIn_nil]
  refine wpAny_bind (wpAny_bind (wpAny_bind (wpAny_isInstance (T := "tuple") (b := false) (hT _ k1) sub_tuple_str' ?_)))
  simp only [Bool.false_eq_true, if_false]
  refine wpAny_pure (wpAny_bind (wpAny_bind (wpAny_isInstance (T := "tuple") (b := false) (hT _ k1) sub_tuple_bytes' ?_)))
  simp only [Bool.false_eq_true, if_false]
  refine wpAny_pure (wpAny_bind (wpAny_bind (wpAny_isInstance (T := "tuple") (b := false) (hT _ k1) sub_tuple_bytearray ?_)))
  simp only [Bool.false_eq_true, if_false]
  refine wpAny_pure (wpAny_pure ?_)
  refine wpAny_bind (wpAny_newObj_type ?_)
  have I1 : Inv X pins σ H { s with heap := (s.heap.push { cls := .type "list_iterator", data := .fields #[.ref l, .int 0 0] }).push (stO s0 0) } := I.kept (t' := s.toks) fun b o e => Heap.get?_push_of_some _ (k1 b o e)
  have z0 : (s.heap.push { cls := .type "list_iterator", data := .fields #[.ref l, .int 0 0] }).objs.size = s.heap.objs.size + 1 := by simp [Heap.push]
  have hne : (s.heap.push { cls := .type "list_iterator", data := .fields #[.ref l, .int 0 0] }).objs.size ≠ s.heap.objs.size := by rw [z0]; omega
  have fI : FpOk X pins H s.heap.objs.size := I.fpOk (Nat.le_refl _) (I.hok.fresh (Nat.le_refl _))
  have fS : FpOk X pins H (s.heap.push { cls := .type "list_iterator", data := .fields #[.ref l, .int 0 0] }).objs.size := I.fpOk (by omega) (I.hok.fresh (by omega))
  refine wpAny_pure ⟨plainId_quiet F.plain_sum_loop _, sumT_loop (X := X) (pins := pins) (σ := σ) (I.ok.hd hc) hne ps zs [] [] s0 H _ 0 hp hs h0 (by simpa using hz) I1 fS fI ⟨_, Heap.get?_push_of_some _ (Heap.get?_push_size _ rfl), rfl, rfl⟩ (Heap.get?_push_size _ rfl) fun p H' s' hs' I' h' => ?_⟩
  exact ⟨.ref p, H', I', rfl, q p H' hs' h'⟩
end
end Fz

/-! ## FzT -/
set_option Elab.async false
set_option linter.all false
set_option maxRecDepth 100000
set_option maxHeartbeats 2000000
set_option autoImplicit false
/-! FzT: dicts with tuples of ints as keys; tuple * 1. -/
namespace Fz
open PySem L2
open Sem (wp)
theorem tuple_mulW1 (l : Addr) (items : Array Value) (n : Nat) (dd : Option Addr) (sl : Array (Option Value)) (u : Tok) :
    Meets (Builtin.«tuple.__mul__» ⟨[.ref l, .int 1 u], []⟩) (fun _ R s => s.heap.get? l = some { cls := .type "tuple", dict := dd, data := .seq items n, slots := sl } ∧ R (.ok (.ret (Value.ref l))) s) :=
  .of_wp fun prog w A R s h => by
    obtain ⟨hp, g, d, tk, os⟩ := s
    obtain ⟨hl, h⟩ := h
    have f1 := AutoSeq1.idx_int
    have c1 : (items.isEmpty || (1 : Int) == 1) = true := by simp
    wp_walk using wpAny_loadPart' hl
    repeat (first
      | (refine wpAny_ite_true (decide_eq_true c1) ?_; wp_walk using wpAny_loadPart' hl)
      | (refine wpAny_ite_false (by decide) ?_; wp_walk using wpAny_loadPart' hl)
      | (wp_step))
    all_goals first | exact ⟨_, rfl, h⟩ | skip

def rRepT1 (K : PySem.W.Frag) : R2 := fun x y H Q => ∃ l k xs, x = .ref l ∧ y = .int k ∧ SqT K H l xs ∧ xs ≠ [] ∧ ((k = 1 ∧ Q (.ref l) H) ∨ (2 ≤ k ∧ k ≤ 1000 ∧ xs.length ≤ 1000 ∧ ∀ p, H p = none → Q (.ref p) (upd H p (.tup (List.replicate k.toNat xs).flatten))))
theorem op_repT1 {X : Cx} : OpR X (binaryOp .Mult) (rRepT1 X.K) := by
  intro pins s σ H x y v u Q I rx ry h
  obtain ⟨l, k, xs, rfl, rfl, hT, hne, ⟨rfl, q⟩ | ⟨h1, h2, hz, q⟩⟩ := h
  · cases rx
    obtain ⟨t, rfl⟩ := ry
    obtain ⟨its, r, ⟨⟨cls, dd, data, sl⟩, ho, hc, n, hd⟩, hs⟩ := I.tuple hT
    simp only at hc hd
    subst hc hd
    refine wpAny_binaryOp_repeat_ref (T := "tuple") (U := "int") (by decide) ⟨_, ho, rfl⟩ (fun s' => typeIs_int s' 1 t) noFill_tuple_mul F.fills_int_mul F.slot_int_rmul repeat_tuple F.slot_int_index.lookup
      (call_meets F.slot_int_rmul (typeIs_int s 1 t) F.entry_int_rmul (F.args_int_rmul_2 _ _) (int_rmul_tuple 1 t l its.toArray n dd sl)
        ⟨ho, rfl, ⟨_, ho, rfl⟩, call_meets F.slot_tuple_mul ⟨_, ho, rfl⟩ F.entry_tuple_mul (F.args_tuple_mul_2 _ _) (tuple_mulW1 l its.toArray n dd sl t) ⟨ho, ?_⟩⟩)
    exact ⟨.ref l, H, I, rfl, q⟩
  · exact op_repT pins s σ H _ _ v u Q I rx ry ⟨l, k, xs, rfl, rfl, hT, hne, h1, h2, hz, q⟩

/-! ### a display of one pair -/
def tDispT (tk tv : TE) : TE := fun σ H Q => ∀ p, H p = none → tPairs [(tk, tv)] σ (upd H p (.dT [])) fun ps H2 => ∃ b k y, ps = [(V.ref b, y)] ∧ H2 b = some (.tup (k.map kV)) ∧ H2 p = some (.dT []) ∧ Q (.ref p) (upd H2 p (.dT [(k, y)]))
theorem pe_dispT {X : Cx} {pos : Pos} {k v : Expr} {tk tv : TE} (hu : X.A.units + 1 < cLine) (hk : PE X k tk) (hv : PE X v tv) : PE X (.Dict [some k] [v] pos) (tDispT tk tv) := by
  refine ⟨fun pins s σ H Q I q => ?_⟩
  have hn := I.hok.fresh (Nat.le_refl s.heap.objs.size)
  have I1 := I.laid (a := s.heap.objs.size) (o := .dT []) (h' := s.heap.push { cls := .type "dict", data := .dict #[] }) (t' := s.toks) (fun _ _ q => Heap.get?_push_of_some _ q) (Nat.le_refl _) (dt_empty s.heap I.big)
  rw [arm_eval_Dict, zip_pairTrees [some k] [v] X.env pos rfl rfl, dictDisplay_pairs (pairTrees [some k] [v] X.env pos) (fun z => nomatch z) (by show (1 : Nat) < 17; decide)]
  refine wpAny_bind (wpAny_standAt (wpAny_bind (wpAny_subDictH (knd := tupleKind (mixKind X.prog X.w)) (show X.A.units < cLine by omega) (by show (1 : Nat) ≤ 15; decide) ?_)))
  refine thn ((pps_cons hk hv (pps_nil (X := X) (pos := pos))).run pins { s with heap := s.heap.push { cls := .type "dict", data := .dict #[] } } σ _ (fun ps H2 => ∃ b k y, ps = [(.ref b, y)] ∧ H2 b = some (.tup (k.map kV)) ∧ H2 s.heap.objs.size = some (.dT []) ∧ Q (.ref s.heap.objs.size) (upd H2 s.heap.objs.size (.dT [(k, y)]))) I1
    (q _ hn)) fun ws s2 ⟨ps, H2, I2, rel, b, kk, y, ep, hb, hd, q2⟩ => ?_
  subst ep
  cases rel with
  | @cons _ w2 _ ws hw rel =>
  cases rel
  obtain ⟨w1, w2⟩ := w2
  obtain ⟨hw1, hw2⟩ := hw
  obtain rfl : w1 = Value.ref b := hw1
  obtain ⟨z, hds, xs, rel, dd⟩ := dt_of I2.hok hd
  cases rel
  refine ⟨[(kk, b, w2)], ⟨rfl, rfl, key_of I2.hok hb, True.intro⟩, dd, fun h' tk dd' hs => wpAny_pure ?_⟩
  obtain ⟨q, es, ep, hq, h2, h3, h4, _, h5⟩ := dd'
  refine ⟨.ref s.heap.objs.size, _, d_write (ob := .dT [(kk, y)]) I2 (by rw [hd]; exact True.intro) hs ⟨q, hq⟩ ⟨by show (1 : Nat) ≤ sizeLine; decide, hds, [(kk, b, w2)], .cons ⟨rfl, ?_, hw2⟩ .nil, q, es, ep, hq, h2, h3, h4, h5⟩, rfl, q2⟩
  show upd H2 _ _ b = _
  rw [upd_ne (ne_of hb hd (fun z => nomatch z))]
  exact hb
end Fz

/-! ## FzU -/
set_option Elab.async false
set_option linter.all false
set_option maxRecDepth 100000
set_option maxHeartbeats 2000000
set_option autoImplicit false
/-! FzU: owned dicts (keys tuples of ints, values ints). -/
namespace Fz
open PySem L2
abbrev Tab := List (List Int × Int)
def keyK (k : List Int) : List Key := k.map Sum.inl
def tabV (t : Tab) : List (List Key × V) := t.map fun x => (keyK x.1, V.int x.2)
def tupD (k : List Int) : PyData := .tuple (k.map PyData.int)
def getT (t : Tab) (k : List Int) : Option Int := (t.find? fun x => decide (x.1 = k)).map (·.2)
def putT (t : Tab) (k : List Int) (z : Int) : Tab := if (t.any fun x => decide (x.1 = k)) = true then t.map fun x => if x.1 = k then (x.1, z) else x else t ++ [(k, z)]
theorem keyK_inj : ∀ {a b : List Int}, keyK a = keyK b → a = b
  | [], [], _ => rfl
  | [], _ :: _, h => by cases h
  | _ :: _, [], h => by cases h
  | a :: as, b :: bs, h => by
    unfold keyK at h
    rw [List.map_cons, List.map_cons] at h
    injection h with h1 h2
    rw [Sum.inl.inj h1, keyK_inj h2]
theorem keyK_dec (a b : List Int) : decide (keyK a = keyK b) = decide (a = b) := by
  by_cases h : a = b
  · subst h; simp
  · rw [decide_eq_false h, decide_eq_false fun z => h (keyK_inj z)]
theorem val_tab (k : List Int) : ∀ t : Tab, valV (tabV t) (keyK k) = (getT t k).map V.int
  | [] => rfl
  | x :: t => by
    by_cases h : x.1 = k
    · have e1 : valV (tabV (x :: t)) (keyK k) = some (.int x.2) := valV_pos (by show keyK x.1 = keyK k; rw [h])
      have e2 : getT (x :: t) k = some x.2 := by unfold getT; rw [List.find?_cons, decide_eq_true h]; rfl
      rw [e1, e2]; rfl
    · have e1 : valV (tabV (x :: t)) (keyK k) = valV (tabV t) (keyK k) := valV_neg fun z => h (keyK_inj z)
      have e2 : getT (x :: t) k = getT t k := by unfold getT; rw [List.find?_cons, decide_eq_false h]
      rw [e1, e2]; exact val_tab k t
theorem any_tab (k : List Int) : ∀ t : Tab, ((tabV t).any fun kv => decide (kv.1 = keyK k)) = t.any fun x => decide (x.1 = k)
  | [] => rfl
  | x :: t => by
    show (decide (keyK x.1 = keyK k) || (tabV t).any fun kv => decide (kv.1 = keyK k)) = (decide (x.1 = k) || t.any fun x => decide (x.1 = k))
    rw [any_tab k t, keyK_dec]
theorem put_tab (t : Tab) (k : List Int) (z : Int) : putK (tabV t) (keyK k) (.int z) = tabV (putT t k z) := by
  unfold putK putT
  rw [any_tab]
  split
  · unfold tabV
    rw [List.map_map, List.map_map]
    refine List.map_congr_left fun x _ => ?_
    show (if keyK x.1 = keyK k then (keyK x.1, V.int z) else (keyK x.1, V.int x.2)) = (keyK (if x.1 = k then (x.1, z) else x).1, V.int (if x.1 = k then (x.1, z) else x).2)
    by_cases h : x.1 = k
    · rw [if_pos (by rw [h]), if_pos h]
    · rw [if_neg fun e => h (keyK_inj e), if_neg h]
  · unfold tabV
    rw [List.map_append]; rfl
theorem keyV_of {K : PySem.W.Frag} {F : Hp} {vs : List V} {k : List Int} (h : DqAll K F vs (k.map PyData.int)) : vs = (keyK k).map kV := by
  rw [dpa_int_inv h]
  unfold keyK
  rw [List.map_map]; rfl
theorem keyV_dp {K : PySem.W.Frag} {F : Hp} (k : List Int) : DqAll K F ((keyK k).map kV) (k.map PyData.int) := by
  have e : (keyK k).map kV = k.map V.int := by unfold keyK; rw [List.map_map]; rfl
  rw [e]; exact dpa_ints k
section
variable {B : Bg} {ε ε' : Eps} {L L' La Lb Lc : Own} {te ta tb td ty tx tv : TE} {a : AD} {D : Ends} {tas : TA} {ts tc : TS} {g : TG} {p : Addr} {t : Tab} {kk : Nat}
def dT (t : Tab) : HO := .dT (tabV t)
theorem tab_key {F : Hp} {v : V} {k : List Int} (h : (AD.d (tupD k)).ok B.K F v) : ∃ b, v = .ref b ∧ F b = some (.tup ((keyK k).map kV)) := by
  obtain ⟨b, vs, e, h1, h2⟩ := tup_inv h
  rw [keyV_of h2] at h1
  exact ⟨b, e, h1⟩
theorem Rep.tab {F : Hp} {σ : St} {H : Hp} {o : HO} (r : Rep B ε L F σ H) (hk : L[kk]? = some (.raw p o)) : H p = some o := (r.own _ (List.mem_of_getElem? hk)).1
/-- a tuple that stands in the heap is known -/
theorem Rep.adopt {F : Hp} {σ : St} {H : Hp} (r : Rep B ε L F σ H) {q : Addr} {xs : List V} (h : H q = some (.tup xs)) : ∃ F', Sub F F' ∧ F' q = some (.tup xs) ∧ Rep B ε L F' σ H := by
  cases e : F q with
  | some o =>
    have := r.sub q o e
    rw [h] at this; cases this
    exact ⟨F, Sub.rfl' F, e, r⟩
  | none =>
    have sF : Sub F (upd F q (.tup xs)) := sub_fresh e
    refine ⟨upd F q (.tup xs), sF, upd_same, fun a o z => ?_, fun m hm => (r.own m hm).subF sF, fun x hx => ?_, r.nd, fun k x z => ?_, r.len, r.f0.tr sF, r.h0, fun a g1 g2 => ?_, r.mm⟩
    · by_cases c : a = q
      · subst c; rw [upd_same] at z; cases z; exact h
      · rw [upd_ne c] at z; exact r.sub a o z
    · have ne : x ≠ q := fun c => r.noT hx (c ▸ h)
      exact ⟨by rw [upd_ne ne]; exact (r.off x hx).1, (r.off x hx).2⟩
    · obtain ⟨s, q1, q2⟩ := r.sl k x z
      exact ⟨s, q1, q2.sub sF⟩
    · by_cases c : a = q
      · subst c
        by_cases hm : a ∈ B.M
        · exact absurd h fun h => r.noT (r.mm a hm) h
        · cases e0 : B.H0 a with
          | none => exact absurd e0 g2
          | some o =>
            have := r.h0 a o hm e0
            rw [h] at this; cases this
            exact .inr ⟨xs, rfl⟩
      · rw [upd_ne c]; exact r.nc a g1 g2
/-- a new object, owned -/
def EXr (B : Bg) (te : TE) (ε : Eps) (L : Own) (o : HO) (L' : Own) : Prop := ∀ F σ H, Rep B ε L F σ H → ∀ Q : VK, (∀ p F' H', Sub F F' → p ∉ B.M → Rep B ε (.raw p o :: L') F' σ H' → Q (.ref p) H') → te σ H Q
theorem noT_dT {t : List (List Key × V)} : ∀ xs, HO.dT t ≠ .tup xs := fun _ z => nomatch z
theorem exr_newT : EXr B tDNewT ε L (.dT (tabV [])) L := fun F σ H r Q q => fun p hp => q p F _ (Sub.rfl' F) (r.newM hp) (r.alloc hp rfl ⟨upd_same, noT_dT⟩)
theorem x_setR {i : Nat} {o : HO} (h : EXr B te ε L o La) (k : ∀ p, p ∉ B.M → Ho B D.nx (ε.set i (some (.v (.ref p)))) (.raw p o :: La)) : Ho B (tAsg te (gName i) D) ε L := fun F σ H r =>
  h F σ H r _ fun p F1 H1 _ hp r1 => k p hp F1 _ H1 (r1.slot (a := .v (.ref p)) rfl)
theorem x_parR {i j : Nat} {o : HO} (h : EXr B ta ε L o La) (h2 : ∀ p, EX B tb ε (.raw p o :: La) a (.raw p o :: Lb)) (k : ∀ p, p ∉ B.M → Ho B D.nx ((ε.set i (some (.v (.ref p)))).set j (some a)) (.raw p o :: Lb)) : Ho B (tPar i j (tCons ta (tCons tb tNil)) D) ε L := fun F σ H r =>
  h F σ H r _ fun p F1 H1 s1 hp r1 => h2 p F1 σ H1 r1 _ fun v F2 H2 s2 r2 o2 => ⟨.ref p, v, rfl, k p hp F2 _ H2 ((r2.slot (a := .v (.ref p)) rfl).slot o2)⟩
theorem exr_disp {k : List Int} {z : Int} (hk : ∀ p, EX B ty ε (.raw p (.dT []) :: L) (.d (tupD k)) (.raw p (.dT []) :: La)) (hv : ∀ p, EX B tv ε (.raw p (.dT []) :: La) (.d (.int z)) (.raw p (.dT []) :: Lb)) : EXr B (tDispT ty tv) ε L (.dT (tabV [(k, z)])) Lb := fun F σ H r Q q => fun p hp =>
  hk p F σ _ (r.alloc hp rfl ⟨upd_same, noT_dT⟩) _ fun v F1 H1 s1 r1 o1 => hv p F1 σ H1 r1 _ fun w F2 H2 s2 r2 o2 => by
    obtain ⟨b, rfl, hb⟩ := tab_key o1
    have ew : w = .int z := int_inv o2
    subst ew
    have hp2 := r2.tab (kk := 0) rfl
    refine ⟨b, keyK k, .int z, rfl, r2.sub _ _ (s2 _ _ hb), hp2, q p F2 _ (s1.tr s2) (r.newM hp) ?_⟩
    exact r2.chg (k := 0) (m' := .raw p (.dT (tabV [(k, z)]))) rfl rfl ⟨upd_same, noT_dT⟩ fun a o hq e => lst_ne hq e
theorem ex_dget2 {k : List Int} {z : Int} (hd : EX B td ε L (.v (.ref p)) La) (hy : EX B ty ε La (.d (tupD k)) Lb) (hx : EX B tx ε Lb (.d (.int z)) Lc) (hka : ∃ (j : Nat) (kvs : _), La[j]? = some (.raw p (.dT kvs))) (hk : Lc[kk]? = some (.raw p (.dT (tabV t)))) : EX B (tDGet2 td ty tx) ε L (.d (.int ((getT t k).getD z))) Lc := fun F σ H r Q q =>
  hd F σ H r _ fun v F1 H1 s1 r1 o1 => by
    have ev : v = .ref p := o1
    subst ev
    obtain ⟨j, kvs, hj⟩ := hka
    refine ⟨p, rfl, .inr ⟨kvs, .inl (r1.tab hj)⟩, hy F1 σ H1 r1 _ fun w F2 H2 s2 r2 o2 => hx F2 σ H2 r2 _ fun u F3 H3 s3 r3 o3 => ?_⟩
    obtain ⟨b, rfl, hb⟩ := tab_key o2
    have eu : u = .int z := int_inv o3
    subst eu
    refine ⟨valV (tabV t) (keyK k), DGet.t (r3.tab hk) (r3.sub _ _ (s3 _ _ hb)), ?_⟩
    have e : (valV (tabV t) (keyK k)).getD (.int z) = .int ((getT t k).getD z) := by
      rw [val_tab]; cases getT t k <;> rfl
    rw [e]
    exact q _ F3 H3 ((s1.tr s2).tr s3) r3 (.int _)
/-- d[k], the dict at hand or locked -/
theorem ex_dget {k : List Int} {z : Int} (hd : EX B td ε L (.v (.ref p)) La) (hy : EX B ty ε La (.d (tupD k)) Lb) (hk : Lb[kk]? = some (.raw p (.dT (tabV t))) ∨ ∃ od, Lb[kk]? = some (.raw p (.frz od (.dT (tabV t))))) (hz : getT t k = some z) : EX B (tDGet td ty) ε L (.d (.int z)) Lb := fun F σ H r Q q =>
  hd F σ H r _ fun v F1 H1 s1 r1 o1 => hy F1 σ H1 r1 _ fun w F2 H2 s2 r2 o2 => by
    have ev : v = .ref p := o1
    subst ev
    obtain ⟨b, rfl, hb⟩ := tab_key o2
    have rd : Rd H2 p (.dT (tabV t)) := by
      rcases hk with h | ⟨od, h⟩
      · exact .inl (r2.tab h)
      · exact .inr ⟨od, r2.tab h⟩
    refine ⟨p, .int z, rfl, .inr ⟨tabV t, keyK k, b, rd, rfl, r2.sub _ _ hb, ?_⟩, q _ F2 H2 (s1.tr s2) r2 (.int _)⟩
    rw [val_tab, hz]; rfl
theorem x_dput {k : List Int} {z : Int} (hv : EX B tv ε L (.d (.int z)) La) (hd : EX B td ε La (.v (.ref p)) Lb) (hy : EX B ty ε Lb (.d (tupD k)) Lc) (hk : Lc[kk]? = some (.raw p (.dT (tabV t)))) (hl : t.length < 100000)
    (q : Ho B D.nx ε (Lc.set kk (.raw p (.dT (tabV (putT t k z)))))) : Ho B (sDPut td ty tv D) ε L := fun F σ H r =>
  hv F σ H r _ fun u F1 H1 s1 r1 o1 => hd F1 σ H1 r1 _ fun v F2 H2 s2 r2 o2 => hy F2 σ H2 r2 _ fun w F3 H3 s3 r3 o3 => by
    have eu : u = .int z := int_inv o1
    have ev : v = .ref p := o2
    subst eu ev
    obtain ⟨b, rfl, hb⟩ := tab_key o3
    have hl' : (tabV t).length < sizeLine := Evl.sz_lt (by unfold tabV; rw [List.length_map]; exact hl)
    refine ⟨p, _, rfl, DPut.t (r3.tab hk) (r3.sub _ _ hb) hl', ?_⟩
    rw [put_tab]
    exact q F3 σ _ (r3.chg (m' := .raw p (.dT (tabV (putT t k z)))) hk rfl ⟨upd_same, noT_dT⟩ fun a o hq e => lst_ne hq e)
/-- for k in d, the dict locked -/
theorem x_forD (hk : L[kk]? = some (.raw p (.dT (tabV t)))) (h : ∀ od, EX B te ε (L.set kk (.raw p (.frz od (.dT (tabV t))))) (.v (.ref p)) (L.set kk (.raw p (.frz od (.dT (tabV t))))))
    (I : Obj → Nat → Eps → Own → Prop) (h0 : ∀ od, I od 0 ε (L.set kk (.raw p (.frz od (.dT (tabV t)))))) (hl : ∀ od i ε' L', I od i ε' L' → L'[kk]? = some (.raw p (.frz od (.dT (tabV t)))))
    (hs : ∀ od i k z ε' L', t[i]? = some (k, z) → I od i ε' L' → ∃ ε'', GT B g (.d (tupD k)) ε' ε'' ∧ ∀ D' : Ends, D'.nx = AbsP B (I od (i + 1)) → Ho B (tc D') ε'' L')
    (hd : ∀ od ε' L', I od t.length ε' L' → Ho B D.nx ε' (L'.set kk (.raw p (.dT (tabV t))))) : Ho B (tLock (tFor (iKeys te) g tc) D) ε L := fun F σ H r => by
  refine ⟨p, .dT (tabV t), r.tab hk, True.intro, fun od => ?_⟩
  have r0 : Rep B ε (L.set kk (.raw p (.frz od (.dT (tabV t))))) F σ (upd H p (.frz od (.dT (tabV t)))) := r.chg (m' := .raw p (.frz od (.dT (tabV t)))) hk rfl ⟨upd_same, fun _ z => nomatch z⟩ fun a o hq e => lst_ne hq e
  refine h od F σ _ r0 _ fun v F1 H1 s1 r1 o1 => ?_
  have ev : v = .ref p := o1
  subst ev
  refine ⟨p, od, rfl, .inr ⟨tabV t, r1.tab (hl _ _ _ _ (h0 od)), ?_⟩⟩
  refine ⟨fun i m σ' H' => m = t.length - i ∧ i ≤ t.length ∧ AbsP B (I od i) σ' H', ⟨_, rfl, Nat.zero_le _, ε, _, F1, h0 od, r1⟩, ?_⟩
  rintro i m σ' H' ⟨rfl, hi, ε', L', F', hI, r'⟩
  have hp' := r'.tab (hl _ _ _ _ hI)
  have tl : (tabV t).length = t.length := by unfold tabV; rw [List.length_map]
  by_cases hlt : i < t.length
  · obtain ⟨x, hx⟩ : ∃ x, t[i]? = some x := ⟨_, List.getElem?_eq_getElem hlt⟩
    obtain ⟨k, z⟩ := x
    obtain ⟨ε'', hg, hb⟩ := hs od i k z ε' L' hx hI
    refine .inr ⟨⟨hp', by rw [tl]; exact hlt⟩, AbsP B (I od (i + 1)), fun σ2 H2 hN => ⟨t.length - (i + 1), by omega, rfl, hlt, hN⟩, fun x H2 hy => ?_⟩
    obtain ⟨rfl, k', v', b, e1, rfl, hb'⟩ := hy
    have e2 : (tabV t)[i]? = some (keyK k, .int z) := by unfold tabV; rw [List.getElem?_map, hx]; rfl
    rw [e2] at e1
    cases e1
    obtain ⟨F2, s2, f2, r2⟩ := r'.adopt hb'
    exact hg L' F2 σ' _ _ r2 (.tup f2 (keyV_dp k)) _ fun σ3 r3 => hb _ rfl F2 σ3 _ r3
  · have ei : i = t.length := by omega
    subst ei
    refine .inl ⟨⟨hp', by rw [tl]; exact Nat.le_refl _⟩, hp', ?_⟩
    exact hd od _ _ hI F' σ' _ (r'.chg (m' := .raw p (.dT (tabV t))) (hl _ _ _ _ hI) rfl ⟨upd_same, noT_dT⟩ fun a o hq e => lst_ne hq e)
/-- sum(xs, ()) -/
theorem tups_of {K : PySem.W.Frag} {F : Hp} : ∀ {zs : List (List Int)} {vs : List V}, DqAll K F vs (zs.map tupD) → ∃ ps : List Addr, vs = ps.map V.ref ∧ Paired (fun p z => F p = some (.tup z)) ps (zs.map fun z => (keyK z).map kV)
  | [], _, h => by cases h; exact ⟨[], rfl, .nil⟩
  | z :: zs, _, h => by
    cases h with
    | cons a b =>
      cases a with
      | tup a1 a2 =>
        obtain ⟨ps, rfl, h2⟩ := tups_of b
        rw [keyV_of a2] at a1
        exact ⟨_ :: ps, rfl, .cons a1 h2⟩
theorem flat_keys : ∀ zs : List (List Int), (zs.map fun z => (keyK z).map kV).flatten = (keyK zs.flatten).map kV
  | [] => rfl
  | z :: zs => by
    rw [List.map_cons, List.flatten_cons, flat_keys zs, List.flatten_cons]
    unfold keyK
    rw [List.map_append, List.map_append]
theorem ex_sumT {zs : List (List Int)} {x : AD} (h : EX B te ε L x La) (h2 : EX B ta ε La (.d (.tuple [])) Lb) (hx : IsL Lb x (zs.map tupD)) (hz : zs.flatten.length ≤ 100000) : EX B (tCB (rSumT B.K) (tCons te (tCons ta tNil))) ε L (.d (tupD zs.flatten)) Lb := fun F σ H r Q q =>
  h F σ H r _ fun v F1 H1 s1 r1 o1 => h2 F1 σ H1 r1 _ fun w F2 H2 s2 r2 o2 => by
    obtain ⟨pl, vs, rfl, g1, g2⟩ := hx.get r2 (o1.sub s2)
    obtain ⟨s0, ws, rfl, g3, g4⟩ := tup_inv o2
    cases g4
    obtain ⟨ps, rfl, g5⟩ := tups_of g2
    refine ⟨pl, s0, ps, _, rfl, g1, r2.sub _ _ g3, Paired.mapP g5 fun a b e => r2.sub _ _ e, ?_, fun p H' sH hp => ?_⟩
    · rw [flat_keys]; unfold keyK; rw [List.length_map, List.length_map]; exact Evl.sz_of hz
    · rw [flat_keys] at hp
      obtain ⟨F3, s3, f3, r3⟩ := (r2.heap sH).adopt hp
      exact q _ F3 H' ((s1.tr s2).tr s3) r3 (.tup f3 (keyV_dp _))
/-- t * n of a tuple of one -/
theorem ex_rep1 {ds : List PyData} {n : Int} (ha : EX B ta ε L (.d (.tuple ds)) La) (hb : EX B tb ε La (.d (.int n)) Lb) (hne : ds ≠ []) (hl : ds.length ≤ 1000) (hn : 1 ≤ n ∧ n ≤ 1000) : EX B (tOp (rRepT1 B.K) ta tb) ε L (.d (.tuple (List.replicate n.toNat ds).flatten)) Lb := ex_op ha hb fun F σ H v w rp hv hw Q q => by
  obtain ⟨p, vs, rfl, h1, h2⟩ := tup_inv hv
  have hne' : vs ≠ [] := fun e => by
    have := dpa_len h2
    rw [e] at this
    exact hne (List.eq_nil_of_length_eq_zero this.symm)
  refine ⟨p, n, vs, rfl, int_inv hw, tq_sub rp.sub h1, hne', ?_⟩
  by_cases c : n = 1
  · subst c
    refine .inl ⟨rfl, q _ F H (Sub.rfl' F) rp (.tup h1 ?_)⟩
    have e : (List.replicate (1 : Int).toNat ds).flatten = ds := by simp
    rw [e]; exact h2
  · refine .inr ⟨by omega, hn.2, by rw [dpa_len h2]; exact hl, fun n' hn' => ?_⟩
    have hF := sub_none rp.sub hn'
    refine q _ _ _ (sub_fresh hF) (rp.grow hn') (.tup upd_same (dpa_sub (sub_fresh hF) ?_))
    have : ∀ m : Nat, DqAll B.K F (List.replicate m vs).flatten (List.replicate m ds).flatten := fun m => by
      induction m with
      | zero => exact .nil
      | succ m ih => rw [List.replicate_succ, List.replicate_succ, List.flatten_cons, List.flatten_cons]; exact dpa_app h2 ih
    exact this _
/-! #### a def that makes a dict of a dict -/
def spTab (K : PySem.W.Frag) (R : Tab → Int → Int → Tab → Prop) : Sp := fun vs H Q _ => ∃ (p : Addr) (t : Tab) (n m : Int) (u : Tab), vs = [.ref p, .int n, .int m] ∧ H p = some (.dT (tabV t)) ∧ R t n m u ∧
  ∀ pf H', Sub H H' → H pf = none → H' pf = some (.dT (tabV u)) → Q (.ref pf) H'
theorem Rep.madeR {F : Hp} {σ : St} {H H' : Hp} {pf : Addr} {o : HO} (r : Rep B ε L F σ H) (s : Sub H H') (h1 : H pf = none) (h2 : H' pf = some o) (h3 : ∀ xs, o ≠ .tup xs) : Rep B ε (.raw pf o :: L) F σ H' := by
  have ra := r.alloc (m := .raw pf o) h1 rfl ⟨upd_same, h3⟩
  refine ra.heap fun a u e => ?_
  by_cases c : a = pf
  · subst c; rw [upd_same] at e; cases e; exact h2
  · rw [upd_ne c] at e; exact s a u e
theorem exr_call {R : Tab → Int → Int → Tab → Prop} {E : XK} {n m : Int} {u : Tab} (h : EA B tas ε L [.v (.ref p), .d (.int n), .d (.int m)] La) (hk : La[kk]? = some (.raw p (.dT (tabV t)))) (hR : R t n m u) : EXr B (tCall (spTab B.K R) [] E tas) ε L (.dT (tabV u)) La := fun F σ H r Q q =>
  h F σ H r _ fun vs F1 H1 s1 r1 o1 => by
    match vs, o1 with
    | [v, w, x], o =>
      have e1 : v = .ref p := o.1
      have e2 : w = .int n := int_inv o.2.1
      have e3 : x = .int m := int_inv o.2.2.1
      subst e1 e2 e3
      exact ⟨p, t, n, m, u, rfl, r1.tab hk, hR, fun pf H' s h1 h2 => q pf F1 H' s1 (r1.newM h1) (r1.madeR s h1 h2 noT_dT)⟩
/-- the dict made for the call is forgotten -/
theorem exr_callD {R : Tab → Int → Int → Tab → Prop} {E : XK} {n m : Int} {u : Tab} {tr : TA} (hd : EXr B td ε L (.dT (tabV t)) La) (h : ∀ p, EA B tr ε (.raw p (.dT (tabV t)) :: La) [.d (.int n), .d (.int m)] (.raw p (.dT (tabV t)) :: Lb)) (hR : R t n m u) :
    EXr B (tCall (spTab B.K R) [] E (tCons td tr)) ε L (.dT (tabV u)) Lb := fun F σ H r Q q =>
  hd F σ H r _ fun p F1 H1 s1 hp r1 => h p F1 σ H1 r1 _ fun vs F2 H2 s2 r2 o2 => by
    match vs, o2 with
    | [w, x], o =>
      have e2 : w = .int n := int_inv o.1
      have e3 : x = .int m := int_inv o.2.1
      subst e2 e3
      refine ⟨p, t, n, m, u, rfl, r2.tab (kk := 0) rfl, hR, fun pf H' s h1 h2 => q pf F2 H' (s1.tr s2) (r2.newM h1) ?_⟩
      have r3 := r2.madeR s h1 h2 noT_dT
      exact r3.drop (k := 1) rfl fun x hx => by rw [List.mem_singleton.mp hx]; exact hp
theorem Rep.freeze {F : Hp} {σ : St} {H : Hp} (r : Rep B ε L F σ H) {k : Nat} {q : Addr} {ds : List PyData} (hk : L[k]? = some (.lst q ds)) (hq : q ∉ B.M) : ∃ F', Sub F F' ∧ Dq B.K F' (.ref q) (.list ds) ∧ Rep B ε (L.eraseIdx k) F' σ H := by
  obtain ⟨vs, h1, h2⟩ := r.own _ (List.mem_of_getElem? hk)
  have of := r.off q (mem_fps (List.mem_of_getElem? hk) List.mem_cons_self)
  have h0 : B.H0 q = none := of.2.resolve_left hq
  have sF : Sub F (upd F q (.lst vs)) := sub_fresh of.1
  have r2 := r.drop hk fun x hx => by rw [List.mem_singleton.mp hx]; exact hq
  have nin : ∀ x ∈ fps (L.eraseIdx k), x ≠ q := fun x hx c => by
    obtain ⟨m, hm, hx⟩ := List.mem_flatMap.mp hx
    rw [List.mem_eraseIdx_iff_getElem?] at hm
    obtain ⟨j, hj, hm⟩ := hm
    subst c
    exact fps_apart r.nd hk hm (Ne.symm hj) x List.mem_cons_self hx
  refine ⟨upd F q (.lst vs), sF, .lst upd_same (dpa_sub sF h2), fun a o z => ?_, fun m hm => (r2.own m hm).subF sF, fun x hx => ?_, r2.nd, fun j x z => ?_, r2.len, r2.f0.tr sF, r2.h0, fun a g1 g2 => ?_, r2.mm⟩
  · by_cases c : a = q
    · subst c; rw [upd_same] at z; cases z; exact h1
    · rw [upd_ne c] at z; exact r.sub a o z
  · exact ⟨by rw [upd_ne (nin x hx)]; exact (r2.off x hx).1, (r2.off x hx).2⟩
  · obtain ⟨s, q1, q2⟩ := r2.sl j x z
    exact ⟨s, q1, q2.sub sF⟩
  · have ne : a ≠ q := fun c => g2 (c ▸ h0)
    rw [upd_ne ne]; exact r2.nc a g1 g2
/-- an owned list will not change any more -/
theorem ex_frzV {i k : Nat} {q : Addr} {ds : List PyData} (h : ε[i]? = some (some (.v (.ref q)))) (hk : L[k]? = some (.lst q ds)) (hq : q ∉ B.M) : EX B (tVar i) ε L (.d (.list ds)) (L.eraseIdx k) := fun F σ H r Q p => by
  obtain ⟨s, h1, y, rfl, h2⟩ := r.sl i _ h
  obtain ⟨F', s', d', r'⟩ := r.freeze hk hq
  have ey : y = .ref q := h2
  subst ey
  exact ⟨_, h1, p _ F' H s' r' d'⟩
end
theorem hu_in {A : Around} {k : Nat} (hr : Room k A) : A.units + 1 < cLine := by have := hr.units; omega
end Fz

/-! ## FzV -/
set_option Elab.async false
set_option linter.all false
set_option maxRecDepth 100000
set_option maxHeartbeats 2000000
set_option autoImplicit false
namespace Fz
open PySem L2
theorem x_par3 {B : Bg} {ε : Eps} {L L1 : Own} {tas : TA} {D : Ends} {i j l : Nat} {a b c : AD} (h : EA B tas ε L [a, b, c] L1) (k : Ho B D.nx (((ε.set i (some a)).set j (some b)).set l (some c)) L1) : Ho B (tPar3 i j l tas D) ε L := fun F σ H r =>
  h F σ H r _ fun vs F1 H1 _ r1 o1 => by
    match vs, o1 with
    | [u, v, w], o => exact ⟨u, v, w, rfl, k F1 _ H1 (((r1.slot o.1).slot o.2.1).slot o.2.2.1)⟩
end Fz

/-! ## FzW -/
set_option Elab.async false
set_option linter.all false
set_option maxRecDepth 100000
set_option maxHeartbeats 2000000
set_option autoImplicit false
/-! FzW: the head, where nothing is under way and nobody sees the audit. -/
namespace Fz
open PySem L2 PySem.Spec PyProof.Rows
/-- what is tracked is a list -/
def AllLists (h : Heap) (H : Hp) : Prop := ∀ b u, H b = some u → ∃ its, h.get? b = some { cls := .type "list", data := .seq its }
section
variable {h : Heap} {H : Hp}
theorem AllLists.off (t : AllLists h H) {b : Addr} {o : Obj} (e : h.get? b = some o) (no : o.cls = .type "list" → ∀ its n, o.data = .seq its n → False) : (hidT h H).get? b = some o := by
  refine hidT_get e ?_
  match hb : H b with
  | none => rfl
  | some u =>
    obtain ⟨its, e2⟩ := t b u hb
    cases e.symm.trans e2
    exact (no rfl _ _ rfl).elim
theorem AllLists.ns (t : AllLists h H) {b : Addr} {m : Str → Option Value} (x : h.Ns b m) : (hidT h H).Ns b m := by
  obtain ⟨o, es, ep, e, d, rest⟩ := x
  exact ⟨o, es, ep, t.off e (fun _ its n z => by rw [d] at z; cases z), d, rest⟩
theorem AllLists.seer (t : AllLists h H) (x : h.NoSeer) : (hidT h H).NoSeer := by
  obtain ⟨⟨m1, p1, q1⟩, ⟨m2, p2, q2⟩, ⟨m3, p3, q3⟩, ⟨m4, bm, ob, p4, q4, g, c, dd⟩⟩ := x
  exact ⟨⟨m1, t.ns p1, q1⟩, ⟨m2, t.ns p2, q2⟩, ⟨m3, t.ns p3, q3⟩, ⟨m4, bm, ob, t.ns p4, q4, t.off g fun z => absurd (Value.type.inj (c.symm.trans z)) (by decide), c, dd⟩⟩
end
/-- the caller's end: what a run of the law's def leaves -/
def Done (s₁ : Shared) (r : Result) (s' : Shared) : Prop := r = .ok (.ret (.bool true)) ∧ OldK s₁.heap s'.heap ∧ s'.os = s₁.os ∧ AllBare s'.gens
section
variable {P : Program} {w : World} {K : PySem.W.Frag} {mg mb : Str → Option Value} {k : Nat} {fa a : Addr} {fd : FuncData} {x : Str} {sp : Sp} {s₁ : Shared}
/-- from a heap in which lists alone are tracked, each known to its object -/
theorem run_G {H : Hp} (inK : K.In s₁.heap) (top : s₁.heap.Ns mainGlobals mg) (blt : s₁.heap.Ns builtinsNs mb) (bltB : ∀ y : Str, y ≠ "__name__" → mb y = bootBuiltins y) (lim : s₁.heap.NoLimit) (seer : s₁.heap.NoSeer) (bare : s₁.gens = #[]) (room : Room k callerA)
    (tl : AllLists s₁.heap H) (out : ∀ b, H b ≠ none → K.lookup b = none) (known : Only H) (good : HOk P w H s₁.heap)
    (F : ∀ base : Heap, K.In base → base.Ns mainGlobals mg → base.NoSeer → GOk P w K mg base k fa fd [x] sp) (bind : BindsTo s₁ fd ⟨[.ref a], []⟩ [(x, .ref a)]) (say : sp [.ref a] H (fun v _ => v = .bl true) E0) :
    codeAny (model P w) callerA (.call (.ref fa) ⟨[.ref a], []⟩) (Done s₁) s₁ := by
  have inH : K.In (hidT s₁.heap H) := fun b o e => hidT_get (inK b o e) (by
    match hb : H b with
    | none => rfl
    | some u => rw [out b (by rw [hb]; exact Option.some_ne_none u)] at e; cases e)
  have limH : (hidT s₁.heap H).NoLimit := by
    obtain ⟨m, p, q⟩ := lim
    exact ⟨m, tl.ns p, q⟩
  have env : Env0 P w K mg (hidT s₁.heap H) callerA [] s₁ H :=
    { frames := rfl, mod := ⟨inH, tl.ns top, ⟨mb, tl.ns blt, bltB⟩, limH⟩, bs := fun b o e => of_hidT e, bsz := by rw [hidT_size]; exact Nat.le_refl _, funs := trivial, frf := (fun b hb => nomatch hb), hok := good, bare := .of_eq bare }
  refine codeAny_mono ((F _ inH (tl.ns top) (tl.seer seer)).run callerA [] s₁ H ⟨[.ref a], []⟩ [.ref a] [.ref a] _ room rfl env bind (.cons rfl .nil) say) fun r s' h => ?_
  match r, h with
  | .ok (.ret u), ⟨v, H', h1, h2, h3, h4, h5, h6⟩ =>
    cases (show v = .bl true from h6)
    cases (show u = Value.bool true from h5)
    refine ⟨rfl, .of_keep fun b o e => ?_, h1, h2⟩
    match hb : H b, known b with
    | none, _ => exact h3.keep b o e hb (fun z => nomatch z) (fun z => nomatch z)
    | some u, .inl z => cases z
    | some u, .inr ⟨ob, xs, z⟩ =>
      have z2 : H b = some (.frz ob (.lst xs)) := hb.trans z
      have now := (h4 b _ (h3.frzs b ob _ z2)).1
      have old := (good b _ z2).1
      rw [e] at old; cases old
      exact now
  | .error _, h => exact False.elim h
  | .ok .next, h => exact False.elim h
  | .ok .brk, h => exact False.elim h
  | .ok .cont, h => exact False.elim h
/-- the script at a: one of the module's own lists, or known to its object -/
theorem call_G {vs : List Value} {ns : List Int} (inK : K.In s₁.heap) (top : s₁.heap.Ns mainGlobals mg) (blt : s₁.heap.Ns builtinsNs mb) (bltB : ∀ y : Str, y ≠ "__name__" → mb y = bootBuiltins y) (lim : s₁.heap.NoLimit) (seer : s₁.heap.NoSeer) (bare : s₁.gens = #[]) (room : Room k callerA)
    (at' : s₁.heap.get? a = some { cls := .type "list", data := .seq vs.toArray }) (areI : IntsAre vs ns) (few : ns.length ≤ sizeLine)
    (F : ∀ base : Heap, K.In base → base.Ns mainGlobals mg → base.NoSeer → GOk P w K mg base k fa fd [x] sp) (bind : ∀ (s : Shared) (u : Value), BindsTo s fd ⟨[u], []⟩ [(x, u)])
    (say : ∀ H : Hp, Only H → SqL K H a (ns.map V.int) → sp [.ref a] H (fun v _ => v = .bl true) E0) : codeAny (model P w) callerA (.call (.ref fa) ⟨[.ref a], []⟩) (Done s₁) s₁ := by
  have rel := L2.vals_ints areI
  have len := areI.length
  match hk : K.lookup a with
  | some o =>
    cases at'.symm.trans (inK a o hk)
    have none0 : ∀ b u, (fun _ => none : Hp) b = some u → False := fun b u z => by cases z
    exact run_G inK top blt bltB lim seer bare room (H := fun _ => none) (fun b u z => (none0 b u z).elim) (fun b z => absurd rfl z) (fun b => .inl rfl) (fun b u z => (none0 b u z).elim) F (bind _ _)
      (say _ (fun b => .inl rfl) (.inr ⟨_, vs.toArray, _, hk, rfl, rfl, rfl, by rw [List.size_toArray, len]; exact few, by simpa using rel⟩))
  | none =>
    let Ha : Hp := upd (fun _ => none) a (.frz { cls := .type "list", data := .seq vs.toArray } (.lst (ns.map V.int)))
    have cas : ∀ b u, Ha b = some u → b = a ∧ u = .frz { cls := .type "list", data := .seq vs.toArray } (.lst (ns.map V.int)) := fun b u z => by
      by_cases c : b = a
      · subst c
        rw [show Ha b = _ from upd_same] at z
        exact ⟨rfl, (Option.some.inj z).symm⟩
      · rw [show Ha b = none from upd_ne c] at z; cases z
    have onl : Only Ha := fun b => by
      match hb : Ha b with
      | none => exact .inl rfl
      | some u => exact .inr ⟨_, _, by rw [(cas b u hb).2]⟩
    refine run_G inK top blt bltB lim seer bare room (H := Ha) (fun b u z => ?_) (fun b z => ?_) onl (fun b u z => ?_) F (bind _ _) (say _ onl (.inl (.inr ⟨_, upd_same⟩)))
    · rw [(cas b u z).1]; exact ⟨_, at'⟩
    · match hb : Ha b with
      | none => exact absurd hb z
      | some u => rw [(cas b u hb).1]; exact hk
    · obtain ⟨rfl, rfl⟩ := cas b u z
      exact ⟨at', by rw [List.length_map]; exact few, vs, _, rel, at'⟩
end
/-- the walk's head for a def that may show what it has -/
theorem walk_ofG {l : PySem.W.OpenLaw} {n k : Nat} {p : Program} {free : List Str} {XP : (Str → Option Value) → Heap → Prop} {YP : World → Heap → Prop} {d : DefRec} {K : Params → PySem.W.Frag} {sp : World → Sp} {x : Str}
    (most : l.most = some n) (few : n ≤ sizeLine) (plain : d.params.defaults = []) (room : Room k callerA) (him : importsNone p = true) (inK : ∀ (w : World) (h : Heap), YP w h → (K w.params).In h)
    (F : ∀ (w : World) (mg : Str → Option Value) (fa : Addr) (h : Heap), (K w.params).In h → h.Ns mainGlobals mg → mg d.name = some (.ref fa) → ∃ fd : FuncData, (∀ (s : Shared) (u : Value), BindsTo s fd ⟨[u], []⟩ [(x, u)]) ∧
      ∀ base : Heap, (K w.params).In base → base.Ns mainGlobals mg → base.NoSeer → GOk l.prog w (K w.params) mg base k fa fd [x] (sp w))
    (say : ∀ (w : World) (H : Hp) (a : Addr) (ns : List Int), ns.length ≤ n → Only H → SqL (K w.params) H a (ns.map V.int) → sp w [.ref a] H (fun v _ => v = .bl true) E0) : PySem.W.WalkO p free XP YP l.row.toRowW d [] (fun f us => PySem.call f us) :=
  Att.attach_call most plain fun w _ s₁ mg mb fa o pm cd doc a vs ns G Y ho hd hcd hmg hobj hints hlen hg => by
    obtain ⟨fd, bind, made⟩ := F w mg fa _ (inK w _ Y) G.T.g hmg
    exact call_G (inK w _ Y) G.T.g G.T.b G.T.builtins G.T.nolimit (G.T.seer him) hg room hobj hints (Nat.le_trans hlen few) made bind fun H o1 o2 => say w H a ns hlen o1 o2
/-! ### the bag, made -/
section
variable {B : Bg} {ε : Eps} {L La : Own} {te : TE} {D : Ends}
theorem Rep.allocB {F : Hp} {σ : L2.St} {H H' : Hp} {pb pc : Addr} {b : Bag} (r : Rep B ε L F σ H) (s : Sub H H') (h1 : H pb = none) (h2 : H pc = none) (ne : pb ≠ pc) (hb : BagAt H' pb pc b.cells b.cur b.mix) : Rep B ε (b.at pb pc :: L) F σ H' := by
  have r1 := r.heap s
  have e1 : fps (b.at pb pc :: L) = pb :: pc :: fps L := rfl
  refine ⟨r1.sub, fun m hm => ?_, fun p hp => ?_, ?_, r1.sl, r1.len, r1.f0, r1.h0, r1.nc, fun p hp => ?_⟩
  · rcases List.mem_cons.mp hm with e | e
    · rw [e]; exact hb
    · exact r1.own m e
  · rw [e1] at hp
    rcases List.mem_cons.mp hp with e | hp
    · rw [e]; exact ⟨sub_none r.sub h1, .inr (r.newH h1)⟩
    · rcases List.mem_cons.mp hp with e | hp
      · rw [e]; exact ⟨sub_none r.sub h2, .inr (r.newH h2)⟩
      · exact r1.off p hp
  · rw [e1]
    refine List.nodup_cons.mpr ⟨fun hm => ?_, List.nodup_cons.mpr ⟨r.new h2, r.nd⟩⟩
    rcases List.mem_cons.mp hm with e | hm
    · exact ne e
    · exact r.new h1 hm
  · rw [e1]; exact List.mem_cons_of_mem _ (List.mem_cons_of_mem _ (r1.mm p hp))
theorem x_setOwn {i k : Nat} {E : XK} {a : Addr} {ns : List Int} (h : EX B te ε L (.v (.ref a)) La) (hk : La[k]? = some (.seq a (ns.map PyData.int))) (hl : ns.length ≤ 63)
    (q : ∀ (pb pc : Addr) (b : Bag), pb ∉ B.M → pc ∉ B.M → Ho B D.nx (ε.set i (some (.v (.ref pb)))) (b.at pb pc :: La)) : Ho B (tAsg (tCall (spOwn B.K) [] E (tCons te tNil)) (gName i) D) ε L := fun F σ H r =>
  h F σ H r _ fun v F1 H1 s1 r1 o1 => by
    have ev : v = .ref a := o1
    subst ev
    obtain ⟨vs, g1, g2⟩ := r1.own _ (List.mem_of_getElem? hk)
    have e2 := dpa_int_inv g2
    subst e2
    refine ⟨a, ns, rfl, sql_sub r1.sub g1, hl, fun pb pc b H' s hb1 hb2 ne hb => ?_⟩
    exact q pb pc b (r1.newM hb1) (r1.newM hb2) F1 _ H' ((r1.allocB s hb1 hb2 ne hb).slot (a := .v (.ref pb)) rfl)
end
end Fz

/-! ## Fw -/
set_option Elab.async false
set_option linter.all false
set_option maxRecDepth 100000
set_option maxHeartbeats 2000000
set_option autoImplicit false
/-! Fw: what is drawn is known by its bounds alone: expressions with many outcomes, defs by what they promise. -/
namespace Fz
open PySem L2
/-! ### encoders -/
def eT {α : Type} (e : α → PyData) (xs : List α) : PyData := .tuple (xs.map e)
def eL {α : Type} (e : α → PyData) (xs : List α) : PyData := .list (xs.map e)
def eP {α β : Type} (e : α → PyData) (f : β → PyData) (x : α × β) : PyData := .tuple [e x.1, f x.2]
def eO {α : Type} (e : α → PyData) : Option α → PyData
  | none => .none
  | some x => e x
def eU (_ : Unit) : PyData := .none
/-! ### judgements with many outcomes -/
section
variable (B : Bg)
def WX (te : TE) (ε : Eps) (L : Own) (κ : AD → Own → Prop) : Prop := ∀ F σ H, Rep B ε L F σ H → ∀ Q : VK, (∀ a L' v F' H', κ a L' → Sub F F' → Rep B ε L' F' σ H' → a.ok B.K F' v → Q v H') → te σ H Q
def WV {α : Type} (e : α → PyData) (te : TE) (ε : Eps) (L : Own) (κ : α → Own → Prop) : Prop := ∀ F σ H, Rep B ε L F σ H → ∀ Q : VK, (∀ x L' v F' H', κ x L' → Sub F F' → Rep B ε L' F' σ H' → Dq B.K F' v (e x) → Q v H') → te σ H Q
def WR (te : TE) (ε : Eps) (L : Own) (κ : Addr → Own → Prop) : Prop := ∀ F σ H, Rep B ε L F σ H → ∀ Q : VK, (∀ p L' F' H', κ p L' → Sub F F' → Rep B ε L' F' σ H' → Q (.ref p) H') → te σ H Q
def WA (ta : TA) (ε : Eps) (L : Own) (κ : List AD → Own → Prop) : Prop := ∀ F σ H, Rep B ε L F σ H → ∀ Q : List V → Hp → Prop, (∀ as L' vs F' H', κ as L' → Sub F F' → Rep B ε L' F' σ H' → AdAll B.K F' as vs → Q vs H') → ta σ H Q
def WT (tt : TT) (ε : Eps) (L : Own) (κ : Bool → Own → Prop) : Prop := ∀ F σ H, Rep B ε L F σ H → ∀ Q : Bool → Hp → Prop, (∀ b L' F' H', κ b L' → Sub F F' → Rep B ε L' F' σ H' → Q b H') → tt σ H Q
end
/-- a thing in its place -/
inductive At : Own → Nat → MO → Prop
  | z {m : MO} {L : Own} : At (m :: L) 0 m
  | s {m x : MO} {L : Own} {k : Nat} : At L k m → At (x :: L) (k + 1) m
theorem At.get {L : Own} {k : Nat} {m : MO} (h : At L k m) : L[k]? = some m := by
  induction h with
  | z => rfl
  | s _ ih => exact ih
/-- a thing changed in its place -/
inductive Up : Own → MO → MO → Own → Prop
  | z {m m' : MO} {L : Own} : Up (m :: L) m m' (m' :: L)
  | s {m m' x : MO} {L L' : Own} : Up L m m' L' → Up (x :: L) m m' (x :: L')
theorem Up.get {L L' : Own} {m m' : MO} (h : Up L m m' L') : ∃ k, L[k]? = some m ∧ L' = L.set k m' := by
  induction h with
  | z => exact ⟨0, rfl, rfl⟩
  | s _ ih =>
    obtain ⟨k, h1, h2⟩ := ih
    exact ⟨k + 1, h1, by rw [h2]; rfl⟩
theorem Up.mem {L L' : Own} {m m' : MO} (h : Up L m m' L') : m' ∈ L' := by
  induction h with
  | z => exact List.mem_cons_self
  | s _ ih => exact List.mem_cons_of_mem _ ih
/-- a slot stored -/
inductive Sl : Eps → Nat → Option AD → Eps → Prop
  | z {a : Option AD} {x : Option AD} {ε : Eps} : Sl (x :: ε) 0 a (a :: ε)
  | s {a x : Option AD} {ε ε' : Eps} {i : Nat} : Sl ε i a ε' → Sl (x :: ε) (i + 1) a (x :: ε')
theorem Sl.eq {ε ε' : Eps} {i : Nat} {a : Option AD} (h : Sl ε i a ε') : ε' = ε.set i a := by
  induction h with
  | z => rfl
  | s _ ih => rw [ih]; rfl
section
variable {B : Bg} {ε ε' : Eps} {L L' La Lb : Own} {te ta tb : TE} {tt tu : TT} {tas tr : TA} {D : Ends} {ts tc tw : TS} {α β : Type} {e : α → PyData} {f : β → PyData}
/-! ### from what is exact -/
theorem wx_of {a : AD} {κ : AD → Own → Prop} (h : EX B te ε L a L') (k : κ a L') : WX B te ε L κ := fun F σ H r Q q => h F σ H r Q fun v F' H' s r' o => q a L' v F' H' k s r' o
theorem wv_of {x : α} {κ : α → Own → Prop} (h : EX B te ε L (.d (e x)) L') (k : κ x L') : WV B e te ε L κ := fun F σ H r Q q => h F σ H r Q fun v F' H' s r' o => q x L' v F' H' k s r' o
theorem wr_of {ds : List PyData} {κ : Addr → Own → Prop} (h : EN B te ε L ds L') (k : ∀ p, p ∉ B.M → κ p (.lst p ds :: L')) : WR B te ε L κ := fun F σ H r Q q => h F σ H r Q fun p F' H' s hp r' => q p _ F' H' (k p hp) s r'
theorem wa_of {as : List AD} {κ : List AD → Own → Prop} (h : EA B tas ε L as L') (k : κ as L') : WA B tas ε L κ := fun F σ H r Q q => h F σ H r Q fun vs F' H' s r' o => q as L' vs F' H' k s r' o
theorem wt_of {b : Bool} {κ : Bool → Own → Prop} (h : ETt B tt ε L b L') (k : κ b L') : WT B tt ε L κ := fun F σ H r Q q => h F σ H r Q fun F' H' s r' => q b L' F' H' k s r'
theorem wx_v {κ : AD → Own → Prop} (h : WV B e te ε L fun x L' => κ (.d (e x)) L') : WX B te ε L κ := fun F σ H r Q q => h F σ H r Q fun x L' v F' H' k s r' o => q (.d (e x)) L' v F' H' k s r' o
theorem wx_r {κ : AD → Own → Prop} (h : WR B te ε L fun p L' => κ (.v (.ref p)) L') : WX B te ε L κ := fun F σ H r Q q => h F σ H r Q fun p L' F' H' k s r' => q (.v (.ref p)) L' _ F' H' k s r' rfl
theorem wv_mono {κ κ' : α → Own → Prop} (h : WV B e te ε L κ) (k : ∀ x L', κ x L' → κ' x L') : WV B e te ε L κ' := fun F σ H r Q q => h F σ H r Q fun x L' v F' H' c => q x L' v F' H' (k x L' c)
/-- the outcome said by another encoder -/
theorem wv_as {κ : β → Own → Prop} (h : WV B e te ε L fun x L' => ∃ y, e x = f y ∧ κ y L') : WV B f te ε L κ := fun F σ H r Q q => h F σ H r Q fun x L' v F' H' ⟨y, hy, k⟩ s r' o => q y L' v F' H' k s r' (hy ▸ o)
/-! ### two places -/
theorem w_op {γ : Type} {g : γ → PyData} {r : R2} {κ : γ → Own → Prop} (h : WV B e ta ε L fun x L1 => WV B f tb ε L1 fun y L2 => ∃ z, RX B r ε L2 (.d (e x)) (.d (f y)) (.d (g z)) L2 ∧ κ z L2) : WV B g (tOp r ta tb) ε L κ := fun F σ H rp Q q =>
  h F σ H rp _ fun x L1 v F1 H1 k1 s1 r1 o1 => k1 F1 σ H1 r1 _ fun y L2 w F2 H2 ⟨z, hr, k2⟩ s2 r2 o2 => hr F2 σ H2 v w r2 (dp_sub s2 o1) o2 Q fun u F3 H3 s3 r3 o3 => q z L2 u F3 H3 k2 ((s1.tr s2).tr s3) r3 o3
variable {κ : Int → Own → Prop} {κb : Bool → Own → Prop}
theorem w_add (h : WV B PyData.int ta ε L fun i L1 => WV B PyData.int tb ε L1 fun j L2 => κ (i + j) L2) : WV B PyData.int (tOp (rI0 fun i j => .int (i + j)) ta tb) ε L κ := w_op (e := PyData.int) (f := PyData.int) (wv_mono h fun i L1 k => wv_mono k fun j L2 k => ⟨_, rx_I0 fun _ _ => .int _, k⟩)
theorem w_sub (h : WV B PyData.int ta ε L fun i L1 => WV B PyData.int tb ε L1 fun j L2 => κ (i - j) L2) : WV B PyData.int (tOp (rI0 fun i j => .int (i - j)) ta tb) ε L κ := w_op (e := PyData.int) (f := PyData.int) (wv_mono h fun i L1 k => wv_mono k fun j L2 k => ⟨_, rx_I0 fun _ _ => .int _, k⟩)
theorem w_mul (h : WV B PyData.int ta ε L fun i L1 => WV B PyData.int tb ε L1 fun j L2 => CMulW i j ∧ κ (i * j) L2) : WV B PyData.int (tOp (rI CMulW fun i j => .int (i * j)) ta tb) ε L κ := w_op (e := PyData.int) (f := PyData.int) (wv_mono h fun i L1 k => wv_mono k fun j L2 k => ⟨_, rx_I k.1 fun _ _ => .int _, k.2⟩)
theorem w_mod (h : WV B PyData.int ta ε L fun i L1 => WV B PyData.int tb ε L1 fun j L2 => 0 < j ∧ κ (i % j) L2) : WV B PyData.int (tOp (rI (fun _ j => 0 < j) fun i j => .int (i % j)) ta tb) ε L κ := w_op (e := PyData.int) (f := PyData.int) (wv_mono h fun i L1 k => wv_mono k fun j L2 k => ⟨_, rx_I k.1 fun _ _ => .int _, k.2⟩)
theorem w_fdiv (h : WV B PyData.int ta ε L fun i L1 => WV B PyData.int tb ε L1 fun j L2 => CDivW i j ∧ κ (i / j) L2) : WV B PyData.int (tOp (rI CDivW fun i j => .int (i / j)) ta tb) ε L κ := w_op (e := PyData.int) (f := PyData.int) (wv_mono h fun i L1 k => wv_mono k fun j L2 k => ⟨_, rx_I k.1 fun _ _ => .int _, k.2⟩)
theorem w_lt (h : WV B PyData.int ta ε L fun i L1 => WV B PyData.int tb ε L1 fun j L2 => κb (decide (i < j)) L2) : WV B PyData.bool (tOp (rI0 fun i j => .bl (decide (i < j))) ta tb) ε L κb := w_op (e := PyData.int) (f := PyData.int) (wv_mono h fun i L1 k => wv_mono k fun j L2 k => ⟨_, rx_I0 fun _ _ => .bl _, k⟩)
theorem w_le (h : WV B PyData.int ta ε L fun i L1 => WV B PyData.int tb ε L1 fun j L2 => κb (decide (i ≤ j)) L2) : WV B PyData.bool (tOp (rI0 fun i j => .bl (decide (i ≤ j))) ta tb) ε L κb := w_op (e := PyData.int) (f := PyData.int) (wv_mono h fun i L1 k => wv_mono k fun j L2 k => ⟨_, rx_I0 fun _ _ => .bl _, k⟩)
theorem w_gt (h : WV B PyData.int ta ε L fun i L1 => WV B PyData.int tb ε L1 fun j L2 => κb (decide (j < i)) L2) : WV B PyData.bool (tOp (rI0 fun i j => .bl (decide (j < i))) ta tb) ε L κb := w_op (e := PyData.int) (f := PyData.int) (wv_mono h fun i L1 k => wv_mono k fun j L2 k => ⟨_, rx_I0 fun _ _ => .bl _, k⟩)
theorem w_ge (h : WV B PyData.int ta ε L fun i L1 => WV B PyData.int tb ε L1 fun j L2 => κb (decide (j ≤ i)) L2) : WV B PyData.bool (tOp (rI0 fun i j => .bl (decide (j ≤ i))) ta tb) ε L κb := w_op (e := PyData.int) (f := PyData.int) (wv_mono h fun i L1 k => wv_mono k fun j L2 k => ⟨_, rx_I0 fun _ _ => .bl _, k⟩)
theorem rx_eqI {i j : Int} : RX B rEq ε L (.d (.int i)) (.d (.int j)) (.d (.bool (decide (i = j)))) L := fun F σ H v w rp hv hw Q q => by
  rw [int_inv hv, int_inv hw]
  refine ⟨rfl, ?_⟩
  have e : decide ((V.int i) = V.int j) = decide (i = j) := by
    by_cases h : i = j
    · subst h; simp
    · rw [decide_eq_false h, decide_eq_false fun z => h (V.int.inj z)]
  rw [e]
  exact q _ F H (Sub.rfl' F) rp (.bl _)
theorem rx_neI {i j : Int} : RX B rNe ε L (.d (.int i)) (.d (.int j)) (.d (.bool (!decide (i = j)))) L := fun F σ H v w rp hv hw Q q => by
  rw [int_inv hv, int_inv hw]
  refine ⟨rfl, ?_⟩
  have e : decide ((V.int i) = V.int j) = decide (i = j) := by
    by_cases h : i = j
    · subst h; simp
    · rw [decide_eq_false h, decide_eq_false fun z => h (V.int.inj z)]
  rw [e]
  exact q _ F H (Sub.rfl' F) rp (.bl _)
theorem w_eq (h : WV B PyData.int ta ε L fun i L1 => WV B PyData.int tb ε L1 fun j L2 => κb (decide (i = j)) L2) : WV B PyData.bool (tOp rEq ta tb) ε L κb := w_op (e := PyData.int) (f := PyData.int) (wv_mono h fun i L1 k => wv_mono k fun j L2 k => ⟨_, rx_eqI, k⟩)
theorem w_ne (h : WV B PyData.int ta ε L fun i L1 => WV B PyData.int tb ε L1 fun j L2 => κb (!decide (i = j)) L2) : WV B PyData.bool (tOp rNe ta tb) ε L κb := w_op (e := PyData.int) (f := PyData.int) (wv_mono h fun i L1 k => wv_mono k fun j L2 k => ⟨_, rx_neI, k⟩)
theorem w_neg (h : WV B PyData.int ta ε L fun i L1 => κ (-i) L1) : WV B PyData.int (tUn (rU fun i => .int (-i)) ta) ε L κ := fun F σ H rp Q q =>
  h F σ H rp _ fun i L1 v F1 H1 k s1 r1 o1 => ⟨i, int_inv o1, q _ L1 _ F1 H1 k s1 r1 (.int _)⟩
theorem w_eqD {x : α} {y : β} (ha : EX B ta ε L (.d (e x)) La) (hb : EX B tb ε La (.d (f y)) Lb) (h1 : SeqAt.shaped (e x) = true) (h2 : SeqAt.shaped (f y) = true) (k : κb (PyData.eqv (e x) (f y)) Lb) : WV B PyData.bool (tOp (rEqD B.K) ta tb) ε L κb := wv_of (ex_eqD ha hb h1 h2) k
/-! ### tests -/
variable {κt : Bool → Own → Prop}
theorem wt_test (h : WV B PyData.bool te ε L κt) : WT B (tTest te) ε L κt := fun F σ H r Q q => h F σ H r _ fun b L1 v F1 H1 k s1 r1 o1 => ⟨b, bool_inv o1, q b L1 F1 H1 k s1 r1⟩
theorem wt_B (h : WV B PyData.bool te ε L κt) : WT B (tB te) ε L κt := fun F σ H r Q q => h F σ H r _ fun b L1 v F1 H1 k s1 r1 o1 => ⟨b, bool_inv o1, q b L1 F1 H1 k s1 r1⟩
theorem wt_not (h : WT B tt ε L fun b L1 => κt (!b) L1) : WT B (tNot tt) ε L κt := fun F σ H r Q q => h F σ H r _ fun b L1 F1 H1 k s1 r1 => q _ L1 F1 H1 k s1 r1
theorem wt_and (h : WT B tt ε L fun b L1 => (b = true → WT B tu ε L1 κt) ∧ (b = false → κt false L1)) : WT B (tAnd tt tu) ε L κt := fun F σ H r Q q => h F σ H r _ fun b L1 F1 H1 k s1 r1 => by
  cases b with
  | true => exact k.1 rfl F1 σ H1 r1 Q fun c L2 F2 H2 k2 s2 r2 => q c L2 F2 H2 k2 (s1.tr s2) r2
  | false => exact q false L1 F1 H1 (k.2 rfl) s1 r1
theorem wt_or (h : WT B tt ε L fun b L1 => (b = false → WT B tu ε L1 κt) ∧ (b = true → κt true L1)) : WT B (tOr tt tu) ε L κt := fun F σ H r Q q => h F σ H r _ fun b L1 F1 H1 k s1 r1 => by
  cases b with
  | false => exact k.1 rfl F1 σ H1 r1 Q fun c L2 F2 H2 k2 s2 r2 => q c L2 F2 H2 k2 (s1.tr s2) r2
  | true => exact q true L1 F1 H1 (k.2 rfl) s1 r1
theorem wt_mono {κ' : Bool → Own → Prop} (h : WT B tt ε L κt) (k : ∀ x L', κt x L' → κ' x L') : WT B tt ε L κ' := fun F σ H r Q q => h F σ H r Q fun x L' F' H' c => q x L' F' H' (k x L' c)
theorem w_andV (h : WV B PyData.bool ta ε L fun b L1 => (b = true → WV B PyData.bool tb ε L1 κb) ∧ (b = false → κb false L1)) : WV B PyData.bool (tAndV ta tb) ε L κb := fun F σ H r Q q => h F σ H r _ fun b L1 v F1 H1 k s1 r1 o1 => ⟨b, bool_inv o1, by
  cases b with
  | true => exact k.1 rfl F1 σ H1 r1 Q fun c L2 v F2 H2 k2 s2 r2 o2 => q c L2 v F2 H2 k2 (s1.tr s2) r2 o2
  | false => exact q false L1 _ F1 H1 (k.2 rfl) s1 r1 (.bl _)⟩
theorem w_orV (h : WV B PyData.bool ta ε L fun b L1 => (b = false → WV B PyData.bool tb ε L1 κb) ∧ (b = true → κb true L1)) : WV B PyData.bool (tOrV ta tb) ε L κb := fun F σ H r Q q => h F σ H r _ fun b L1 v F1 H1 k s1 r1 o1 => ⟨b, bool_inv o1, by
  cases b with
  | false => exact k.1 rfl F1 σ H1 r1 Q fun c L2 v F2 H2 k2 s2 r2 o2 => q c L2 v F2 H2 k2 (s1.tr s2) r2 o2
  | true => exact q true L1 _ F1 H1 (k.2 rfl) s1 r1 (.bl _)⟩
theorem w_notV (h : WV B PyData.bool te ε L fun b L1 => κb (!b) L1) : WV B PyData.bool (tNotV te) ε L κb := fun F σ H r Q q => h F σ H r _ fun b L1 v F1 H1 k s1 r1 o1 => ⟨b, bool_inv o1, q _ L1 _ F1 H1 k s1 r1 (.bl _)⟩
theorem w_if {κ' : α → Own → Prop} (h : WT B tt ε L fun b L1 => (b = true → WV B e ta ε L1 κ') ∧ (b = false → WV B e tb ε L1 κ')) : WV B e (tIf tt ta tb) ε L κ' := fun F σ H r Q q => h F σ H r _ fun b L1 F1 H1 k s1 r1 => by
  cases b with
  | true => exact k.1 rfl F1 σ H1 r1 Q fun c L2 v F2 H2 k2 s2 r2 o2 => q c L2 v F2 H2 k2 (s1.tr s2) r2 o2
  | false => exact k.2 rfl F1 σ H1 r1 Q fun c L2 v F2 H2 k2 s2 r2 o2 => q c L2 v F2 H2 k2 (s1.tr s2) r2 o2
/-! ### arguments, displays -/
theorem wa_nil {κ : List AD → Own → Prop} (k : κ [] L) : WA B tNil ε L κ := fun F σ H r Q q => q [] L [] F H k (Sub.rfl' F) r trivial
theorem wa_cons {κ : List AD → Own → Prop} (h : WX B te ε L fun a L1 => WA B tr ε L1 fun as L2 => κ (a :: as) L2) : WA B (tCons te tr) ε L κ := fun F σ H r Q q =>
  h F σ H r _ fun a L1 v F1 H1 k s1 r1 o1 => k F1 σ H1 r1 _ fun as L2 vs F2 H2 k2 s2 r2 o2 => q _ L2 _ F2 H2 k2 (s1.tr s2) r2 ⟨o1.sub s2, o2⟩
theorem wa_v {κ : List AD → Own → Prop} (h : WV B e te ε L fun x L1 => WA B tr ε L1 fun as L2 => κ (.d (e x) :: as) L2) : WA B (tCons te tr) ε L κ := wa_cons (wx_v h)
theorem wa_x {a : AD} {κ : List AD → Own → Prop} (h : EX B te ε L a La) (k : WA B tr ε La fun as L2 => κ (a :: as) L2) : WA B (tCons te tr) ε L κ := wa_cons (wx_of h k)
theorem w_tup {ty : List AD → PyData} {κ : α → Own → Prop} (h : WA B tas ε L fun as L1 => ∃ (ds : List PyData) (x : α), as = ds.map AD.d ∧ ds.length ≤ 100000 ∧ e x = .tuple ds ∧ κ x L1) : WV B e (tTup tas) ε L κ := fun F σ H r Q q =>
  h F σ H r _ fun as L1 vs F1 H1 ⟨ds, x, ea, hl, ex, k⟩ s1 r1 o1 => by
    subst ea
    have oa := ad_data o1
    refine ⟨Evl.sz_of (by rw [dpa_len oa]; exact hl), fun p hp => ?_⟩
    have hF := sub_none r1.sub hp
    exact q x L1 _ _ _ k (s1.tr (sub_fresh hF)) (r1.grow hp) (by rw [ex]; exact .tup upd_same (dpa_sub (sub_fresh hF) oa))
theorem w_lst {κ : Addr → Own → Prop} (h : WA B tas ε L fun as L1 => ∃ ds : List PyData, as = ds.map AD.d ∧ ds.length ≤ 100000 ∧ ∀ p, p ∉ B.M → κ p (.lst p ds :: L1)) : WR B (tLst tas) ε L κ := fun F σ H r Q q =>
  h F σ H r _ fun as L1 vs F1 H1 ⟨ds, ea, hl, k⟩ s1 r1 o1 => by
    subst ea
    have oa := ad_data o1
    exact ⟨Evl.sz_of (by rw [dpa_len oa]; exact hl), fun p hp => q p _ F1 _ (k p (r1.newM hp)) s1 (r1.alloc hp rfl ⟨vs, upd_same, oa⟩)⟩
/-- a new list that will not change -/
theorem w_frz {κ : α → Own → Prop} (h : WR B te ε L fun p L1 => ∃ (ds : List PyData) (L2 : Own) (x : α), p ∉ B.M ∧ L1 = .lst p ds :: L2 ∧ e x = .list ds ∧ κ x L2) : WV B e te ε L κ := fun F σ H r Q q =>
  h F σ H r _ fun p L1 F1 H1 ⟨ds, L2, x, hp, e1, e2, k⟩ s1 r1 => by
    subst e1
    have en : EN B (fun σ H Q => Q (.ref p) H) ε (.lst p ds :: L2) ds L2 := fun F σ H r Q q => q p F H (Sub.rfl' F) hp r
    exact ex_frz en F1 σ H1 r1 Q fun v F2 H2 s2 r2 o2 => q x L2 v F2 H2 k (s1.tr s2) r2 (e2 ▸ o2)
/-! ### statements -/
theorem x_setV {i : Nat} {ε' : α → Eps} (h : WV B e te ε L fun x L1 => Ho B D.nx (ε' x) L1) (hs : ∀ x, Sl ε i (some (.d (e x))) (ε' x)) : Ho B (tAsg te (gName i) D) ε L := fun F σ H r =>
  h F σ H r _ fun x L1 v F1 H1 k _ r1 o1 => k F1 _ H1 ((hs x).eq ▸ r1.slot (a := .d (e x)) o1)
theorem x_setO {i : Nat} {ε' : Addr → Eps} (h : WR B te ε L fun p L1 => Ho B D.nx (ε' p) L1) (hs : ∀ p, Sl ε i (some (.v (.ref p))) (ε' p)) : Ho B (tAsg te (gName i) D) ε L := fun F σ H r =>
  h F σ H r _ fun p L1 F1 H1 k _ r1 => k F1 _ H1 ((hs p).eq ▸ r1.slot (a := .v (.ref p)) rfl)
theorem x_parW {i j : Nat} (h : WA B tas ε L fun as L1 => ∃ a b, as = [a, b] ∧ Ho B D.nx ((ε.set i (some a)).set j (some b)) L1) : Ho B (tPar i j tas D) ε L := fun F σ H r =>
  h F σ H r _ fun as L1 vs F1 H1 ⟨a, b, ea, k⟩ _ r1 o1 => by
    subst ea
    match vs, o1 with
    | [v, w], o => exact ⟨v, w, rfl, k F1 _ H1 ((r1.slot o.1).slot o.2.1)⟩
theorem x_par3W {i j l : Nat} (h : WA B tas ε L fun as L1 => ∃ a b c, as = [a, b, c] ∧ Ho B D.nx (((ε.set i (some a)).set j (some b)).set l (some c)) L1) : Ho B (tPar3 i j l tas D) ε L := fun F σ H r =>
  h F σ H r _ fun as L1 vs F1 H1 ⟨a, b, c, ea, k⟩ _ r1 o1 => by
    subst ea
    match vs, o1 with
    | [u, v, w], o => exact ⟨u, v, w, rfl, k F1 _ H1 (((r1.slot o.1).slot o.2.1).slot o.2.2.1)⟩
theorem x_asgW {g : TG} (h : WX B te ε L fun a L1 => ∃ ε', GT B g a ε ε' ∧ Ho B D.nx ε' L1) : Ho B (tAsg te g D) ε L := fun F σ H r =>
  h F σ H r _ fun a L1 v F1 H1 ⟨ε', hg, k⟩ _ r1 o1 => hg L1 F1 σ H1 v r1 o1 _ fun σ' r2 => k F1 σ' H1 r2
theorem x_ifW (h : WT B tt ε L fun b L1 => (b = true → Ho B (ts D) ε L1) ∧ (b = false → Ho B (tw D) ε L1)) : Ho B (tIfS tt ts tw D) ε L := fun F σ H r =>
  h F σ H r _ fun b L1 F1 H1 k _ r1 => by
    cases b with
    | true => exact k.1 rfl F1 σ H1 r1
    | false => exact k.2 rfl F1 σ H1 r1
theorem x_dropW (h : WX B te ε L fun _ L1 => Ho B D.nx ε L1) : Ho B (tDrop te D) ε L := fun F σ H r => h F σ H r _ fun a L1 v F1 H1 k _ r1 o1 => k F1 σ H1 r1
/-- xs.append(e) -/
theorem x_appW {to : TE} {p : Addr} (ho : EX B to ε L (.v (.ref p)) L) (hj : ∃ (j : Nat) (ds' : List PyData), At L j (.lst p ds')) (h : WV B e te ε L fun x L1 => ∃ ds L2, Up L1 (.lst p ds) (.lst p (ds ++ [e x])) L2 ∧ ds.length < 100000 ∧ Ho B D.nx ε L2) : Ho B (tDrop (tBM B.K "list" rAppend to (tCons te tNil)) D) ε L := fun F σ H r =>
  ho F σ H r _ fun v F1 H1 s1 r1 o1 => by
    have ev : v = .ref p := o1
    subst ev
    obtain ⟨j, ds', hj⟩ := hj
    obtain ⟨us, u1, _⟩ := r1.own _ (List.mem_of_getElem? hj.get)
    refine ⟨tyv u1, h F1 σ H1 r1 _ fun x L1 w F2 H2 ⟨ds, L2, hup, hz, k⟩ s2 r2 o2 => ?_⟩
    obtain ⟨n, hk, rfl⟩ := hup.get
    obtain ⟨vs, g1, g2⟩ := r2.own _ (List.mem_of_getElem? hk)
    exact ⟨p, vs, w, rfl, rfl, g1, by rw [dpa_len g2]; exact Evl.sz_lt hz, k F2 σ _ (r2.setL hk (dpa_app g2 (.cons o2 .nil)))⟩
theorem x_while' (I : Nat → Eps → Own → Prop) {m0 : Nat} (h0 : I m0 ε L)
    (hs : ∀ m ε' L', I m ε' L' → WT B tt ε' L' fun b L'' => (b = true → Ho B (tc { D with nx := AbsP B (fun ε L => ∃ m', m' < m ∧ I m' ε L), ct := AbsP B (fun ε L => ∃ m', m' < m ∧ I m' ε L), bk := D.nx }) ε' L'') ∧ (b = false → Ho B D.nx ε' L'')) :
    Ho B (tWhile tt tc D) ε L := fun F σ H r => by
  refine ⟨fun m => AbsP B (I m), ⟨m0, ε, L, F, h0, r⟩, ?_⟩
  rintro m σ' H' ⟨ε', L', F', hI, r'⟩
  refine hs m ε' L' hI F' σ' H' r' _ fun b L2 F2 H2 k _ r2 => ?_
  cases b with
  | true =>
    refine ⟨AbsP B (fun ε L => ∃ m', m' < m ∧ I m' ε L), fun σ3 H3 ⟨ε3, L3, F3, ⟨m', hm, hI'⟩, r3⟩ => ⟨m', hm, ε3, L3, F3, hI', r3⟩, ?_⟩
    exact k.1 rfl F2 σ' H2 r2
  | false => exact k.2 rfl F2 σ' H2 r2
/-! ### typed walks -/
theorem x_forLe {g : TG} {xs : List α} (h : EX B te ε L (.d (eL e xs)) La) (I : V → Nat → Eps → Own → Prop) (h0 : ∀ v, I v 0 ε (La ++ [.know v (eL e xs)])) (hl : ∀ v i ε' L', I v i ε' L' → MO.know v (eL e xs) ∈ L')
    (hs : ∀ v i x ε' L', xs[i]? = some x → I v i ε' L' → ∃ ε'', GT B g (.d (e x)) ε' ε'' ∧ Ho B (tc { D with nx := AbsP B (I v (i + 1)), ct := AbsP B (I v (i + 1)), bk := D.nx }) ε'' L')
    (hd : ∀ v ε' L', I v xs.length ε' L' → Ho B D.nx ε' L') : Ho B (tFor (iList B.K te) g tc D) ε L :=
  x_forL (ds := xs.map e) h I h0 hl (fun v i d ε' L' hd hI => by
    rw [List.getElem?_map] at hd
    cases hx : xs[i]? with
    | none => rw [hx] at hd; cases hd
    | some x => rw [hx] at hd; cases hd; exact hs v i x ε' L' hx hI) (fun v ε' L' hI => hd v ε' L' (by rw [List.length_map] at hI; exact hI))
theorem x_forTe {g : TG} {xs : List α} (h : EX B te ε L (.d (eT e xs)) La) (I : V → Nat → Eps → Own → Prop) (h0 : ∀ v, I v 0 ε (La ++ [.know v (eT e xs)])) (hl : ∀ v i ε' L', I v i ε' L' → MO.know v (eT e xs) ∈ L')
    (hs : ∀ v i x ε' L', xs[i]? = some x → I v i ε' L' → ∃ ε'', GT B g (.d (e x)) ε' ε'' ∧ Ho B (tc { D with nx := AbsP B (I v (i + 1)), ct := AbsP B (I v (i + 1)), bk := D.nx }) ε'' L')
    (hd : ∀ v ε' L', I v xs.length ε' L' → Ho B D.nx ε' L') : Ho B (tFor (iTup B.K te) g tc D) ε L :=
  x_forT (ds := xs.map e) h I h0 hl (fun v i d ε' L' hd hI => by
    rw [List.getElem?_map] at hd
    cases hx : xs[i]? with
    | none => rw [hx] at hd; cases hd
    | some x => rw [hx] at hd; cases hd; exact hs v i x ε' L' hx hI) (fun v ε' L' hI => hd v ε' L' (by rw [List.length_map] at hI; exact hI))
/-- the end of a turn -/
theorem x_end {I : Eps → Own → Prop} (h : I ε' L) (w : Wk ε ε' := by repeat (first | exact trivial | refine ⟨Or.inr rfl, ?_⟩ | refine ⟨Or.inl rfl, ?_⟩)) : Ho B (AbsP B I) ε L := x_abs h w
/-- what is owned is given up -/
theorem ho_off {P : St → Hp → Prop} {p : Addr} {ds : List PyData} (hp : p ∉ B.M) (h : Ho B P ε L) : Ho B P ε (.lst p ds :: L) := ho_drop (k := 0) h rfl fun x hx => by rw [List.mem_singleton.mp hx]; exact hp
end

/-! ### what defs promise -/
section
variable {α β : Type}
/-- a def of data: of y that is let, some x that is promised -/
def spD (K : PySem.W.Frag) (a : β → List PyData) (Pre : β → Prop) (e : α → PyData) (Post : β → α → Prop) : Sp := fun vs H Q _ => ∃ F y, Sub F H ∧ DqAll K F vs (a y) ∧ Pre y ∧ ∀ x v F' H', Post y x → NxM [] F H F' H' → Dq K F' v (e x) → Q v H'
/-- the same with the bag ahead -/
def spG (K : PySem.W.Frag) (a : β → List PyData) (Pre : β → Prop) (e : α → PyData) (Post : β → α → Prop) : Sp := fun vs H Q _ => ∃ F pb pc b vs' y, vs = .ref pb :: vs' ∧ Sub F H ∧ F pb = none ∧ F pc = none ∧ pb ≠ pc ∧ BagAt H pb pc (Bag.cells b) b.cur b.mix ∧ DqAll K F vs' (a y) ∧ Pre y ∧
  ∀ x (b' : Bag) v F' H', Post y x → NxM [pb, pc] F H F' H' → BagAt H' pb pc b'.cells b'.cur b'.mix → Dq K F' v (e x) → Q v H'
variable {P : Program} {w : World} {K : PySem.W.Frag} {mg : Str → Option Value} {base : Heap} {f : Addr} {fd : FuncData} {ps : List Str} {k : Nat}
theorem fn_wk {sp sp' : Sp} (F : FnOk P w K mg base CX0 k f fd ps sp) (h : ∀ vs H Q E, sp' vs H Q E → sp vs H Q E) : FnOk P w K mg base CX0 k f fd ps sp' :=
  ⟨fun vs H Q E x => F.len vs H Q E (h vs H Q E x), fun A outer s H args us vs Q E r e0 b v x => F.run A outer s H args us vs Q E r e0 b v (h vs H Q E x)⟩
theorem spG_of {R : Bag → List PyData → PyData → Bag → Prop} {a : β → List PyData} {Pre : β → Prop} {e : α → PyData} {Post : β → α → Prop} (h : ∀ y b, Pre y → ∃ x b', R b (a y) (e x) b' ∧ Post y x) : ∀ vs H Q E, spG K a Pre e Post vs H Q E → spB K R vs H Q E := fun vs H Q E ⟨F, pb, pc, b, vs', y, h1, h2, h3, h4, h5, h6, h7, h8, q⟩ =>
  let ⟨x, b', hR, hP⟩ := h y b h8
  ⟨F, pb, pc, b, vs', a y, e x, b', h1, h2, h3, h4, h5, h6, h7, hR, fun v F' H' n hb o => q x b' v F' H' hP n hb o⟩
theorem spD_of {R : List PyData → PyData → Prop} {a : β → List PyData} {Pre : β → Prop} {e : α → PyData} {Post : β → α → Prop} (h : ∀ y, Pre y → ∃ x, R (a y) (e x) ∧ Post y x) : ∀ vs H Q E, spD K a Pre e Post vs H Q E → spR K R vs H Q E := fun vs H Q E ⟨F, y, h2, h7, h8, q⟩ =>
  let ⟨x, hR, hP⟩ := h y h8
  ⟨F, a y, e x, h2, h7, hR, fun v F' H' n o => q x v F' H' hP n o⟩
/-- what a return has to show -/
def RetD (B : Bg) (Q : VK) (e : α → PyData) (Post : α → Prop) : Prop := ∀ x v F σ H ε L, Post x → Rep B ε L F σ H → Dq B.K F v (e x) → Q v H
def RetG (B : Bg) (pb pc : Addr) (Q : VK) (e : α → PyData) (Post : α → Prop) : Prop := ∀ x (b : Bag) v F σ H ε L, Post x → Rep B ε L F σ H → b.at pb pc ∈ L → Dq B.K F v (e x) → Q v H
section
variable {B : Bg} {ε : Eps} {L La : Own} {te : TE} {D : Ends} {tas tk : TA} {e : α → PyData} {Post : α → Prop} {Q : VK}
theorem x_retD (q : RetD B Q e Post) (h : WV B e te ε L fun x _ => Post x) (hD : D.rt = Q := by rfl) : Ho B (tRet te D) ε L := fun F σ H r => h F σ H r _ fun x L1 v F1 H1 k _ r1 o1 => by
  rw [hD]; exact q x v F1 σ H1 ε L1 k r1 o1
theorem x_retG {pb pc : Addr} (q : RetG B pb pc Q e Post) (h : WV B e te ε L fun x L1 => Post x ∧ ∃ b : Bag, b.at pb pc ∈ L1) (hD : D.rt = Q := by rfl) : Ho B (tRet te D) ε L := fun F σ H r => h F σ H r _ fun x L1 v F1 H1 ⟨k, b, hb⟩ _ r1 o1 => by
  rw [hD]; exact q x b v F1 σ H1 ε L1 k r1 hb o1
theorem x_retG' {pb pc : Addr} (q : RetG B pb pc Q e Post) (h : WR B te ε L fun p L1 => ∃ (ds : List PyData) (L2 : Own) (x : α), p ∉ B.M ∧ L1 = .lst p ds :: L2 ∧ e x = .list ds ∧ Post x ∧ ∃ b : Bag, b.at pb pc ∈ L2) (hD : D.rt = Q := by rfl) : Ho B (tRet te D) ε L := x_retG q (w_frz (κ := fun x L1 => Post x ∧ ∃ b : Bag, b.at pb pc ∈ L1) h) hD
variable {γ : Type} {a : β → List PyData} {Pre : β → Prop} {E : XK} {P2 : β → α → Prop} {κ : α → Own → Prop} {gV : List V → List V → List V}
theorem w_callD (h : WA B tas ε L fun as L1 => ∃ y, as = (a y).map AD.d ∧ Pre y ∧ ∀ x, P2 y x → κ x L1) : WV B e (tCall (spD B.K a Pre e P2) [] E tas) ε L κ := fun F σ H r Q q =>
  h F σ H r _ fun as L1 vs F1 H1 ⟨y, ea, hy, k⟩ s1 r1 o1 => by
    subst ea
    rw [List.append_nil]
    exact ⟨F1, y, r1.sub, ad_data o1, hy, fun x v F' H' hx n o => q x L1 v F' H' (k x hx) (s1.tr n.1) (r1.call n) o⟩
theorem Rep.bagNd {F : Hp} {σ : St} {H : Hp} {pb pc : Addr} {c : List Int} {u m : Int} (r : Rep B ε L F σ H) (hm : MO.bag pb pc c u m ∈ L) : pb ≠ pc := fun ee => by
  have x : ([pb, pc] : List Addr).Nodup := by
    have sl : ([pb, pc] : List Addr).Sublist (fps L) := by
      obtain ⟨l1, l2, e2⟩ := List.append_of_mem hm
      rw [e2]
      unfold fps
      rw [List.flatMap_append, List.flatMap_cons]
      exact (List.sublist_append_left _ _).trans (List.sublist_append_right _ _)
    exact r.nd.sublist sl
  subst ee
  simp at x
/-- a call that draws from the bag -/
theorem w_callG {pb pc : Addr} {κ : α → Own → Prop} (h : WA B tas ε L fun as L1 => ∃ (y : β) (b : Bag) (L2 : Bag → Own), as = .v (.ref pb) :: (a y).map AD.d ∧ (∀ b', Up L1 (b.at pb pc) (b'.at pb pc) (L2 b')) ∧ Pre y ∧ ∀ x b', P2 y x → κ x (L2 b')) : WV B e (tCall (spG B.K a Pre e P2) [] E tas) ε L κ := fun F σ H r Q q =>
  h F σ H r _ fun as L1 vs F1 H1 ⟨y, b, L2, ea, hup, hy, k⟩ s1 r1 o1 => by
    subst ea
    match vs, o1 with
    | v :: vs', o =>
      have ev : v = .ref pb := o.1
      subst ev
      rw [List.append_nil]
      obtain ⟨n0, hk, _⟩ := (hup b).get
      have hm := List.mem_of_getElem? hk
      refine ⟨F1, pb, pc, b, vs', y, rfl, r1.sub, (r1.off pb (mem_fps hm List.mem_cons_self)).1, (r1.off pc (mem_fps hm (List.mem_cons_of_mem _ List.mem_cons_self))).1, r1.bagNd hm, r1.own _ hm, ad_data o.2, hy,
        fun x b' v F' H' hx n hb o => ?_⟩
      obtain ⟨n1, hk1, e1⟩ := (hup b').get
      exact q x (L2 b') v F' H' (k x b' hx) (s1.tr n.1) (e1 ▸ r1.callB hk1 n hb) o
/-- with keywords alone -/
theorem w_callKD (h : WA B tk ε L fun as L1 => ∃ y, (∀ K F zs, AdAll K F as zs → DqAll K F (gV [] zs) (a y)) ∧ Pre y ∧ ∀ x, P2 y x → κ x L1) : WV B e (tCallK (spD B.K a Pre e P2) gV E tNil tk) ε L κ := fun F σ H r Q q =>
  h F σ H r _ fun as L1 vs F1 H1 ⟨y, ea, hy, k⟩ s1 r1 o1 => ⟨F1, y, r1.sub, ea _ _ _ o1, hy, fun x v F' H' hx n o => q x L1 v F' H' (k x hx) (s1.tr n.1) (r1.call n) o⟩
end
/-! ### the rules for defs -/
theorem fn_D {x qual : Str} {st : Stmt} {N : List Str} {a : β → List PyData} {Pre : β → Prop} {e : α → PyData} {Post : β → α → Prop} (Fn : Fun K x qual st f fd) (S : FnScope N ps (defScope st)) (hps : ps.length ≤ N.length) (len : ∀ y, (a y).length = ps.length)
    (hbody : ∀ (cdv : Value) (A : Around) (outer : List Env) (s : Shared) (H : Hp) (E : XK), Room k (A.deeper (PyProof.Rows.envOfC qual (defScope st) s.heap.objs.size f cdv)) →
      ∃ t, PSs (cxOf CX0 P w K mg base N qual (defScope st) f cdv A outer s H E).nox (defBody st) t ∧
        ∀ (B : Bg) (Q : VK) y, B.K = K → Pre y → RetD B Q e (Post y) → Ho B (t { nx := fun _ H' => Q .non H', rt := Q }) (argE (a y) N.length) []) :
    FnOk P w K mg base CX0 (k + 1) f fd ps (spD K a Pre e Post) := by
  refine Fn.ok S (fun vs H Q E h => ?_) fun cdv A outer s H vs Q E hr h => ?_
  · obtain ⟨F, y, _, hd, _⟩ := h
    rw [dpa_len hd]; exact len y
  · obtain ⟨t, ht, hb⟩ := hbody cdv A outer s H E hr
    obtain ⟨F, y, hs, hd, hy, q⟩ := h
    refine ⟨t, ht, hb ⟨K, F, H, []⟩ Q y rfl hy (fun x v F' σ' H' ε L hx r o => q x v F' H' hx r.nx o) F _ H (rep_start hs hd ?_)⟩
    rw [len y]; exact hps
theorem fn_G {x qual : Str} {st : Stmt} {N : List Str} {a : β → List PyData} {Pre : β → Prop} {e : α → PyData} {Post : β → α → Prop} (Fn : Fun K x qual st f fd) (S : FnScope N ps (defScope st)) (hps : ps.length ≤ N.length) (len : ∀ y, (a y).length + 1 = ps.length)
    (hbody : ∀ (cdv : Value) (A : Around) (outer : List Env) (s : Shared) (H : Hp) (E : XK), Room k (A.deeper (PyProof.Rows.envOfC qual (defScope st) s.heap.objs.size f cdv)) →
      ∃ t, PSs (cxOf CX0 P w K mg base N qual (defScope st) f cdv A outer s H E).nox (defBody st) t ∧
        ∀ (B : Bg) (Q : VK) pb pc b y, B.K = K → Pre y → RetG B pb pc Q e (Post y) → Ho B (t { nx := fun _ H' => Q .non H', rt := Q }) (some (.v (.ref pb)) :: argE (a y) (N.length - 1)) [Bag.at b pb pc]) :
    FnOk P w K mg base CX0 (k + 1) f fd ps (spG K a Pre e Post) := by
  refine Fn.ok S (fun vs H Q E h => ?_) fun cdv A outer s H vs Q E hr h => ?_
  · obtain ⟨F, pb, pc, b, vs', y, rfl, _, _, _, _, _, hd, _⟩ := h
    rw [List.length_cons, dpa_len hd]; exact len y
  · obtain ⟨t, ht, hb⟩ := hbody cdv A outer s H E hr
    obtain ⟨F, pb, pc, b, vs', y, rfl, hs, f1, f2, ne, bg, hd, hy, q⟩ := h
    refine ⟨t, ht, hb ⟨K, F, H, [pb, pc]⟩ Q pb pc b y rfl hy (fun x b' v F' σ' H' ε L hx r hm o => q x b' v F' H' hx r.nx (r.bag hm) o) F _ H (rep_startB hs f1 f2 ne bg hd ?_)⟩
    rw [len y]; exact hps
theorem g_D {x qual : Str} {st : Stmt} {N : List Str} {a : β → List PyData} {Pre : β → Prop} {e : α → PyData} {Post : β → α → Prop} (Fn : Fun K x qual st f fd) (S : FnScope N ps (defScope st)) (hps : ps.length ≤ N.length) (len : ∀ y, (a y).length = ps.length)
    (hbody : ∀ (cdv : Value) (A : Around) (outer : List Env) (s : Shared) (H : Hp), Room k (A.deeper (PyProof.Rows.envOfC qual (defScope st) s.heap.objs.size f cdv)) → (A.deeper (PyProof.Rows.envOfC qual (defScope st) s.heap.objs.size f cdv)).guards = some [] →
      ∃ t, PSs (cxOf CX0 P w K mg base N qual (defScope st) f cdv A outer s H E0).nox (defBody st) t ∧
        ∀ (B : Bg) (Q : VK) y, B.K = K → Pre y → RetD B Q e (Post y) → Ho B (t { nx := fun _ H' => Q .non H', rt := Q }) (argE (a y) N.length) []) :
    GOk P w K mg base (k + 1) f fd ps (spD K a Pre e Post) := by
  refine g_ok Fn S (fun vs H Q E h => ?_) fun cdv A outer s H vs Q hr hG h => ?_
  · obtain ⟨F, y, _, hd, _⟩ := h
    rw [dpa_len hd]; exact len y
  · obtain ⟨t, ht, hb⟩ := hbody cdv A outer s H hr hG
    obtain ⟨F, y, hs, hd, hy, q⟩ := h
    refine ⟨t, ht, hb ⟨K, F, H, []⟩ Q y rfl hy (fun x v F' σ' H' ε L hx r o => q x v F' H' hx r.nx o) F _ H (rep_start hs hd ?_)⟩
    rw [len y]; exact hps
theorem g_G {x qual : Str} {st : Stmt} {N : List Str} {a : β → List PyData} {Pre : β → Prop} {e : α → PyData} {Post : β → α → Prop} (Fn : Fun K x qual st f fd) (S : FnScope N ps (defScope st)) (hps : ps.length ≤ N.length) (len : ∀ y, (a y).length + 1 = ps.length)
    (hbody : ∀ (cdv : Value) (A : Around) (outer : List Env) (s : Shared) (H : Hp), Room k (A.deeper (PyProof.Rows.envOfC qual (defScope st) s.heap.objs.size f cdv)) → (A.deeper (PyProof.Rows.envOfC qual (defScope st) s.heap.objs.size f cdv)).guards = some [] →
      ∃ t, PSs (cxOf CX0 P w K mg base N qual (defScope st) f cdv A outer s H E0).nox (defBody st) t ∧
        ∀ (B : Bg) (Q : VK) pb pc b y, B.K = K → Pre y → RetG B pb pc Q e (Post y) → Ho B (t { nx := fun _ H' => Q .non H', rt := Q }) (some (.v (.ref pb)) :: argE (a y) (N.length - 1)) [Bag.at b pb pc]) :
    GOk P w K mg base (k + 1) f fd ps (spG K a Pre e Post) := by
  refine g_ok Fn S (fun vs H Q E h => ?_) fun cdv A outer s H vs Q hr hG h => ?_
  · obtain ⟨F, pb, pc, b, vs', y, rfl, _, _, _, _, _, hd, _⟩ := h
    rw [List.length_cons, dpa_len hd]; exact len y
  · obtain ⟨t, ht, hb⟩ := hbody cdv A outer s H hr hG
    obtain ⟨F, pb, pc, b, vs', y, rfl, hs, f1, f2, ne, bg, hd, hy, q⟩ := h
    refine ⟨t, ht, hb ⟨K, F, H, [pb, pc]⟩ Q pb pc b y rfl hy (fun x b' v F' σ' H' ε L hx r hm o => q x b' v F' H' hx r.nx (r.bag hm) o) F _ H (rep_startB hs f1 f2 ne bg hd ?_)⟩
    rw [len y]; exact hps
end
end Fz

/-! ## FzX -/
set_option Elab.async false
set_option linter.all false
set_option maxRecDepth 100000
set_option maxHeartbeats 2000000
set_option autoImplicit false
/-! FzX: t[::-1] and t[i::-1] of a tuple; a raise that is never reached. -/
namespace Fz
open PySem PySem.Spec PyProof.Rows HT L2
/-- how many items t[lo::-1] has -/
def revN (n : Nat) : Option Int → Nat
  | none => n
  | some v => if v < 0 then (v + (n : Int) + 1).toNat else min (v + 1).toNat n
theorem revN_le (n : Nat) (lo : Option Int) : revN n lo ≤ n := by
  cases lo with
  | none => exact Nat.le_refl _
  | some v =>
    unfold revN
    dsimp only
    split
    · omega
    · exact Nat.min_le_right _ _
theorem adjust_rev (n : Nat) (lo : Option Int) : Builtin.Slice.sliceAdjust lo none (-1) (n : Int) = ((revN n lo : Int) - 1, -1) := by
  have h1 : ((-1 : Int) < 0) := by decide
  unfold Builtin.Slice.sliceAdjust
  simp only [h1, if_true]
  refine Prod.ext ?_ rfl
  cases lo with
  | none => rfl
  | some v =>
    show (if v < 0 then max (v + (n : Int)) (-1) else min v ((n : Int) - 1)) = ((if v < 0 then (v + (n : Int) + 1).toNat else min (v + 1).toNat n : Nat) : Int) - 1
    by_cases hv : v < 0
    · rw [if_pos hv, if_pos hv]; omega
    · rw [if_neg hv, if_neg hv]; omega
theorem places_rev (m : Nat) : Builtin.Slice.slicePlaces ((m : Int) - 1) (-1) (-1) = m := by
  unfold Builtin.Slice.slicePlaces
  have h1 : ¬ ((-1 : Int) > 0) := by decide
  rw [if_neg h1]
  have e : (- -1 : Int) = 1 := by decide
  rw [e, Int.ediv_one]
  split <;> omega
theorem pick_rev (xs : Array Value) (m : Nat) (h : m ≤ xs.size) : ((List.range m).filterMap fun (k : Nat) => xs[((m : Int) - 1 + (k : Int) * -1).toNat]?).toArray = ((xs.toList.take m).reverse).toArray := by
  congr 1
  have e : ((List.range m).filterMap fun (k : Nat) => xs[((m : Int) - 1 + (k : Int) * -1).toNat]?) = (List.range m).map fun k => xs.toList.getD (m - 1 - k) default := by
    have : ∀ l : List Nat, (∀ k ∈ l, k < m) → (l.filterMap fun (k : Nat) => xs[((m : Int) - 1 + (k : Int) * -1).toNat]?) = l.map fun k => xs.toList.getD (m - 1 - k) default := fun l => by
      induction l with
      | nil => exact fun _ => rfl
      | cons a l ih =>
        intro hl
        have ha := hl a List.mem_cons_self
        have e2 : ((m : Int) - 1 + (a : Int) * -1).toNat = m - 1 - a := by omega
        have hlt : m - 1 - a < xs.size := by omega
        rw [List.filterMap_cons, List.map_cons, e2, Array.getElem?_eq_getElem hlt, ih fun k hk => hl k (List.mem_cons_of_mem _ hk)]
        show xs[m - 1 - a] :: _ = _
        congr 1
        rw [List.getD_eq_getElem?_getD, List.getElem?_eq_getElem (by rw [Array.length_toList]; exact hlt)]
        rfl
    exact this _ fun k hk => List.mem_range.mp hk
  rw [e]
  refine List.ext_getElem ?_ fun i h1 h2 => ?_
  · rw [List.length_map, List.length_range, List.length_reverse, List.length_take, Array.length_toList]; omega
  · rw [List.length_map, List.length_range] at h1
    rw [List.getElem_map, List.getElem_range, List.getElem_reverse, List.getElem_take, List.getD_eq_getElem?_getD, List.getElem?_eq_getElem (by rw [Array.length_toList]; omega)]
    simp only [List.length_take, Array.length_toList]
    have : min m xs.size = m := by omega
    simp only [this]
    rfl
section
variable {prog : Program} {w : World} {A : Around} {E : Value → Shared → Prop} {s : Shared}
theorem getItem_tuple_rev {t sl : Addr} {items : Array Value} {vl vs : Value} {lo : Option Int} {Q : Value → Shared → Prop} (ht : IsTup s.heap t items) (hs : s.heap.IsSliceOf sl vl .none vs) (pl : IsPart vl lo) (ps : IsPart vs (some (-1)))
    (h : Q (.ref s.heap.objs.size) { s with heap := s.heap.push { cls := .type "tuple", data := .seq ((items.toList.take (revN items.size lo)).reverse).toArray } })
    (hsz : items.size ≤ sizeLine) : wpAny (model prog w) A (getItem (.ref t) (.ref sl)) Q E s := by
  have htake : sizeOk (.seq ((items.toList.take (revN items.size lo)).reverse).toArray) := by
    show ((items.toList.take (revN items.size lo)).reverse).toArray.size ≤ sizeLine
    rw [List.size_toArray, List.length_reverse, List.length_take, Array.length_toList]
    omega
  obtain ⟨os, hos, hcs, hds⟩ := id hs
  have hTs : s.TypeIs (.ref sl) "slice" := ⟨os, hos, hcs⟩
  unfold getItem
  try with_reducible refine wpAny_holding ?_
  first | refine wpAny_bind (wpAny_pure ?_) | skip
  refine wpAny_bind (wpAny_sequenceKey ht.typeIs (by decide) ?_)
  refine wpAny_bind (wpAny_callSpecial?_slot (name := Str.ofString "__getitem__") ht.typeIs PyProof.Rows.slot_tuple_getitem
    (wpAny_call_entry PyProof.Rows.slot_tuple_getitem ht.typeIs entry_tuple_getitem ?_ (args_tuple_getitem _ _)))
  show wpAny _ _ (Builtin.Tuple.tupleItemsOf (.ref t) >>= _) _ _ s
  refine wpAny_bind (tupleItemsOf_ ht ?_)
  refine wpAny_bind (wpAny_typeOf hTs ?_)
  rw [if_pos (by decide)]
  have happ : ∀ {Q : Int × Int × Nat → Shared → Prop}, Q (((revN items.size lo : Nat) : Int) - 1, -1, revN items.size lo) s → wpAny (model prog w) A.in1 (Builtin.Slice.sliceApplied (.ref sl) (pure (items.size : Int))) Q E s := fun {Q} h => by
    unfold Builtin.Slice.sliceApplied Builtin.Slice.sliceFields
    refine wpAny_bind (wpAny_bind (wpAny_field hos hds (x := vl) rfl (wpAny_bind (wpAny_field hos hds (x := .none) rfl (wpAny_bind (wpAny_field hos hds (x := vs) rfl (wpAny_pure ?_)))))))
    refine wpAny_bind (slicePart_ ps ?_)
    show wpAny _ _ (if ((-1 : Int) == 0) = true then _ else _) _ _ s
    rw [if_neg (by decide)]
    refine wpAny_bind (slicePart_ pl (wpAny_bind (slicePart_none (wpAny_bind (wpAny_pure ?_)))))
    show wpAny _ _ (match Builtin.Slice.sliceAdjust lo none (-1) (items.size : Int) with | (lo, hi) => pure (lo, (-1 : Int), Builtin.Slice.slicePlaces lo hi (-1))) _ _ s
    rw [adjust_rev]
    show wpAny _ _ (pure (((revN items.size lo : Nat) : Int) - 1, (-1 : Int), Builtin.Slice.slicePlaces (((revN items.size lo : Nat) : Int) - 1) (-1) (-1))) _ _ s
    rw [places_rev]
    exact wpAny_pure h
  refine wpAny_bind (wpAny_mono (happ (Q := fun r s' => r = (((revN items.size lo : Nat) : Int) - 1, -1, revN items.size lo) ∧ s' = s) ⟨rfl, rfl⟩) ?_ (fun _ _ e => e))
  rintro r s' ⟨rfl, rfl⟩
  show wpAny _ _ (if ((((revN items.size lo : Nat) : Int) - 1 == 0) && ((-1 : Int) == 1) && (revN items.size lo == items.size)) = true then _ else _) _ _ s'
  have hno : ¬ (((((revN items.size lo : Nat) : Int) - 1 == 0) && ((-1 : Int) == 1) && (revN items.size lo == items.size)) = true) := by
    rw [show ((-1 : Int) == 1) = false from by decide]
    simp
  rw [if_neg hno, pick_rev _ _ (revN_le _ _)]
  first
    | exact wpAny_bind (m := Builtin.Tuple.tupleExact _) (wpAny_newObj_type (wpAny_pure ⟨_, rfl, wpAny_pure h⟩) htake)
    | exact wpAny_bind (m := Builtin.Tuple.tupleExact _) (wpAny_newObj_type (wpAny_bind (wpAny_pure (wpAny_pure ⟨_, rfl, wpAny_pure h⟩))) htake)
    | exact wpAny_bind (wpAny_bind (m := Builtin.Tuple.tupleExact _) (wpAny_newObj_type (wpAny_pure (wpAny_pure ⟨_, rfl, wpAny_pure h⟩)) htake))
    | exact wpAny_bind (wpAny_bind (m := Builtin.Tuple.tupleExact _) (wpAny_newObj_type (wpAny_pure ⟨_, rfl, wpAny_pure h⟩) htake))
end
def tRevT (K : PySem.W.Frag) (te : TE) (to : TO) : TE := fun σ H Q => te σ H fun x H1 => to σ H1 fun lo H2 => ∃ a xs, x = .ref a ∧ SqT K H2 a xs ∧ ∀ p, H2 p = none → Q (.ref p) (upd H2 p (.tup (xs.take (revN xs.length lo)).reverse))
theorem pe_revT {X : Cx} {e : Expr} {lo : Option Expr} {te : TE} {to : TO} {k : Nat} {p1 p2 p3 pos : Pos} (he : PE X e te) (hlo : PO X lo to) {ops : Value → Value → List Value} (hsub : ∀ v w, subscripted (.Slice lo none (some (.UnaryOp .USub (.Constant (.int 1) k p1) p2)) p3) false v w = operate (ops v w) (getItem v w)) : PE X (.Subscript e (.Slice lo none (some (.UnaryOp .USub (.Constant (.int 1) k p1) p2)) p3) pos) (tRevT X.K te to) := by
  refine ⟨fun pins s σ H Q I h => ?_⟩
  refine Subscript_ (thn (he.run pins s σ H _ I h) fun v s1 ⟨x, H1, I1, r1, q1⟩ => ?_)
  have hst : PO X (some (.UnaryOp .USub (.Constant (.int 1) k p1) p2)) (tPart (tUn (rU fun i => .int (-i)) (tC (.int 1)))) := po_some (pe_un un_neg pe_int)
  refine wpAny_Slice (thn (hlo.run pins s1 σ H1 _ I1 q1) fun vl s2 ⟨l, H2, I2, pl, q2⟩ => ?_)
  refine thn (po_none.run pins s2 σ H2 (fun o H3 => o = none ∧ H3 = H2) I2 ⟨rfl, rfl⟩) fun vu s3 ⟨u, H3, I3, pu, eu, e3⟩ => ?_
  subst eu e3
  cases pu
  refine thn (hst.run pins s3 σ H3 (fun o H4 => o = some (-1) ∧ H4 = H3) I3 ⟨1, rfl, -1, rfl, rfl, rfl⟩) fun vs s4 ⟨o, H4, I4, ps, eo, e4⟩ => ?_
  subst eo e4
  obtain ⟨a, xs, ex, hx, q⟩ := q2
  subst ex
  cases r1
  have I5 : Inv X pins σ H4 { s4 with heap := s4.heap.push { cls := .type "slice", data := .fields #[vl, .none, vs] } } := I4.kept (t' := s4.toks) fun b ob q => Heap.get?_push_of_some _ q
  obtain ⟨its, r, ht, hz⟩ := I5.tuple hx
  have hlen : its.toArray.size = xs.length := by rw [List.size_toArray]; exact r.length.symm
  show wpAny (model X.prog X.w) X.A (subscriptTail e (.Slice lo none (some (.UnaryOp .USub (.Constant (.int 1) k p1) p2)) p3) (.ref a) (.ref s4.heap.objs.size)) (EP X pins σ Q) X.xe { s4 with heap := s4.heap.push { cls := .type "slice", data := .fields #[vl, .none, vs] } }
  refine tail_any (ops := ops (.ref a) (.ref s4.heap.objs.size)) ht.typeIs PyProof.Rows.slot_tuple_getitem.lookup ?_ (hsub _ _)
  refine getItem_tuple_rev ht (Heap.IsSliceOf.new _ vl .none vs) pl ps ?_ (by rw [hlen]; exact hz)
  rw [hlen]
  refine ⟨.ref _, _, I5.laid (t' := s4.toks) (o := .tup (xs.take (revN xs.length l)).reverse) (fun b ob q => Heap.get?_push_of_some _ q) (Nat.le_refl _) ?_, rfl, q _ (I5.hok.fresh (Nat.le_refl _))⟩
  exact ⟨by rw [List.length_reverse, List.length_take]; omega, _, (r.take (revN xs.length l)).reverse, IsTup.new _ _⟩
theorem pe_revT0 {X : Cx} {e : Expr} {te : TE} {k : Nat} {p1 p2 p3 pos : Pos} (he : PE X e te) : PE X (.Subscript e (.Slice none none (some (.UnaryOp .USub (.Constant (.int 1) k p1) p2)) p3) pos) (tRevT X.K te tNoPart) := pe_revT he po_none (ops := fun v w => [v, w]) (fun v w => by with_unfolding_all rfl)
theorem ps_dead {X : Cx} {st : Stmt} : PS X st (fun _ _ _ => False) := ⟨fun _ _ _ _ _ _ h => h.elim⟩
section
variable {B : Bg} {ε : Eps} {L La Lb : Own} {te : TE} {to : TO} {lo : Option Int}
theorem ex_revT {ds : List PyData} (h : EX B te ε L (.d (.tuple ds)) La) (h2 : EO B to ε La lo Lb) : EX B (tRevT B.K te to) ε L (.d (.tuple (ds.take (revN ds.length lo)).reverse)) Lb := fun F σ H r Q q =>
  h F σ H r _ fun v F1 H1 s1 r1 o1 => h2 F1 σ H1 r1 _ fun F2 H2 s2 r2 => by
    obtain ⟨p, vs, rfl, g1, g2⟩ := tup_inv (o1.sub s2)
    refine ⟨p, vs, rfl, tq_sub r2.sub g1, fun p' hp => ?_⟩
    have hF := sub_none r2.sub hp
    rw [dpa_len g2]
    exact q _ _ _ ((s1.tr s2).tr (sub_fresh hF)) (r2.grow hp) (.tup upd_same (dpa_sub (sub_fresh hF) (dpa_rev (dpa_take _ g2))))
theorem ex_revT0 {ds : List PyData} (h : EX B te ε L (.d (.tuple ds)) La) : EX B (tRevT B.K te tNoPart) ε L (.d (.tuple ds.reverse)) La := by
  have := ex_revT h (eo_n (ε := ε) (B := B))
  have e : ds.take (revN ds.length none) = ds := List.take_length
  rw [e] at this
  exact this
end
end Fz

/-! ## FzY -/
set_option Elab.async false
set_option linter.all false
set_option maxRecDepth 100000
set_option maxHeartbeats 2000000
set_option autoImplicit false
/-! FzY: comprehensions that draw; chains; extend; lists unpacked. -/
namespace Fz
open PySem L2
section
variable {B : Bg} {ε ε' : Eps} {L L' La Lb Lc : Own} {te ta tb tc tl : TE} {tt tu : TT} {tas tr : TA} {a b x : AD} {D : Ends} {ts tw : TS} {g : TG} {vs : List Nat} {i j : Int}
def eD (d : PyData) : PyData := d
/-- one turn of a comprehension that may draw -/
def CTurnW (B : Bg) (g : TG) (tt : TT) (te : TE) (ε : Eps) (vs : List Nat) (I : Nat → List PyData → Own → Prop) (i : Nat) (d : PyData) : Prop :=
  ∀ acc L', I i acc L' → acc.length < 100000 ∧ ∃ ε2, GT B g (.d d) (wipeE ε vs) ε2 ∧ ∀ m, WT B tt ε2 (L' ++ [m]) fun b L1 => (b = true → WV B eD te ε2 L1 fun e L2 => ∃ L3, L2 = L3 ++ [m] ∧ I (i + 1) (acc ++ [e]) L3) ∧ (b = false → ∃ L3, L1 = L3 ++ [m] ∧ I (i + 1) acc L3)
theorem cturn_goW {F1 : Hp} {σ : St} {I : Nat → List PyData → Own → Prop} {Dl : Addr} {i : Nat} {H : Hp} {d : PyData} {w : V} (hw : ∀ v σ H P, (g v (wipe σ vs) H P ↔ g v (wipe σ vs) H fun σ2 H2 => wipe σ2 vs = wipe σ vs ∧ P σ2 H2))
    (ct : CTurnW B g tt te ε vs I i d) (c : CW B ε vs F1 σ I Dl i H) (hd : ∀ F acc L, Sub F1 F → Rep B (wipeE ε vs) (L ++ [.lst Dl acc]) F (wipe σ vs) H → Dq B.K F w d) :
    g w (wipe σ vs) H fun σ2 H2 => wipe σ2 vs = wipe σ vs ∧ tt σ2 H2 fun b H3 =>
      if b = true then te σ2 H3 fun y H4 => ∃ acc, H4 Dl = some (.lst acc) ∧ acc.length < sizeLine ∧ CW B ε vs F1 σ I Dl (i + 1) (upd H4 Dl (.lst (acc ++ [y]))) else CW B ε vs F1 σ I Dl (i + 1) H3 := by
  obtain ⟨acc, L', F, s, hI, r⟩ := c
  obtain ⟨hz, ε2, hg, h1⟩ := ct acc L' hI
  refine (hw w σ H _).mp (hg _ F _ H w r (hd F acc L' s r) _ fun σ2 r2 => ?_)
  refine h1 _ F σ2 H r2 _ fun b L1 F3 H3 k s3 r3 => ?_
  cases b with
  | true =>
    show te σ2 H3 _
    refine k.1 rfl F3 σ2 H3 r3 _ fun e L2 y F4 H4 k4 s4 r4 o4 => ?_
    obtain ⟨L3, rfl, h5⟩ := k4
    obtain ⟨ws, k1, k2⟩ := r4.own _ (List.mem_append_right _ List.mem_cons_self)
    have hz2 : ws.length < sizeLine := by rw [dpa_len k2]; exact Evl.sz_lt hz
    refine ⟨ws, k1, hz2, acc ++ [e], L3, F4, (s.tr s3).tr s4, h5, ?_⟩
    have r5 : Rep B (wipeE ε vs) (L3 ++ [.lst Dl acc]) F4 (wipe σ vs) H4 := r4.reslot r ((s3).tr s4)
    have r6 := r5.chg (m' := .lst Dl (acc ++ [e])) (H' := upd H4 Dl (.lst (ws ++ [y]))) get_last rfl ⟨_, upd_same, dpa_app k2 (.cons o4 .nil)⟩ fun q o hq e => by
      rw [upd_ne (fun z => hq (by rw [z]; exact List.mem_cons_self))]; exact e
    rw [set_last] at r6
    exact r6
  | false =>
    obtain ⟨L3, rfl, h3⟩ := k.2 rfl
    exact ⟨acc, L3, F3, s.tr s3, h3, r3.reslot r s3⟩
theorem cw_endW {F F1 : Hp} {σ : St} {H1 : Hp} {I : Nat → List PyData → Own → Prop} {Dl : Addr} {n : Nat} {H' : Hp} {Q : VK} {κ : Addr → Own → Prop} (s1 : Sub F F1) (r1 : Rep B ε La F1 σ H1) (hD : H1 Dl = none) (c : CW B ε vs F1 σ I Dl n H')
    (hd : ∀ p acc L', p ∉ B.M → I n acc L' → κ p (.lst p acc :: L')) (q : ∀ p L' F' H', κ p L' → Sub F F' → Rep B ε L' F' σ H' → Q (.ref p) H') : Q (.ref Dl) H' := by
  obtain ⟨acc, L', F', s, hI, r⟩ := c
  exact q Dl _ F' H' (hd Dl acc L' (r1.newM hD) hI) (s1.tr s) (r.reslot r1 s).toHead
theorem wr_lcR1 {j : Nat} {n : Int} {κ : Addr → Own → Prop} (h : EA B tas ε L [.d (.int n)] La) (hn : -(2 ^ 62) ≤ n ∧ n < 2 ^ 62) (I : Nat → List PyData → Own → Prop) (h0 : I 0 [] La) (hj : j ∈ vs)
    (hs : ∀ i : Nat, (i : Int) < n → CTurnW B (gName j) tt te ε vs I i (.int (i : Int))) (hd : ∀ p acc L', p ∉ B.M → I n.toNat acc L' → κ p (.lst p acc :: L')) : WR B (tLc (iRng1 tas) (gName j) tt te vs) ε L κ := fun F σ H r Q q =>
  h F σ H r _ fun ws F1 H1 s1 r1 o1 => by
    match ws, o1 with
    | [v], o =>
      have ev : v = .int n := int_inv o.1
      subst ev
      refine ⟨n, rfl, hn.1, hn.2, fun Dl hD => lc_range (lo := 0) (n := n.toNat) (CW B ε vs F1 σ I Dl) (cw_start r1 hD h0) (fun i H' hi c => ?_) fun H' c => cw_endW s1 r1 hD c hd q⟩
      have e0 : (0 : Int) + (i : Int) = (i : Int) := Int.zero_add _
      rw [e0]
      exact cturn_goW (gw_name hj) (hs i (by omega)) c fun _ _ _ _ _ => .int _
theorem wr_lcR2 {j : Nat} {lo n : Int} {κ : Addr → Own → Prop} (h : EA B tas ε L [.d (.int lo), .d (.int n)] La) (hn : (-(2 ^ 62) ≤ lo ∧ lo < 2 ^ 62) ∧ -(2 ^ 62) ≤ n ∧ n < 2 ^ 62) (I : Nat → List PyData → Own → Prop) (h0 : I 0 [] La) (hj : j ∈ vs)
    (hs : ∀ i : Nat, lo + (i : Int) < n → CTurnW B (gName j) tt te ε vs I i (.int (lo + (i : Int)))) (hd : ∀ p acc L', p ∉ B.M → I (n - lo).toNat acc L' → κ p (.lst p acc :: L')) : WR B (tLc (iRng2 tas) (gName j) tt te vs) ε L κ := fun F σ H r Q q =>
  h F σ H r _ fun ws F1 H1 s1 r1 o1 => by
    match ws, o1 with
    | [v, w], o =>
      have ev : v = .int lo := int_inv o.1
      have ew : w = .int n := int_inv o.2.1
      subst ev ew
      refine ⟨lo, n, rfl, ⟨hn.1.1, hn.1.2, hn.2.1, hn.2.2⟩, fun Dl hD => lc_range (lo := lo) (n := (n - lo).toNat) (CW B ε vs F1 σ I Dl) (cw_start r1 hD h0) (fun i H' hi c => ?_) fun H' c => cw_endW s1 r1 hD c hd q⟩
      exact cturn_goW (gw_name hj) (hs i (by omega)) c fun _ _ _ _ _ => .int _
theorem wr_lcL {xs : List PyData} {κ : Addr → Own → Prop} (h : WV B eD tl ε L fun d L1 => d = .list xs ∧ L1 = La) (I : Nat → List PyData → Own → Prop) (h0 : I 0 [] La)
    (hw : ∀ (v : V) (σ : St) (H : Hp) (P : St → Hp → Prop), (g v (wipe σ vs) H P ↔ g v (wipe σ vs) H fun σ2 H2 => wipe σ2 vs = wipe σ vs ∧ P σ2 H2))
    (hs : ∀ (i : Nat) d, xs[i]? = some d → CTurnW B g tt te ε vs I i d) (hd : ∀ p acc L', p ∉ B.M → I xs.length acc L' → κ p (.lst p acc :: L')) : WR B (tLc (iList B.K tl) g tt te vs) ε L κ := fun F σ H r Q q =>
  h F σ H r _ fun d L1 v F1 H1 k s1 r1 o1 => by
    obtain ⟨rfl, rfl⟩ := k
    have o' : Dq B.K F1 v (.list xs) := o1
    cases o' with
    | @lst p us _ q1 q2 =>
      refine ⟨p, rfl, ⟨us, .inl (.inl (r1.sub _ _ q1))⟩, fun Dl hD => lc_list (xs := us) (CW B ε vs F1 σ I Dl) (cw_start r1 hD h0) (fun i H' _ c => ?_) (fun i x H' hi c => ?_) fun H' c => cw_endW s1 r1 hD (by rw [dpa_len q2] at c; exact c) hd q⟩
      · obtain ⟨acc, L', F', s, hI, r'⟩ := c
        exact .inl (.inl (r'.sub _ _ (s _ _ q1)))
      · have hlt : i < xs.length := by rw [← dpa_len q2]; exact (List.getElem?_eq_some_iff.mp hi).1
        obtain ⟨w, e1, e2⟩ := dpa_get q2 (List.getElem?_eq_getElem hlt)
        have ex : x = w := Option.some.inj (hi.symm.trans e1)
        subst ex
        exact cturn_goW hw (hs i _ (List.getElem?_eq_getElem hlt)) c fun F' _ _ s _ => dp_sub s e2
theorem wr_lcT {xs : List PyData} {κ : Addr → Own → Prop} (h : WV B eD tl ε L fun d L1 => d = .tuple xs ∧ L1 = La) (I : Nat → List PyData → Own → Prop) (h0 : I 0 [] La)
    (hw : ∀ (v : V) (σ : St) (H : Hp) (P : St → Hp → Prop), (g v (wipe σ vs) H P ↔ g v (wipe σ vs) H fun σ2 H2 => wipe σ2 vs = wipe σ vs ∧ P σ2 H2))
    (hs : ∀ (i : Nat) d, xs[i]? = some d → CTurnW B g tt te ε vs I i d) (hd : ∀ p acc L', p ∉ B.M → I xs.length acc L' → κ p (.lst p acc :: L')) : WR B (tLc (iTup B.K tl) g tt te vs) ε L κ := fun F σ H r Q q =>
  h F σ H r _ fun d L1 v F1 H1 k s1 r1 o1 => by
    obtain ⟨rfl, rfl⟩ := k
    have o' : Dq B.K F1 v (.tuple xs) := o1
    cases o' with
    | @tup p us _ q1 q2 =>
      refine ⟨p, rfl, ⟨us, tq_sub r1.sub q1⟩, fun Dl hD => lc_tup (xs := us) (CW B ε vs F1 σ I Dl) (cw_start r1 hD h0) (fun i H' _ c => ?_) (fun i x H' hi c => ?_) fun H' c => cw_endW s1 r1 hD (by rw [dpa_len q2] at c; exact c) hd q⟩
      · obtain ⟨acc, L', F', s, hI, r'⟩ := c
        exact tq_sub r'.sub (s _ _ q1)
      · have hlt : i < xs.length := by rw [← dpa_len q2]; exact (List.getElem?_eq_some_iff.mp hi).1
        obtain ⟨w, e1, e2⟩ := dpa_get q2 (List.getElem?_eq_getElem hlt)
        have ex : x = w := Option.some.inj (hi.symm.trans e1)
        subst ex
        exact cturn_goW hw (hs i _ (List.getElem?_eq_getElem hlt)) c fun F' _ _ s _ => dp_sub s e2
/-! ### chains -/
theorem ex_chain {p q : Int → Int → Bool} {k : Int} (ha : EX B ta ε L (.d (.int i)) La) (hb : EX B tb ε La (.d (.int j)) Lb) (hc : EX B tc ε Lb (.d (.int k)) Lb) : EX B (tChain (rI0 fun i j => .bl (p i j)) (rI0 fun i j => .bl (q i j)) ta tb tc) ε L (.d (.bool (p i j && q j k))) Lb := fun F σ H r Q f =>
  ha F σ H r _ fun v F1 H1 s1 r1 o1 => hb F1 σ H1 r1 _ fun w F2 H2 s2 r2 o2 => ⟨i, j, int_inv o1, int_inv o2, p i j, rfl, by
    have e1 : v = .int i := int_inv o1
    cases c : p i j with
    | true =>
      rw [c] at f
      exact hc F2 σ H2 r2 _ fun u F3 H3 s3 r3 o3 => ⟨j, k, int_inv o2, int_inv o3, f _ F3 H3 ((s1.tr s2).tr s3) r3 (.bl _)⟩
    | false =>
      rw [c] at f
      exact f _ F2 H2 (s1.tr s2) r2 (.bl _)⟩
/-! ### more -/
theorem gt_lst2 {i j : Nat} {d e : PyData} : GT B (gLst B.K 2 (gCons (gName i) (gCons (gName j) gNil))) (.d (.list [d, e])) ε ((ε.set i (some (.d d))).set j (some (.d e))) := fun L F σ H v r o P p => by
  have o' : Dq B.K F v (.list [d, e]) := o
  cases o' with
  | lst h1 h2 =>
  cases h2 with
  | cons a t =>
    cases t with
    | cons b t =>
      cases t
      exact ⟨_, _, rfl, .inl (.inl (r.sub _ _ h1)), rfl, _, _, rfl, _, _, rfl, rfl, p _ ((r.slot (a := .d d) a).slot (a := .d e) b)⟩
theorem gt_lst3 {i j k : Nat} {d e f : PyData} : GT B (gLst B.K 3 (gCons (gName i) (gCons (gName j) (gCons (gName k) gNil)))) (.d (.list [d, e, f])) ε (((ε.set i (some (.d d))).set j (some (.d e))).set k (some (.d f))) := fun L F σ H v r o P p => by
  have o' : Dq B.K F v (.list [d, e, f]) := o
  cases o' with
  | lst h1 h2 =>
  cases h2 with
  | cons a t =>
    cases t with
    | cons b t =>
      cases t with
      | cons c t =>
        cases t
        exact ⟨_, _, rfl, .inl (.inl (r.sub _ _ h1)), rfl, _, _, rfl, _, _, rfl, _, _, rfl, rfl, p _ (((r.slot (a := .d d) a).slot (a := .d e) b).slot (a := .d f) c)⟩
/-- tuple(reversed(xs)) -/
theorem ex_tupRev {ds : List PyData} (h : EX B te ε L x La) (hx : IsL La x ds) : EX B (RT.tTupRev B.K te) ε L (.d (.tuple ds.reverse)) La := fun F σ H r Q q =>
  h F σ H r _ fun v F1 H1 s1 r1 o1 => by
    obtain ⟨p, vs, rfl, g1, g2⟩ := hx.get r1 o1
    refine ⟨p, vs, rfl, g1, fun l hl => ?_⟩
    have hF := sub_none r1.sub hl
    exact q _ _ _ (s1.tr (sub_fresh hF)) (r1.grow hl) (.tup upd_same (dpa_sub (sub_fresh hF) (dpa_rev g2)))
/-- [..] * n -/
theorem en_repL {ds : List PyData} {n : Nat} (ha : EX B ta ε L x La) (hb : EX B tb ε La (.d (.int n)) Lb) (hx : IsM Lb x ds) (hl : ds.length * n ≤ 100000) (hn : n ≤ 100000) : EN B (tOp rRep ta tb) ε L (List.replicate n ds).flatten Lb := en_op ha hb fun F σ H v w rp hv hw Q q => by
  obtain ⟨p, vs, rfl, g1, g2⟩ := hx.get rp hv
  refine ⟨p, n, vs, rfl, int_inv hw, g1, by omega, by omega, Evl.sz_of (by rw [dpa_len g2, Int.toNat_natCast]; exact hl), fun p' hp' => q p' F _ (Sub.rfl' F) (rp.newM hp') (rp.alloc hp' rfl ⟨_, upd_same, ?_⟩)⟩
  rw [Int.toNat_natCast]
  have : ∀ m : Nat, DqAll B.K F (List.replicate m vs).flatten (List.replicate m ds).flatten := fun m => by
    induction m with
    | zero => exact .nil
    | succ m ih => rw [List.replicate_succ, List.replicate_succ, List.flatten_cons, List.flatten_cons]; exact dpa_app g2 ih
  exact this n
/-- xs.extend(ys), ys a list that does not change -/
theorem x_extW {to : TE} {p : Addr} (ho : EX B to ε L (.v (.ref p)) L) (hj : ∃ (j : Nat) (ds' : List PyData), At L j (.lst p ds')) (h : WV B eD te ε L fun d L1 => ∃ es ds L2, d = .list es ∧ Up L1 (.lst p ds) (.lst p (ds ++ es)) L2 ∧ ds.length + es.length ≤ 100000 ∧ Ho B D.nx ε L2) : Ho B (tDrop (tBM B.K "list" rExtend to (tCons te tNil)) D) ε L := fun F σ H r =>
  ho F σ H r _ fun v F1 H1 s1 r1 o1 => by
    have ev : v = .ref p := o1
    subst ev
    obtain ⟨j, ds', hj⟩ := hj
    obtain ⟨us, u1, _⟩ := r1.own _ (List.mem_of_getElem? hj.get)
    refine ⟨tyv u1, h F1 σ H1 r1 _ fun d L1 w F2 H2 ⟨es, ds, L2, ed, hup, hz, k⟩ s2 r2 o2 => ?_⟩
    subst ed
    obtain ⟨n, hk, rfl⟩ := hup.get
    obtain ⟨vs, g1, g2⟩ := r2.own _ (List.mem_of_getElem? hk)
    have o' : Dq B.K F2 w (.list es) := o2
    cases o' with
    | @lst b us' _ q1 q2 =>
      exact ⟨p, b, vs, us', rfl, rfl, g1, r2.sub _ _ q1, Evl.sz_of (by rw [dpa_len g2, dpa_len q2]; exact hz), k F2 σ _ (r2.setL hk (dpa_app g2 q2))⟩
end
end Fz

/-! ## K80M -/
/-! K80M: the plain mathematics of the cards: products, binomials, counts of falls, bounds. -/
set_option autoImplicit false
set_option linter.all false
namespace K80

/-! ### sizes -/
def Bd (k : Nat) (x : Int) : Prop := x.natAbs < 2 ^ k
theorem Bd.mono {k l : Nat} {x : Int} (h : Bd k x) (e : k ≤ l) : Bd l x := Nat.lt_of_lt_of_le h (Nat.pow_le_pow_right (by decide) e)
theorem Bd.mul {k l : Nat} {x y : Int} (h : Bd k x) (h2 : Bd l y) : Bd (k + l) (x * y) := by
  unfold Bd at *
  rw [Int.natAbs_mul, Nat.pow_add]
  exact Nat.mul_lt_mul'' h h2
theorem Bd.add {k : Nat} {x y : Int} (h : Bd k x) (h2 : Bd k y) : Bd (k + 1) (x + y) := by
  unfold Bd at *
  have := Int.natAbs_add_le x y
  rw [Nat.pow_succ]
  omega
theorem Bd.sub {k : Nat} {x y : Int} (h : Bd k x) (h2 : Bd k y) : Bd (k + 1) (x - y) := by
  unfold Bd at *
  rw [Nat.pow_succ]
  omega
theorem Bd.neg {k : Nat} {x : Int} (h : Bd k x) : Bd k (-x) := by unfold Bd at *; rw [Int.natAbs_neg]; exact h
theorem Bd.abs {k : Nat} {x : Int} (h : Bd k x) : Bd k (x.natAbs : Int) := by unfold Bd at *; rw [Int.natAbs_natCast]; exact h
theorem Bd.div {k : Nat} {x y : Int} (h : Bd k x) : Bd k (x / y) := by
  unfold Bd at *
  exact Nat.lt_of_le_of_lt (Int.natAbs_ediv_le_natAbs x y) h
theorem Bd.of {k : Nat} {x : Int} {n : Nat} (h0 : -(n : Int) < x) (h : x < n) (hn : n ≤ 2 ^ k) : Bd k x := by unfold Bd; omega
theorem Bd.le {k : Nat} {x y : Int} (h : Bd k y) (h0 : 0 ≤ x) (hx : x ≤ y) : Bd k x := by unfold Bd at *; omega
theorem Bd.pow {k : Nat} {x : Int} (h : Bd k x) : ∀ n : Nat, Bd (k * n + 1) (x ^ n)
  | 0 => by unfold Bd; simp
  | n + 1 => by
    rw [Int.pow_succ]
    have := (Bd.pow h n).mul h
    exact this.mono (by rw [Nat.mul_succ]; omega)
theorem bd_zero (k : Nat) : Bd k 0 := by unfold Bd; exact Nat.two_pow_pos k
theorem bd_one (k : Nat) : Bd (k + 1) 1 := by unfold Bd; have := Nat.pow_le_pow_right (show 0 < 2 by decide) (show 1 ≤ k + 1 by omega); have e : (1 : Int).natAbs = 1 := rfl; rw [e]; omega

/-! ### factorials, rising products -/
def fac : Nat → Nat
  | 0 => 1
  | n + 1 => fac n * (n + 1)
theorem fac_succ (n : Nat) : fac (n + 1) = fac n * (n + 1) := rfl
theorem fac_pos : ∀ n, 0 < fac n
  | 0 => Nat.one_pos
  | n + 1 => Nat.mul_pos (fac_pos n) (Nat.succ_pos n)
theorem fac_bd : ∀ n : Nat, n ≤ 63 → Bd (6 * n + 1) (fac n : Int)
  | 0, _ => by unfold Bd fac; decide
  | n + 1, h => by
    have e : (fac (n + 1) : Int) = (fac n : Int) * ((n + 1 : Nat) : Int) := by rw [fac_succ, Int.natCast_mul]
    rw [e]
    have := (fac_bd n (by omega)).mul (show Bd 6 ((n + 1 : Nat) : Int) by unfold Bd; rw [Int.natAbs_natCast]; omega)
    exact this.mono (by omega)
def prodF (a : Int) : Nat → Int
  | 0 => 1
  | n + 1 => prodF a n * (a + n)
theorem prodF_bd {k : Nat} {a : Int} (h : ∀ i : Nat, i < 64 → Bd k (a + i)) : ∀ n : Nat, n ≤ 64 → Bd (k * n + 1) (prodF a n)
  | 0, _ => by unfold Bd prodF; simp
  | n + 1, hn => by
    unfold prodF
    exact ((prodF_bd h n (by omega)).mul (h n (by omega))).mono (by rw [Nat.mul_succ]; omega)
/-- how often an order comes: n cards, d falls, t piles -/
def dealtBy (t : Int) (n : Nat) (d : Int) : Int := prodF (t - d) n / (fac n : Int)
/-- binomials -/
def ch : Nat → Nat → Nat
  | _, 0 => 1
  | 0, _ + 1 => 0
  | n + 1, k + 1 => ch n k + ch n (k + 1)
theorem ch_zero : ∀ {n k : Nat}, n < k → ch n k = 0
  | _, 0, h => absurd h (Nat.not_lt_zero _)
  | 0, _ + 1, _ => rfl
  | n + 1, k + 1, h => by unfold ch; rw [ch_zero (by omega), ch_zero (by omega)]
theorem ch_n0 (n : Nat) : ch n 0 = 1 := by cases n <;> rfl
theorem ch_succ (n k : Nat) : ch (n + 1) (k + 1) = ch n k + ch n (k + 1) := by rw [ch]
/-- (k + 1) * C(n + 1, k + 1) = (n + 1) * C(n, k) -/
theorem ch_absorb : ∀ n k : Nat, ch (n + 1) (k + 1) * (k + 1) = ch n k * (n + 1)
  | 0, 0 => rfl
  | 0, k + 1 => by rw [ch_zero (show 0 + 1 < k + 1 + 1 by omega), ch_zero (show 0 < k + 1 by omega), Nat.zero_mul, Nat.zero_mul]
  | n + 1, 0 => by
    have := ch_absorb n 0
    rw [ch_n0] at this ⊢
    rw [ch_succ, ch_n0]
    have e : ch (n + 1) (0 + 1) * (0 + 1) = ch (n + 1) (0 + 1) := Nat.mul_one _
    rw [e] at this
    have e2 : (1 + ch (n + 1) (0 + 1)) * (0 + 1) = 1 + ch (n + 1) (0 + 1) := Nat.mul_one _
    omega
  | n + 1, k + 1 => by
    have h1 := ch_absorb n k
    have h2 := ch_absorb n (k + 1)
    rw [ch_succ (n + 1) (k + 1), Nat.add_mul]
    have e1 : ch (n + 1) (k + 1) * (k + 1 + 1) = ch (n + 1) (k + 1) * (k + 1) + ch (n + 1) (k + 1) := Nat.mul_succ _ _
    rw [e1, h1, h2]
    have e2 : ch (n + 1) (k + 1) = ch n k + ch n (k + 1) := ch_succ n k
    rw [e2]
    have e3 : (ch n k + ch n (k + 1)) * (n + 1 + 1) = (ch n k + ch n (k + 1)) * (n + 1) + (ch n k + ch n (k + 1)) := Nat.mul_succ _ _
    rw [e3, Nat.add_mul]
    omega
/-- (n + 1 - k) * C(n + 1, k) = (n + 1) * C(n, k) -/
theorem ch_left : ∀ n k : Nat, k ≤ n + 1 → ch (n + 1) k * (n + 1 - k) = ch n k * (n + 1)
  | n, 0, _ => by rw [ch_n0, ch_n0]; rfl
  | n, k + 1, h => by
    have h1 := ch_absorb n k
    have h3 : ch (n + 1) (k + 1) * (n + 1 - (k + 1)) + ch (n + 1) (k + 1) * (k + 1) = ch (n + 1) (k + 1) * (n + 1) := by
      rw [← Nat.mul_add]
      congr 1
      omega
    have h4 : ch (n + 1) (k + 1) * (n + 1) = ch n k * (n + 1) + ch n (k + 1) * (n + 1) := by rw [ch_succ, Nat.add_mul]
    omega
/-- for a from 1 on the rising product is fac times a binomial -/
theorem prodF_ch (a : Nat) : ∀ n : Nat, prodF ((a : Int) + 1) n = ((ch (a + n) n * fac n : Nat) : Int)
  | 0 => by unfold prodF; rw [ch_n0]; rfl
  | n + 1 => by
    unfold prodF
    rw [prodF_ch a n]
    have h := ch_absorb (a + n) n
    have e : (a : Int) + 1 + (n : Int) = ((a + n + 1 : Nat) : Int) := by omega
    rw [e, ← Int.natCast_mul]
    congr 1
    rw [fac_succ]
    have e2 : a + (n + 1) = a + n + 1 := rfl
    rw [e2]
    calc ch (a + n) n * fac n * (a + n + 1) = fac n * (ch (a + n) n * (a + n + 1)) := by rw [Nat.mul_comm (ch _ _) (fac n), Nat.mul_assoc]
      _ = fac n * (ch (a + n + 1) (n + 1) * (n + 1)) := by rw [h]
      _ = ch (a + n + 1) (n + 1) * (fac n * (n + 1)) := by rw [← Nat.mul_assoc, Nat.mul_comm (fac n), Nat.mul_assoc]
theorem prodF_zero {a : Int} : ∀ {n : Nat}, -(n : Int) < a → a ≤ 0 → prodF a n = 0
  | 0, h, h2 => by omega
  | n + 1, h, h2 => by
    unfold prodF
    by_cases e : a + n = 0
    · rw [e, Int.mul_zero]
    · rw [prodF_zero (n := n) (by omega) h2, Int.zero_mul]
theorem dealtBy_ch {t : Int} {n : Nat} {d : Int} {a : Nat} (h : t - d = (a : Int) + 1) : dealtBy t n d = (ch (a + n) n : Int) := by
  unfold dealtBy
  rw [h, prodF_ch, Int.natCast_mul]
  exact Int.mul_ediv_cancel _ (by have := fac_pos n; omega)
theorem dealtBy_zero {t : Int} {n : Nat} {d : Int} (h : -(n : Int) < t - d) (h2 : t - d ≤ 0) : dealtBy t n d = 0 := by
  unfold dealtBy
  rw [prodF_zero h h2, Int.zero_ediv]
/-- the law's own way to reckon it -/
def topF (a : Int) : Nat → Int
  | 0 => 1
  | i + 1 => topF a i * (if 0 > a + i then 0 else a + i) / ((i : Int) + 1)
theorem topF_ch (a : Nat) : ∀ n : Nat, topF ((a : Int) + 1) n = (ch (a + n) n : Int)
  | 0 => by unfold topF; rw [ch_n0]; rfl
  | n + 1 => by
    unfold topF
    rw [topF_ch a n, if_neg (by omega)]
    have h := ch_absorb (a + n) n
    have e : (ch (a + n) n : Int) * ((a : Int) + 1 + (n : Int)) = (ch (a + (n + 1)) (n + 1) : Int) * ((n : Int) + 1) := by
      have e1 : (a : Int) + 1 + (n : Int) = ((a + n + 1 : Nat) : Int) := by omega
      have e2 : (n : Int) + 1 = ((n + 1 : Nat) : Int) := by omega
      rw [e1, e2, ← Int.natCast_mul, ← Int.natCast_mul]
      congr 1
      exact h.symm
    rw [e]
    exact Int.mul_ediv_cancel _ (by omega)
theorem topF_zero {a : Int} (h : a ≤ 0) : ∀ n : Nat, topF a (n + 1) = 0
  | 0 => by
    unfold topF topF
    have e : (if (0 : Int) > a + ((0 : Nat) : Int) then (0 : Int) else a + ((0 : Nat) : Int)) = 0 := by split <;> omega
    rw [e]; rfl
  | n + 1 => by unfold topF; rw [topF_zero h n, Int.zero_mul, Int.zero_ediv]
theorem topF_dealt {t d : Int} {n : Nat} (h : n = 0 ∨ -(n : Int) < t - d) : topF (t - d) n = dealtBy t n d := by
  by_cases hp : t - d ≤ 0
  · cases n with
    | zero => unfold dealtBy topF prodF fac; rfl
    | succ n => rw [topF_zero hp, dealtBy_zero (h.resolve_left (by omega)) hp]
  · obtain ⟨a, ha⟩ : ∃ a : Nat, t - d = (a : Int) + 1 := ⟨(t - d - 1).toNat, by omega⟩
    rw [dealtBy_ch ha, ha, topF_ch]
/-- behind each other numbers of falls: the law's other way -/
theorem step_dealt {t : Int} {n d : Nat} (hn : 0 < n) (hd : d + 1 ≤ n) (ht : 0 < t) :
    dealtBy t n d * (t - 1 - d) / (if 1 < t - 1 - d + n then t - 1 - d + n else 1) = dealtBy t n ((d : Int) + 1) := by
  by_cases h0 : t - 1 - d < 0
  · rw [dealtBy_zero (by omega) (by omega), dealtBy_zero (by omega) (by omega), Int.zero_mul, Int.zero_ediv]
  · obtain ⟨a, ha⟩ : ∃ a : Nat, t - 1 - d = (a : Int) := ⟨(t - 1 - d).toNat, by omega⟩
    have e1 : t - d = (a : Int) + 1 := by omega
    rw [dealtBy_ch e1, ha]
    have em : (if 1 < (a : Int) + n then (a : Int) + n else 1) = ((a + n : Nat) : Int) := by split <;> omega
    rw [em]
    cases a with
    | zero =>
      rw [dealtBy_zero (by omega) (by omega)]
      simp
    | succ a =>
      rw [dealtBy_ch (a := a) (by omega)]
      have h := ch_left (a + n) n (by omega)
      have e2 : a + 1 + n = a + n + 1 := by omega
      have e3 : a + n + 1 - n = a + 1 := by omega
      rw [e3] at h
      rw [e2]
      have e4 : (ch (a + n + 1) n : Int) * ((a + 1 : Nat) : Int) = (ch (a + n) n : Int) * ((a + n + 1 : Nat) : Int) := by
        rw [← Int.natCast_mul, ← Int.natCast_mul, h]
      rw [e4]
      exact Int.mul_ediv_cancel _ (by omega)
end K80

/-! ## FzE -/
set_option Elab.async false
set_option linter.all false
set_option maxRecDepth 100000
set_option maxHeartbeats 2000000
set_option autoImplicit false
/-! FzE: data that can be shown and told apart. -/
namespace Fz
open PySem L2 K80
def Sh (d : PyData) : Prop := d.showable = true ∧ d.hasDict = false ∧ d.depth ≤ 64 ∧ d.shown.length ≤ sizeLine
def SameOk (d : PyData) : Prop := Sh d ∧ SeqAt.shaped d = true ∧ PyData.eqv d d = true
/-- data of so great a depth, so many leaves -/
structure Nice (k m : Nat) (d : PyData) : Prop where
  sh : d.showable = true
  nd : d.hasDict = false
  dp : d.depth ≤ k
  lf : d.leavesShort 700 = true
  bk : d.bulk ≤ m
  ly : d.canLay0 = true
structure NiceL (k m : Nat) (ds : List PyData) : Prop where
  sh : PyData.showableAll ds = true
  nd : PyData.hasDictAll ds = false
  dp : PyData.depthAll ds ≤ k
  lf : PyData.leavesShortAll 700 ds = true
  bk : PyData.bulkAll ds ≤ m
  ly : PyData.canLayAll0 ds = true
theorem niceL_nil {k m : Nat} : NiceL k m [] := ⟨rfl, rfl, Nat.zero_le _, rfl, Nat.zero_le _, rfl⟩
theorem niceL_cons {k m n : Nat} {d : PyData} {ds : List PyData} (h : Nice k m d) (h2 : NiceL k n ds) : NiceL k (m + 1 + n) (d :: ds) := by
  refine ⟨?_, ?_, ?_, ?_, ?_, ?_⟩
  · show (d.showable && PyData.showableAll ds) = true
    rw [h.sh, h2.sh]; rfl
  · show (d.hasDict || PyData.hasDictAll ds) = false
    rw [h.nd, h2.nd]; rfl
  · show max d.depth (PyData.depthAll ds) ≤ k
    exact Nat.max_le.mpr ⟨h.dp, h2.dp⟩
  · show (d.leavesShort 700 && PyData.leavesShortAll 700 ds) = true
    rw [h.lf, h2.lf]; rfl
  · show d.bulk + 1 + PyData.bulkAll ds ≤ m + 1 + n
    have := h.bk; have := h2.bk; omega
  · show (d.canLay0 && PyData.canLayAll0 ds) = true
    rw [h.ly, h2.ly]; rfl
theorem niceL_all {k m : Nat} : ∀ {ds : List PyData}, (∀ d ∈ ds, Nice k m d) → NiceL k (ds.length * (m + 1)) ds
  | [], _ => niceL_nil
  | d :: ds, h => by
    have := niceL_cons (h d List.mem_cons_self) (niceL_all fun x hx => h x (List.mem_cons_of_mem _ hx))
    rw [List.length_cons, Nat.succ_mul, Nat.add_comm]
    exact this
theorem NiceL.mono {k k' m m' : Nat} {ds : List PyData} (h : NiceL k m ds) (hk : k ≤ k') (hm : m ≤ m') : NiceL k' m' ds := ⟨h.sh, h.nd, Nat.le_trans h.dp hk, h.lf, Nat.le_trans h.bk hm, h.ly⟩
theorem Nice.mono {k k' m m' : Nat} {d : PyData} (h : Nice k m d) (hk : k ≤ k') (hm : m ≤ m') : Nice k' m' d := ⟨h.sh, h.nd, Nat.le_trans h.dp hk, h.lf, Nat.le_trans h.bk hm, h.ly⟩
theorem nice_tup {k m : Nat} {ds : List PyData} (h : NiceL k m ds) : Nice (k + 1) m (.tuple ds) := ⟨h.sh, h.nd, Nat.succ_le_succ h.dp, h.lf, h.bk, h.ly⟩
theorem nice_lst {k m : Nat} {ds : List PyData} (h : NiceL k m ds) : Nice (k + 1) m (.list ds) := ⟨h.sh, h.nd, Nat.succ_le_succ h.dp, h.lf, h.bk, h.ly⟩
theorem nice_eT {α : Type} {e : α → PyData} {k m n : Nat} {xs : List α} (h : ∀ x ∈ xs, Nice k m (e x)) (hn : xs.length ≤ n) : Nice (k + 1) (n * (m + 1)) (eT e xs) := by
  refine nice_tup ((niceL_all (k := k) (m := m) (ds := xs.map e) fun d hd => ?_).mono (Nat.le_refl _) (by rw [List.length_map]; exact Nat.mul_le_mul_right _ hn))
  obtain ⟨x, hx, rfl⟩ := List.mem_map.mp hd
  exact h x hx
theorem nice_eL {α : Type} {e : α → PyData} {k m n : Nat} {xs : List α} (h : ∀ x ∈ xs, Nice k m (e x)) (hn : xs.length ≤ n) : Nice (k + 1) (n * (m + 1)) (eL e xs) := by
  refine nice_lst ((niceL_all (k := k) (m := m) (ds := xs.map e) fun d hd => ?_).mono (Nat.le_refl _) (by rw [List.length_map]; exact Nat.mul_le_mul_right _ hn))
  obtain ⟨x, hx, rfl⟩ := List.mem_map.mp hd
  exact h x hx
theorem nice_bool (b : Bool) {k m : Nat} : Nice k m (.bool b) := ⟨rfl, rfl, Nat.zero_le _, rfl, Nat.zero_le _, rfl⟩
theorem nice_none {k m : Nat} : Nice k m .none := ⟨rfl, rfl, Nat.zero_le _, rfl, Nat.zero_le _, rfl⟩
theorem int_short {i : Int} (h : Bd 1920 i) : (PyData.int i).shown.length ≤ 700 := by
  have big : (2 : Nat) ^ 1920 ≤ 10 ^ 600 := by decide +kernel
  have nat : ∀ m : Nat, m < 2 ^ 1920 → (Str.ofString (toString (m : Int))).length ≤ 600 := fun m hm => by
    refine PyProof.Rows.toString_length_le (by omega) (by decide) ?_
    have : (m : Int) < ((10 ^ 600 : Nat) : Int) := by
      have := Nat.lt_of_lt_of_le hm big
      omega
    rw [Int.natCast_pow] at this
    exact this
  rw [PyData.shown_int]
  cases i with
  | ofNat m => exact Nat.le_trans (nat m h) (by decide)
  | negSucc m =>
    have h1 := nat (m + 1) h
    have e : toString (Int.negSucc m) = "-" ++ toString ((m + 1 : Nat) : Int) := rfl
    rw [PyProof.Rows.ofString_length] at h1
    show (Str.ofString (toString (Int.negSucc m))).length ≤ 700
    rw [PyProof.Rows.ofString_length, e, String.toList_append, List.length_append]
    have e2 : ("-" : String).toList.length = 1 := rfl
    omega
theorem nice_int {i : Int} {k m : Nat} (h : Bd 1920 i) : Nice k m (.int i) := by
  refine ⟨?_, rfl, Nat.zero_le _, decide_eq_true (int_short h), Nat.zero_le _, rfl⟩
  show decide (i.natAbs.log2 < 1920) = true
  refine decide_eq_true ?_
  by_cases c : i.natAbs = 0
  · rw [c]; decide
  · exact (Nat.log2_lt c).mpr h
theorem nice_ints {l : List Int} {n : Nat} (h : ∀ x ∈ l, Bd 1920 x) (hn : l.length ≤ n) : Nice 1 n (.tuple (l.map PyData.int)) := by
  have := nice_eT (e := PyData.int) (k := 0) (m := 0) (xs := l) (fun x hx => nice_int (h x hx)) hn
  rw [Nat.mul_one] at this
  exact this
theorem Nice.show {k m : Nat} {d : PyData} (h : Nice k m d) (hk : k ≤ 64) (hm : m ≤ 20000) : Sh d := by
  refine ⟨h.sh, h.nd, Nat.le_trans h.dp hk, ?_⟩
  have := PyData.shown_le_bulk 700 (by decide) d h.lf
  have h2 := h.bk
  have : (700 + 2) * d.bulk ≤ 702 * 20000 := Nat.mul_le_mul_left _ (Nat.le_trans h2 hm)
  rw [sizeLine_eq]
  omega
theorem Nice.shp {k m : Nat} {d : PyData} (h : Nice k m d) (hk : k ≤ 64) : SeqAt.shaped d = true := by
  unfold SeqAt.shaped
  rw [h.ly, decide_eq_true (Nat.le_trans h.dp hk)]; rfl
theorem Nice.same {k m : Nat} {d : PyData} (h : Nice k m d) (hk : k ≤ 64) (hm : m ≤ 20000) : SameOk d := ⟨h.show hk hm, h.shp hk, SeqAt.eqv_refl d h.ly⟩
section
variable {B : Bg} {ε : Eps} {L La : Own} {te : TE}
theorem ex_rep {d : PyData} (s : Sh d) (h : EX B te ε L (.d d) La) : EX B (tCB (rReprD B.K) (tCons te tNil)) ε L (.d (.str d.shown)) La := ex_repr h s.1 s.2.1 s.2.2.1 s.2.2.2
end
/-! ### encoders that tell apart -/
/-- equal data, equal things -/
def Eq' {α : Type} [DecidableEq α] (e : α → PyData) : Prop := ∀ x y, PyData.eqv (e x) (e y) = decide (x = y)
theorem eq_int : Eq' PyData.int := fun a b => by
  show (a == b) = decide (a = b)
  by_cases h : a = b
  · subst h; simp
  · rw [decide_eq_false h, beq_eq_false_iff_ne.mpr h]
theorem eq_bool : Eq' PyData.bool := fun a b => by cases a <;> cases b <;> rfl
theorem eqv_all {α : Type} [DecidableEq α] {e : α → PyData} (h : Eq' e) : ∀ a b : List α, PyData.eqvAll (a.map e) (b.map e) = decide (a = b)
  | [], [] => by simp [PyData.eqvAll]
  | [], _ :: _ => by simp [PyData.eqvAll]
  | _ :: _, [] => by simp [PyData.eqvAll]
  | x :: a, y :: b => by
    show (PyData.eqv (e x) (e y) && PyData.eqvAll (a.map e) (b.map e)) = _
    rw [h, eqv_all h a b]
    by_cases h1 : x = y
    · subst h1
      by_cases h2 : a = b
      · subst h2; simp
      · simp [h2]
    · simp [h1]
theorem eq_eT {α : Type} [DecidableEq α] {e : α → PyData} (h : Eq' e) : Eq' (eT e) := fun a b => eqv_all h a b
theorem eq_eL {α : Type} [DecidableEq α] {e : α → PyData} (h : Eq' e) : Eq' (eL e) := fun a b => eqv_all h a b
theorem eq_eP {α β : Type} [DecidableEq α] [DecidableEq β] {e : α → PyData} {f : β → PyData} (h : Eq' e) (h2 : Eq' f) : Eq' (eP e f) := fun a b => by
  show (PyData.eqv (e a.1) (e b.1) && (PyData.eqv (f a.2) (f b.2) && true)) = _
  rw [h, h2, Bool.and_true]
  obtain ⟨a1, a2⟩ := a
  obtain ⟨b1, b2⟩ := b
  by_cases h1 : a1 = b1
  · subst h1
    by_cases h3 : a2 = b2
    · subst h3; simp
    · simp [h3]
  · simp [h1]
end Fz

/-! ## FzG -/
set_option Elab.async false
set_option linter.all false
set_option maxRecDepth 100000
set_option maxHeartbeats 2000000
set_option autoImplicit false
/-! FzG: draws from the bag, known by their bounds. -/
namespace Fz
open PySem L2 K80
abbrev S_draw (K : PySem.W.Frag) : Sp := spG K (fun n : Int => [.int n]) (fun n => 0 < n ∧ n < 2 ^ 200) PyData.int (fun n x => 0 ≤ x ∧ x < n)
abbrev S_pick (K : PySem.W.Frag) : Sp := spG K (fun xs : List PyData => [.list xs]) (fun xs => xs ≠ [] ∧ xs.length ≤ 100000) eD (fun xs d => d ∈ xs)
theorem small_n {n : Int} (h0 : 0 < n) (h : n < 2 ^ 200) : n.natAbs < 2 ^ 8000 := by
  have h1 : n.natAbs < 2 ^ 200 := by
    have e : ((2 : Int) ^ 200) = ((2 ^ 200 : Nat) : Int) := by decide
    rw [e] at h
    omega
  exact Nat.lt_of_lt_of_le h1 (Nat.pow_le_pow_right (by decide) (by decide))
section
variable {P : Program} {w : World} {K : PySem.W.Frag} {mg : Str → Option Value} {base : Heap} {f : Addr} {fd : FuncData} {ps : List Str} {k : Nat}
theorem draw_wk (h : FnOk P w K mg base CX0 k f fd ps (spB K R_draw)) : FnOk P w K mg base CX0 k f fd ps (S_draw K) :=
  fn_wk h (spG_of fun n b ⟨h0, h1⟩ => ⟨drawV b n, drawB b n, ⟨n, h0, small_n h0 h1, rfl, rfl, rfl⟩, drawV_ok b h0⟩)
theorem pick_wk (h : FnOk P w K mg base CX0 k f fd ps (spB K R_pick)) : FnOk P w K mg base CX0 k f fd ps (S_pick K) :=
  fn_wk h (spG_of fun xs b ⟨h0, h1⟩ => by
    have hpos := List.length_pos_iff.mpr h0
    have hv := drawV_ok b (show (0 : Int) < (xs.length : Int) by omega)
    have hlt : (drawV b xs.length).toNat < xs.length := by omega
    refine ⟨xs.getD (drawV b xs.length).toNat .none, drawB b xs.length, ⟨xs, h0, h1, rfl, rfl, rfl⟩, ?_⟩
    rw [List.getD_eq_getElem?_getD, List.getElem?_eq_getElem hlt]
    exact List.getElem_mem hlt)
end
section
variable {B : Bg} {ε : Eps} {L La : Own} {tas : TA} {E : XK} {pb pc : Addr} {α : Type} {e : α → PyData}
theorem w_draw {κ : Int → Own → Prop} (h : WA B tas ε L fun as L1 => ∃ (n : Int) (b : Bag) (L2 : Bag → Own), as = [.v (.ref pb), .d (.int n)] ∧ (∀ b', Up L1 (b.at pb pc) (b'.at pb pc) (L2 b')) ∧ 0 < n ∧ n < 2 ^ 200 ∧ ∀ x b', 0 ≤ x → x < n → κ x (L2 b')) : WV B PyData.int (tCall (S_draw B.K) [] E tas) ε L κ :=
  w_callG (pb := pb) (pc := pc) fun F σ H r Q q => h F σ H r Q fun as L' vs F' H' ⟨n, b, L2, ea, hup, h0, h1, k⟩ => q as L' vs F' H' ⟨n, b, L2, ea, hup, ⟨h0, h1⟩, fun x b' hx => k x b' hx.1 hx.2⟩
/-- draw(bag, n), n at hand -/
theorem w_drw {κ : Int → Own → Prop} {i : Nat} {te : TE} {n : Int} {b : Bag} {L2 : Bag → Own} (hb : ε[i]? = some (some (.v (.ref pb)))) (hn : EX B te ε L (.d (.int n)) L) (hup : ∀ b', Up L (b.at pb pc) (b'.at pb pc) (L2 b')) (h0 : 0 < n ∧ n < 2 ^ 200) (k : ∀ x b', 0 ≤ x → x < n → κ x (L2 b')) : WV B PyData.int (tCall (S_draw B.K) [] E (tCons (tVar i) (tCons te tNil))) ε L κ :=
  w_draw (wa_x (ex_v hb) (wa_x hn (wa_nil ⟨n, b, L2, rfl, hup, h0.1, h0.2, k⟩)))
theorem w_pick {κ : α → Own → Prop} (h : WA B tas ε L fun as L1 => ∃ (xs : List α) (b : Bag) (L2 : Bag → Own), as = [.v (.ref pb), .d (eL e xs)] ∧ (∀ b', Up L1 (b.at pb pc) (b'.at pb pc) (L2 b')) ∧ xs ≠ [] ∧ xs.length ≤ 100000 ∧ ∀ x b', x ∈ xs → κ x (L2 b')) : WV B e (tCall (S_pick B.K) [] E tas) ε L κ :=
  wv_as (e := eD) (w_callG (pb := pb) (pc := pc) fun F σ H r Q q => h F σ H r Q fun as L' vs F' H' ⟨xs, b, L2, ea, hup, h0, h1, k⟩ => q as L' vs F' H' ⟨xs.map e, b, L2, ea, hup, ⟨by simpa using h0, by rw [List.length_map]; exact h1⟩, fun x b' hx => by
    obtain ⟨y, hy, rfl⟩ := List.mem_map.mp hx
    exact ⟨y, rfl, k y b' hy⟩⟩)
/-- pick(bag, xs), xs at hand -/
theorem w_pck {κ : α → Own → Prop} {xs : List α} {i : Nat} {te : TE} {b : Bag} {L2 : Bag → Own} (hb : ε[i]? = some (some (.v (.ref pb)))) (hn : EX B te ε L (.d (eL e xs)) La) (hup : ∀ b', Up La (b.at pb pc) (b'.at pb pc) (L2 b')) (h0 : xs ≠ []) (h1 : xs.length ≤ 100000) (k : ∀ x b', x ∈ xs → κ x (L2 b')) : WV B e (tCall (S_pick B.K) [] E (tCons (tVar i) (tCons te tNil))) ε L κ :=
  w_pick (wa_x (ex_v hb) (wa_x hn (wa_nil ⟨xs, b, L2, rfl, hup, h0, h1, k⟩)))
end
end Fz

/-! ## FzH -/
set_option Elab.async false
set_option linter.all false
set_option maxRecDepth 100000
set_option maxHeartbeats 2000000
set_option autoImplicit false
/-! FzH: tuples and lists by what their items stand for. -/
namespace Fz
open PySem L2
theorem cut_to {α : Type} (e : α → PyData) (xs : List α) {i : Int} (h : 0 ≤ i) : cutD (xs.map e) none (some i) = (xs.take i.toNat).map e := by
  unfold cutD
  have e1 : HT.sIx (xs.map e).length 0 none = 0 := rfl
  have e2 : HT.sIx (xs.map e).length (xs.map e).length (some i) = min i.toNat (xs.map e).length := by
    show (if i < 0 then _ else _) = _
    rw [if_neg (by omega)]
  rw [e1, e2, List.drop_zero, Nat.sub_zero, List.map_take]
  by_cases c : i.toNat ≤ (xs.map e).length
  · rw [Nat.min_eq_left c]
  · rw [Nat.min_eq_right (by omega), List.take_length, List.take_of_length_le (by omega)]
theorem cut_from {α : Type} (e : α → PyData) (xs : List α) {i : Int} (h : 0 ≤ i) : cutD (xs.map e) (some i) none = (xs.drop i.toNat).map e := by
  unfold cutD
  have e1 : HT.sIx (xs.map e).length (xs.map e).length none = (xs.map e).length := rfl
  have e2 : HT.sIx (xs.map e).length 0 (some i) = min i.toNat (xs.map e).length := by
    show (if i < 0 then _ else _) = _
    rw [if_neg (by omega)]
  rw [e1, e2, List.map_drop]
  by_cases c : i.toNat ≤ (xs.map e).length
  · rw [Nat.min_eq_left c, List.take_of_length_le (by rw [List.length_drop]; exact Nat.le_refl _)]
  · rw [Nat.min_eq_right (by omega), List.drop_length, Nat.sub_self, List.take_zero, List.drop_eq_nil_of_le (by omega)]
theorem cut_mid {α : Type} (e : α → PyData) (xs : List α) {i j : Int} (h : 0 ≤ i) (h2 : 0 ≤ j) : cutD (xs.map e) (some i) (some j) = ((xs.drop i.toNat).take (j.toNat - i.toNat)).map e := by
  unfold cutD
  have e1 : HT.sIx (xs.map e).length (xs.map e).length (some j) = min j.toNat (xs.map e).length := by
    show (if j < 0 then _ else _) = _
    rw [if_neg (by omega)]
  have e2 : HT.sIx (xs.map e).length 0 (some i) = min i.toNat (xs.map e).length := by
    show (if i < 0 then _ else _) = _
    rw [if_neg (by omega)]
  rw [e1, e2, List.map_take, List.map_drop]
  have hl : ((xs.map e).drop i.toNat).length = (xs.map e).length - i.toNat := List.length_drop ..
  generalize (xs.map e) = zs at *
  by_cases c : i.toNat ≤ zs.length
  · have m1 : min i.toNat zs.length = i.toNat := Nat.min_eq_left c
    rw [m1]
    by_cases c2 : j.toNat ≤ zs.length
    · rw [Nat.min_eq_left c2]
    · rw [Nat.min_eq_right (by omega), List.take_of_length_le (by omega), List.take_of_length_le (by omega)]
  · have m1 : min i.toNat zs.length = zs.length := Nat.min_eq_right (by omega)
    rw [m1, List.drop_length, List.drop_eq_nil_of_le (show zs.length ≤ i.toNat by omega), List.take_nil, List.take_nil]
section
variable {B : Bg} {ε : Eps} {L La Lb Lc : Own} {te ta tb ti tj : TE} {x : AD} {α β : Type} {e : α → PyData} {f : β → PyData} {xs ys : List α} {i j : Int}
theorem ex_take (h : EX B te ε L (.d (eT e xs)) La) (h1 : EX B ti ε La (.d (.int i)) Lb) (hi : 0 ≤ i) : EX B (tSl (rSlA B.K) te tNoPart (tPart ti)) ε L (.d (eT e (xs.take i.toNat))) Lb :=
  ex_is (ex_slT (ds := xs.map e) h eo_n (eo_s h1)) (by rw [cut_to e xs hi]; rfl)
theorem ex_from (h : EX B te ε L (.d (eT e xs)) La) (h1 : EX B ti ε La (.d (.int i)) Lb) (hi : 0 ≤ i) : EX B (tSl (rSlA B.K) te (tPart ti) tNoPart) ε L (.d (eT e (xs.drop i.toNat))) Lb :=
  ex_is (ex_slT (ds := xs.map e) h (eo_s h1) eo_n) (by rw [cut_from e xs hi]; rfl)
theorem ex_mid (h : EX B te ε L (.d (eT e xs)) La) (h1 : EX B ti ε La (.d (.int i)) Lb) (h2 : EX B tj ε Lb (.d (.int j)) Lc) (hi : 0 ≤ i) (hj : 0 ≤ j) : EX B (tSl (rSlA B.K) te (tPart ti) (tPart tj)) ε L (.d (eT e ((xs.drop i.toNat).take (j.toNat - i.toNat)))) Lc :=
  ex_is (ex_slT (ds := xs.map e) h (eo_s h1) (eo_s h2)) (by rw [cut_mid e xs hi hj]; rfl)
theorem en_take (h : EX B te ε L x La) (h1 : EX B ti ε La (.d (.int i)) Lb) (hx : IsL Lb x (xs.map e)) (hi : 0 ≤ i) : EN B (tSl (rSlL B.K) te tNoPart (tPart ti)) ε L ((xs.take i.toNat).map e) Lb :=
  en_is (en_slL (ds := xs.map e) h eo_n (eo_s h1) hx) (cut_to e xs hi)
theorem en_from (h : EX B te ε L x La) (h1 : EX B ti ε La (.d (.int i)) Lb) (hx : IsL Lb x (xs.map e)) (hi : 0 ≤ i) : EN B (tSl (rSlL B.K) te (tPart ti) tNoPart) ε L ((xs.drop i.toNat).map e) Lb :=
  en_is (en_slL (ds := xs.map e) h (eo_s h1) eo_n hx) (cut_from e xs hi)
theorem ex_cat (h : EX B ta ε L (.d (eT e xs)) La) (h2 : EX B tb ε La (.d (eT e ys)) Lb) (hl : xs.length + ys.length ≤ 100000) : EX B (tOp (rCatA B.K) ta tb) ε L (.d (eT e (xs ++ ys))) Lb :=
  ex_is (ex_catT (ds := xs.map e) (es := ys.map e) h h2 (by rw [List.length_map, List.length_map]; exact hl)) (by unfold eT; rw [List.map_append])
theorem ex_len (h : EX B te ε L (.d (eT e xs)) La) {r : List V → Hp → VK → Prop} (hr : r = fun xs H Q => ∃ p ys, xs = [.ref p] ∧ (SqL B.K H p ys ∨ SqT B.K H p ys) ∧ Q (.int ys.length) H := by rfl) : EX B (tCB r (tCons te tNil)) ε L (.d (.int (xs.length : Int))) La :=
  ex_int (ex_lenT (ds := xs.map e) h hr) (by rw [List.length_map])
theorem ex_lenl (h : EX B te ε L x La) (hx : IsL La x (xs.map e)) {r : List V → Hp → VK → Prop} (hr : r = fun xs H Q => ∃ p ys, xs = [.ref p] ∧ (SqL B.K H p ys ∨ SqT B.K H p ys) ∧ Q (.int ys.length) H := by rfl) : EX B (tCB r (tCons te tNil)) ε L (.d (.int (xs.length : Int))) La :=
  ex_int (ex_lenL (ds := xs.map e) h hx hr) (by rw [List.length_map])
theorem at_e {n : Nat} {a : α} (h : xs[n]? = some a) : atI (xs.map e) (n : Int) = some (e a) := atI_nat (by rw [List.getElem?_map, h]; rfl)
theorem ex_at {n : Nat} {a : α} (h : EX B ta ε L (.d (eT e xs)) La) (h2 : EX B tb ε La (.d (.int i)) Lb) (hn : i = (n : Int)) (ha : xs[n]? = some a) : EX B (tOp (rIxT B.K) ta tb) ε L (.d (e a)) Lb := ex_ixT (ds := xs.map e) h h2 (by rw [hn]; exact at_e ha)
theorem ex_atl {n : Nat} {a : α} (h : EX B ta ε L x La) (h2 : EX B tb ε La (.d (.int i)) Lb) (hx : IsL Lb x (xs.map e)) (hn : i = (n : Int)) (ha : xs[n]? = some a) : EX B (tOp (rIxL B.K) ta tb) ε L (.d (e a)) Lb := ex_ixL (ds := xs.map e) h h2 hx (by rw [hn]; exact at_e ha)
theorem at_end {a : α} {zs : List α} : atI ((zs ++ [a]).map e) (-1) = some (e a) := by
  unfold atI ixN
  have hl : ((zs ++ [a]).map e).length = zs.length + 1 := by rw [List.length_map, List.length_append]; rfl
  rw [hl]
  have h1 : ¬ (0 ≤ (-1 : Int)) := by decide
  rw [if_neg h1]
  split
  · have e3 : ((-1 : Int) + ((zs.length + 1 : Nat) : Int)).toNat = zs.length := by omega
    simp only [Option.bind]
    rw [e3, List.getElem?_map, List.getElem?_append_right (Nat.le_refl _), Nat.sub_self]
    rfl
  · omega
/-! displays that draw -/
variable {tas : TA} {D : Ends} {tt : TT} {ts tw : TS}
theorem w_dispL {κ : List α → Own → Prop} (h : WA B tas ε L fun as L1 => ∃ xs : List α, as = xs.map (fun x => AD.d (e x)) ∧ xs.length ≤ 100000 ∧ κ xs L1) : WV B (eL e) (tLst tas) ε L κ :=
  w_frz (w_lst fun F σ H r Q q => h F σ H r Q fun as L' vs F' H' ⟨xs, ea, hl, k⟩ => q as L' vs F' H' ⟨xs.map e, by rw [ea, List.map_map]; rfl, by rw [List.length_map]; exact hl, fun p hp => ⟨_, _, xs, hp, rfl, rfl, k⟩⟩)
theorem w_dispT {κ : List α → Own → Prop} (h : WA B tas ε L fun as L1 => ∃ xs : List α, as = xs.map (fun x => AD.d (e x)) ∧ xs.length ≤ 100000 ∧ κ xs L1) : WV B (eT e) (tTup tas) ε L κ :=
  w_tup (ty := fun _ => .none) fun F σ H r Q q => h F σ H r Q fun as L' vs F' H' ⟨xs, ea, hl, k⟩ => q as L' vs F' H' ⟨xs.map e, xs, by rw [ea, List.map_map]; rfl, by rw [List.length_map]; exact hl, rfl, k⟩
theorem w_pair {κ : α × β → Own → Prop} (h : WV B e ta ε L fun x L1 => WV B f tb ε L1 fun y L2 => κ (x, y) L2) : WV B (eP e f) (tTup (tCons ta (tCons tb tNil))) ε L κ :=
  w_tup (ty := fun _ => .none) (wa_v (wv_mono h fun x L1 k => wa_v (wv_mono k fun y L2 k => wa_nil ⟨[e x, f y], (x, y), rfl, Nat.le_of_ble_eq_true rfl, rfl, k⟩)))
theorem ex_pair {x : α} {y : β} (h : EX B ta ε L (.d (e x)) La) (h2 : EX B tb ε La (.d (f y)) Lb) : EX B (tTup (tCons ta (tCons tb tNil))) ε L (.d (eP e f (x, y))) Lb :=
  ex_tup (ds := [e x, f y]) (ea_cons h (ea_cons h2 ea_nil)) (Nat.le_of_ble_eq_true rfl)
theorem rx_catT {ds es : List PyData} (hl : ds.length + es.length ≤ 100000) : RX B (rCatA B.K) ε L (.d (.tuple ds)) (.d (.tuple es)) (.d (.tuple (ds ++ es))) L := fun F σ H v w rp hv hw Q q => by
  obtain ⟨p, vs, rfl, g1, g2⟩ := tup_inv hv
  obtain ⟨p', ws, rfl, g3, g4⟩ := tup_inv hw
  have app := dpa_app g2 g4
  refine ⟨p, p', vs, ws, rfl, rfl, tq_sub rp.sub g1, tq_sub rp.sub g3, Evl.sz_of (by rw [dpa_len g2, dpa_len g4]; exact hl), fun e => ?_, fun _ e => ?_, fun _ _ n hn => ?_⟩
  · subst e
    exact q _ F H (Sub.rfl' F) rp (.tup g3 app)
  · subst e
    rw [List.append_nil] at app
    exact q _ F H (Sub.rfl' F) rp (.tup g1 app)
  · have hF := sub_none rp.sub hn
    exact q _ _ _ (sub_fresh hF) (rp.grow hn) (.tup upd_same (dpa_sub (sub_fresh hF) app))
theorem w_catT {κ : List α → Own → Prop} (h : WV B (eT e) ta ε L fun x L1 => WV B (eT e) tb ε L1 fun y L2 => x.length + y.length ≤ 100000 ∧ κ (x ++ y) L2) : WV B (eT e) (tOp (rCatA B.K) ta tb) ε L κ :=
  w_op (e := eT e) (f := eT e) (g := eT e) (wv_mono h fun x L1 k => wv_mono k fun y L2 k => ⟨x ++ y, by
    have := rx_catT (B := B) (ε := ε) (L := L2) (ds := x.map e) (es := y.map e) (by rw [List.length_map, List.length_map]; exact k.1)
    rw [← List.map_append] at this
    exact this, k.2⟩)
theorem x_ifJ {J : Own → Prop} (h : WT B tt ε L fun b L1 => (b = true → Ho B (ts D) ε L1) ∧ (b = false → J L1)) (he : ∀ L1, J L1 → Ho B (tw D) ε L1) : Ho B (tIfS tt ts tw D) ε L :=
  x_ifW (wt_mono h fun b L1 k => ⟨k.1, fun hb => he L1 (k.2 hb)⟩)
theorem x_asgP2 {i j : Nat} (h : WA B tas ε L fun as L1 => ∃ a b, as = [a, b] ∧ Ho B D.nx ((ε.set i (some a)).set j (some b)) L1) : Ho B (tAsg (tTup tas) (gTup B.K 2 (gCons (gName i) (gCons (gName j) gNil))) D) ε L := fun F σ H r =>
  h F σ H r _ fun as L1 vs F1 H1 ⟨a, b, ea, k⟩ _ r1 o1 => by
    subst ea
    match vs, o1 with
    | [v, w], o =>
      refine ⟨by show 2 ≤ sizeLine; decide, fun p hp => ⟨p, [v, w], rfl, .inl (.inl upd_same), rfl, _, _, rfl, _, _, rfl, rfl, ?_⟩⟩
      exact k F1 _ _ (((r1.heap (sub_fresh hp)).slot o.1).slot o.2.1)
theorem x_asgP3 {i j l : Nat} (h : WA B tas ε L fun as L1 => ∃ a b c, as = [a, b, c] ∧ Ho B D.nx (((ε.set i (some a)).set j (some b)).set l (some c)) L1) : Ho B (tAsg (tTup tas) (gTup B.K 3 (gCons (gName i) (gCons (gName j) (gCons (gName l) gNil)))) D) ε L := fun F σ H r =>
  h F σ H r _ fun as L1 vs F1 H1 ⟨a, b, c, ea, k⟩ _ r1 o1 => by
    subst ea
    match vs, o1 with
    | [u, v, w], o =>
      refine ⟨by show 3 ≤ sizeLine; decide, fun p hp => ⟨p, [u, v, w], rfl, .inl (.inl upd_same), rfl, _, _, rfl, _, _, rfl, _, _, rfl, rfl, ?_⟩⟩
      exact k F1 _ _ ((((r1.heap (sub_fresh hp)).slot o.1).slot o.2.1).slot o.2.2.1)
/-! walks over what is drawn -/
variable {tc : TS} {g : TG}
theorem x_forR1W {j : Nat} (h : WA B tas ε L fun as L1 => ∃ n : Int, as = [.d (.int n)] ∧ (-(2 ^ 62) ≤ n ∧ n < 2 ^ 62) ∧ ∃ I : Nat → Eps → Own → Prop, I 0 ε L1 ∧
    (∀ (i : Nat) ε' L', (i : Int) < n → I i ε' L' → Ho B (tc { D with nx := AbsP B (I (i + 1)), ct := AbsP B (I (i + 1)), bk := D.nx }) (ε'.set j (some (.d (.int (i : Int))))) L') ∧
    (∀ ε' L', I n.toNat ε' L' → Ho B D.nx ε' L')) : Ho B (tFor (iRng1 tas) (gName j) tc D) ε L := fun F σ H r =>
  h F σ H r _ fun as L1 vs F1 H1 ⟨n, ea, hn, I, h0, hs, hd⟩ s1 r1 o1 => by
    subst ea
    match vs, o1 with
    | [v], o =>
      have ev : v = .int n := int_inv o.1
      subst ev
      exact x_forR1 (tas := fun σ H Q => Q [.int n] H) (fun F σ H r Q q => q [.int n] F H (Sub.rfl' F) r ⟨.int n, trivial⟩) hn I h0 hs hd F1 σ H1 r1
theorem x_forLW (h : WV B eD te ε L fun d L1 => ∃ ds : List PyData, d = .list ds ∧ ∃ I : V → Nat → Eps → Own → Prop, (∀ v, I v 0 ε (L1 ++ [.know v (.list ds)])) ∧ (∀ v i ε' L', I v i ε' L' → MO.know v (.list ds) ∈ L') ∧
    (∀ v i d ε' L', ds[i]? = some d → I v i ε' L' → ∃ ε'', GT B g (.d d) ε' ε'' ∧ Ho B (tc { D with nx := AbsP B (I v (i + 1)), ct := AbsP B (I v (i + 1)), bk := D.nx }) ε'' L') ∧
    (∀ v ε' L', I v ds.length ε' L' → Ho B D.nx ε' L')) : Ho B (tFor (iList B.K te) g tc D) ε L := fun F σ H r =>
  h F σ H r _ fun d L1 v F1 H1 ⟨ds, ed, I, h0, hl, hs, hd⟩ s1 r1 o1 => by
    have o' : Dq B.K F1 v (.list ds) := by rw [← ed]; exact o1
    have r2 := r1.learn o'
    cases o' with
    | @lst p vs _ q1 q2 =>
      have back : ∀ {i : Nat} {ε' : Eps} {L' : Own} {F' : Hp} {σ' : St} {H' : Hp}, I (.ref p) i ε' L' → Rep B ε' L' F' σ' H' → ∃ ws, SqL B.K H' p ws ∧ DqAll B.K F' ws ds := fun hI r' => by
        have k : Dq B.K _ (.ref p) (.list ds) := r'.own _ (hl _ _ _ _ hI)
        cases k with
        | lst k1 k2 => exact ⟨_, .inl (.inl (r'.sub _ _ k1)), k2⟩
      refine ⟨p, rfl, ⟨vs, .inl (.inl (r1.sub _ _ q1))⟩, ⟨fun i m σ' H' => m = ds.length - i ∧ i ≤ ds.length ∧ AbsP B (I (.ref p) i) σ' H', ⟨_, rfl, Nat.zero_le _, ε, _, F1, h0 _, r2⟩, ?_⟩⟩
      rintro i m σ' H' ⟨rfl, hi, ε', L', F', hI, r'⟩
      obtain ⟨ws, k1, k2⟩ := back hI r'
      by_cases hlt : i < ds.length
      · obtain ⟨d, hdi⟩ : ∃ d, ds[i]? = some d := ⟨_, List.getElem?_eq_getElem hlt⟩
        obtain ⟨w, e1, e2⟩ := dpa_get k2 hdi
        obtain ⟨ε'', hg, hb⟩ := hs _ i d ε' L' hdi hI
        refine .inr ⟨⟨ws, w, k1, e1⟩, AbsP B (I (.ref p) (i + 1)), fun σ2 H2 hN => ⟨ds.length - (i + 1), by omega, rfl, hlt, hN⟩, fun x H2 hy => ?_⟩
        obtain ⟨rfl, hx⟩ := hy
        have ex : x = w := Option.some.inj ((hx ws k1).symm.trans e1)
        subst ex
        exact hg L' F' σ' _ x r' e2 _ fun σ3 r3 => hb F' σ3 _ r3
      · have ei : i = ds.length := by omega
        subst ei
        exact .inl ⟨⟨ws, k1, by rw [dpa_len k2]; exact Nat.le_refl _⟩, hd _ _ _ hI F' σ' H' r'⟩
/-- an expression of one outcome alone -/
theorem ex_of {a : α} (h : ∀ κ : α → Own → Prop, κ a La → WV B e te ε L κ) : EX B te ε L (.d (e a)) La := fun F σ H r Q q =>
  h (fun y L' => y = a ∧ L' = La) ⟨rfl, rfl⟩ F σ H r Q fun y L' v F' H' ⟨e1, e2⟩ s r' o => by
    subst e1 e2
    exact q v F' H' s r' o
/-- x == [] -/
theorem ex_eqNil {ds : List PyData} (h : EX B ta ε L x La) (hx : IsL La x ds) (hs : SeqAt.shaped (.list ds) = true) : EX B (tOp (rEqD B.K) ta (tLst tNil)) ε L (.d (.bool ds.isEmpty)) La := fun F σ H r Q q =>
  h F σ H r _ fun v F1 H1 s1 r1 o1 => ⟨Nat.zero_le _, fun p hp => by
    obtain ⟨pl, vs, rfl, g1, g2⟩ := hx.get r1 o1
    have s2 : Sub H1 (upd H1 p (.lst [])) := sub_fresh hp
    refine ⟨.list ds, .list [], .lst (sql_sub s2 g1) (dqa_dpa (nodict_shaped hs) (dpa_sub (r1.sub.tr s2) g2)), dq_dp rfl (.lst upd_same .nil), hs, rfl, ?_⟩
    rw [eqv_nil]
    exact q _ F1 _ s1 (r1.heap s2) (.bl _)⟩
theorem ex_neB {b c : Bool} (ha : EX B ta ε L (.d (.bool b)) La) (hb : EX B tb ε La (.d (.bool c)) Lb) : EX B (tOp rNe ta tb) ε L (.d (.bool (!decide (b = c)))) Lb := ex_op ha hb fun F σ H v w rp hv hw Q q => by
  rw [bool_inv hv, bool_inv hw]
  refine ⟨rfl, ?_⟩
  have e : decide ((V.bl b) = V.bl c) = decide (b = c) := by cases b <;> cases c <;> decide
  rw [e]
  exact q _ F H (Sub.rfl' F) rp (.bl _)
theorem ex_eqB {b c : Bool} (ha : EX B ta ε L (.d (.bool b)) La) (hb : EX B tb ε La (.d (.bool c)) Lb) : EX B (tOp rEq ta tb) ε L (.d (.bool (decide (b = c)))) Lb := ex_op ha hb fun F σ H v w rp hv hw Q q => by
  rw [bool_inv hv, bool_inv hw]
  refine ⟨rfl, ?_⟩
  have e : decide ((V.bl b) = V.bl c) = decide (b = c) := by cases b <;> cases c <;> decide
  rw [e]
  exact q _ F H (Sub.rfl' F) rp (.bl _)
theorem et_noT (h : EX B te ε L (.d (.bool true)) La) : ETt B (tNot (tTest te)) ε L false La := et_not (et_test h)
variable {tu : TT}
theorem et_orF (h1 : ETt B tt ε L false La) (h2 : ETt B tu ε La false Lb) : ETt B (tOr tt tu) ε L false Lb := et_is (et_or h1 (fun _ => h2) (fun h => nomatch h)) rfl
theorem x_skip (h : ETt B tt ε L false La) (k : Ho B D.nx ε La) : Ho B (tIfS tt ts tNext D) ε L := x_if h (fun h => nomatch h) (fun _ => k)
theorem wt_noT {κ : Bool → Own → Prop} (h : WV B PyData.bool te ε L fun b L1 => b = true ∧ κ false L1) : WT B (tNot (tTest te)) ε L κ := wt_not (wt_test (wv_mono h fun b L1 k => by rw [k.1]; exact k.2))
theorem wt_orF {κ : Bool → Own → Prop} (h : WT B tt ε L fun b L1 => b = false ∧ WT B tu ε L1 κ) : WT B (tOr tt tu) ε L κ := wt_or (wt_mono h fun b L1 k => ⟨fun _ => k.2, fun hb => by rw [k.1] at hb; exact nomatch hb⟩)
theorem x_skipW (h : WT B tt ε L fun b L1 => b = false ∧ Ho B D.nx ε L1) : Ho B (tIfS tt ts tNext D) ε L := x_ifW (wt_mono h fun b L1 k => ⟨fun hb => by rw [k.1] at hb; exact (nomatch hb), fun _ => k.2⟩)
/-- [..] * n, frozen -/
theorem w_repF {κ : List α → Own → Prop} (h : WV B (eL e) ta ε L fun xs L1 => WV B PyData.int tb ε L1 fun n L2 => (0 ≤ n ∧ n ≤ 100000 ∧ xs.length * n.toNat ≤ 100000) ∧ κ (List.replicate n.toNat xs).flatten L2) : WV B (eL e) (tOp rRep ta tb) ε L κ :=
  w_frz (fun F σ H r Q q => h F σ H r _ fun xs L1 v F1 H1 k s1 r1 o1 => k F1 σ H1 r1 _ fun n L2 w F2 H2 ⟨hn, k2⟩ s2 r2 o2 => by
    have ev : EN B (tOp rRep (fun σ H Q => Q v H) (fun σ H Q => Q w H)) ε L2 ((List.replicate n.toNat xs).flatten.map e) L2 → True := fun _ => trivial
    have o1' : Dq B.K F2 v (eL e xs) := dp_sub s2 o1
    have ew : w = .int n := int_inv o2
    subst ew
    cases o1' with
    | @lst p vs _ g1 g2 =>
      refine ⟨p, n, vs, rfl, rfl, r2.sub _ _ g1, by omega, by omega, Evl.sz_of (by rw [dpa_len g2, List.length_map]; exact hn.2.2), fun p' hp' => q p' (.lst p' ((List.replicate n.toNat xs).flatten.map e) :: L2) F2 _ ⟨_, _, _, r2.newM hp', rfl, rfl, k2⟩ (s1.tr s2) (r2.alloc hp' rfl ⟨_, upd_same, ?_⟩)⟩
      have : ∀ m : Nat, DqAll B.K F2 (List.replicate m vs).flatten ((List.replicate m xs).flatten.map e) := fun m => by
        induction m with
        | zero => exact .nil
        | succ m ih => rw [List.replicate_succ, List.replicate_succ, List.flatten_cons, List.flatten_cons, List.map_append]; exact dpa_app g2 ih
      exact this n.toNat)
/-- tuple(x) of a list -/
theorem w_tupL {κ : List α → Own → Prop} (h : WV B (eL e) te ε L κ) : WV B (eT e) (tThen te (kTup B.K)) ε L κ := fun F σ H r Q q =>
  h F σ H r _ fun xs L1 v F1 H1 k s1 r1 o1 => by
    have o1' : Dq B.K F1 v (eL e xs) := o1
    cases o1' with
    | @lst p vs _ g1 g2 =>
      refine .inl ⟨p, vs, rfl, .inl (.inl (r1.sub _ _ g1)), fun l hl => ?_⟩
      have hF := sub_none r1.sub hl
      exact q xs L1 _ _ _ k (s1.tr (sub_fresh hF)) (r1.grow hl) (.tup upd_same (dpa_sub (sub_fresh hF) g2))
theorem wr_lcR1W {vs : List Nat} {j : Nat} {κ : Addr → Own → Prop} (h : WA B tas ε L fun as L1 => ∃ n : Int, as = [.d (.int n)] ∧ (-(2 ^ 62) ≤ n ∧ n < 2 ^ 62) ∧ ∃ I : Nat → List PyData → Own → Prop, I 0 [] L1 ∧ j ∈ vs ∧
    (∀ i : Nat, (i : Int) < n → CTurnW B (gName j) tt te ε vs I i (.int (i : Int))) ∧ (∀ p acc L', p ∉ B.M → I n.toNat acc L' → κ p (.lst p acc :: L'))) : WR B (tLc (iRng1 tas) (gName j) tt te vs) ε L κ := fun F σ H r Q q =>
  h F σ H r _ fun as L1 vs' F1 H1 ⟨n, ea, hn, I, h0, hj, hs, hd⟩ s1 r1 o1 => by
    subst ea
    match vs', o1 with
    | [v], o =>
      have ev : v = .int n := int_inv o.1
      subst ev
      exact wr_lcR1 (tas := fun σ H Q => Q [.int n] H) (fun F σ H r Q q => q [.int n] F H (Sub.rfl' F) r ⟨.int n, trivial⟩) hn I h0 hj hs hd F1 σ H1 r1 Q fun p L' F' H' k s r' => q p L' F' H' k (s1.tr s) r'
end
end Fz

/-! ## FzL -/
set_option Elab.async false
set_option linter.all false
set_option maxRecDepth 100000
set_option maxHeartbeats 2000000
set_option autoImplicit false
/-! FzL: the law's own def: the script in, True out. -/
namespace Fz
open PySem L2
def spLaw (K : PySem.W.Frag) : Sp := fun vs H Q _ => ∃ (a : Addr) (ns : List Int), vs = [.ref a] ∧ SqL K H a (ns.map V.int) ∧ ns.length ≤ 63 ∧ ∀ H', Q (.bl true) H'
section
variable {P : Program} {w : World} {K : PySem.W.Frag} {mg : Str → Option Value} {base : Heap} {f : Addr} {fd : FuncData} {k : Nat}
theorem g_S {x qual : Str} {st : Stmt} {N : List Str} {p : Str} (Fn : Fun K x qual st f fd) (S : FnScope N [p] (defScope st)) (hps : 1 ≤ N.length)
    (hbody : ∀ (cdv : Value) (A : Around) (outer : List Env) (s : Shared) (H : Hp), Room k (A.deeper (PyProof.Rows.envOfC qual (defScope st) s.heap.objs.size f cdv)) → (A.deeper (PyProof.Rows.envOfC qual (defScope st) s.heap.objs.size f cdv)).guards = some [] →
      ∃ t, PSs (cxOf CX0 P w K mg base N qual (defScope st) f cdv A outer s H E0).nox (defBody st) t ∧
        ∀ (B : Bg) (Q : VK) a (ns : List Int), B.K = K → ns.length ≤ 63 → (∀ H', Q (.bl true) H') → Ho B (t { nx := fun _ H' => Q .non H', rt := Q }) (some (.v (.ref a)) :: List.replicate (N.length - 1) none) [.seq a (ns.map PyData.int)]) :
    GOk P w K mg base (k + 1) f fd [p] (spLaw K) := by
  refine g_ok Fn S (fun vs H Q E ⟨_, _, h, _⟩ => by rw [h]; rfl) fun cdv A outer s H vs Q hr hG h => ?_
  obtain ⟨a, ns, rfl, hS, hl, q⟩ := h
  obtain ⟨t, ht, hb⟩ := hbody cdv A outer s H hr hG
  exact ⟨t, ht, hb ⟨K, H, H, []⟩ Q a ns rfl hl q H _ H (rep_startS (N := N) hS hps)⟩
end
section
variable {B : Bg} {ε : Eps} {L La : Own} {te : TE} {D : Ends} {tas : TA} {E : XK} {Q : VK}
theorem x_retS (q : ∀ H', Q (.bl true) H') (h : WV B PyData.bool te ε L fun x _ => x = true) (hD : D.rt = Q := by rfl) : Ho B (tRet te D) ε L := fun F σ H r => h F σ H r _ fun x L1 v F1 H1 k _ r1 o1 => by
  have ev : v = .bl x := bool_inv o1
  rw [hD, ev, k]; exact q H1
/-- the law's def hands the script on -/
theorem x_retLaw {i : Nat} {a : Addr} {ns : List Int} (q : ∀ H', Q (.bl true) H') (h : ε[i]? = some (some (.v (.ref a)))) (hk : At L 0 (.seq a (ns.map PyData.int))) (hl : ns.length ≤ 63) (hD : D.rt = Q := by rfl) : Ho B (tRet (tCall (spLaw B.K) [] E (tCons (tVar i) tNil)) D) ε L := fun F σ H r => by
  refine ex_v h F σ H r _ fun v F1 H1 s1 r1 o1 => ?_
  have ev : v = .ref a := o1
  subst ev
  obtain ⟨vs, g1, g2⟩ := r1.own _ (List.mem_of_getElem? hk.get)
  have e2 := dpa_int_inv g2
  subst e2
  exact ⟨a, ns, rfl, sql_sub r1.sub g1, hl, fun H' => by rw [hD]; exact q H'⟩
end
end Fz

/-! ## FzQ -/
set_option Elab.async false
set_option linter.all false
set_option maxRecDepth 100000
set_option maxHeartbeats 4000000
set_option autoImplicit false
/-! FzQ: own exceptions whose __init__ says super().__init__(text) and keeps one field. -/
namespace Fz.Own
open PySem PySem.W PySem.Calls PyProof.Rows PySem.HandSPX
/-! ### the text of such an __init__ -/
def iA (fld : Str) (p1 p2 : Pos) : Arguments := { posonlyargs := [], args := [{ arg := "self", annotation := none, pos := p1 }, { arg := fld, annotation := none, pos := p2 }], vararg := none, kwonlyargs := [], kw_defaults := [], kwarg := none, defaults := [] }
def iB (msg fld : Str) (r1 r2 r3 r4 r5 r6 q1 q2 q3 q4 : Pos) (n : Nat) : List Stmt :=
  [.Expr (.Call (.Attribute (.Call (.Name "super" r1) [] [] r2) "__init__" r3) [.Constant (.str msg) n r4] [] r5) r6, .Assign [.Attribute (.Name "self" q1) fld q2] (.Name fld q3) q4]
def iS (fld : Str) : Scope := { kind := .function, names := [(PySem.Str.ofString "self", .local), (fld, .local), (PySem.Str.ofString "__class__", .free), (PySem.Str.ofString "super", .globalImplicit)], isGenerator := false, isCoroutine := false, more := [] }
/-- a name that may be such a field -/
def fldOk (fld : Str) : Bool := !(fld == PySem.Str.ofString "self") && !(fld == PySem.Str.ofString "__class__") && !(fld == PySem.Str.ofString "super") && !(fld == PySem.Str.ofString "__debug__") && !(fld == PySem.Str.ofString "__classdict__")
/-- the call's arguments come in order -/
def bindOk (fld : Str) : Prop := ∀ (qual : Str) (p1 p2 : Pos) (body : List Stmt) (doc pm ct cda : Value) (an : Option Addr) (cc : Addr) (x v : Value), PySem.bindArgs (fnX "__init__" qual (iA fld p1 p2) body (iS fld) [(("__class__" : Str), cc)] .none .none doc pm an cda ct) ⟨[x, v], []⟩ = pure [(("self" : Str), x), (fld, v)]
theorem bind_limit : bindOk "limit" := fun _ _ _ _ _ _ _ _ _ _ _ _ => by first | rfl | with_unfolding_all rfl
theorem bind_place : bindOk "place" := fun _ _ _ _ _ _ _ _ _ _ _ _ => by first | rfl | with_unfolding_all rfl
theorem bind_error : bindOk "error" := fun _ _ _ _ _ _ _ _ _ _ _ _ => by first | rfl | with_unfolding_all rfl
theorem bind_word : bindOk "word" := fun _ _ _ _ _ _ _ _ _ _ _ _ => by first | rfl | with_unfolding_all rfl
theorem bind_given : bindOk "given" := fun _ _ _ _ _ _ _ _ _ _ _ _ => by first | rfl | with_unfolding_all rfl
/-- what the written part says of the class at C and of its __init__, at fI -/
structure Txt (prog : Program) (K : Frag) (mg : Str → Option Value) (cn msg fld : Str) (C fI : Addr) : Prop where
  gC : mg cn = some (.ref C)
  cls : ∃ nm q N bs bm sn sub ab col dd k0 k1 k2 k3 k5, K.lookup C = some (excClassObj nm q C N bs bm true sn sub ab col dd k0 k1 k2 k3 k5 "ValueError.__new__") ∧ refsVE bm = true
  sa : findIn K (.ref C) "__setattr__" = some (some (.builtin "object.__setattr__"))
  ga : findIn K (.ref C) "__getattribute__" = some (some (.builtin "BaseException.__getattribute__"))
  gg : findIn K (.ref C) "__getattr__" = some none
  noN : findIn K (.ref C) fld = some none
  iC : findIn K (.ref C) "__init__" = some (some (.ref fI))
  tC : typeIn K (.ref fI) = some (.type "function")
  kC : keepIn K (.ref C) = true
  exC : subIn K (.ref C) (.type "BaseException") = some true
  tyC : typeIn K (.ref C) = some (.type "type")
  hdC : hasDictIn K C = true
  te : exmOne K (.ref C) (.ref C) = some true
  sup : ks_superIn K C C "__init__" = some (some (.builtin "ValueError.__init__"))
  opq : nsIn K cStatics "thirdparty.any" = some none
  vE : subIn K (.ref C) (.type "ValueError") = some true
  self : mroIn K C (.ref C) = some true
  gS : mg "super" = none
  top : (prog.main.scope.names.lookup ("super" : Str)).isSome = false
  fok : fldOk fld = true
  fn : ∃ (oc : Value) (od : Option Addr) (qual : Str) (doc pm : Value) (an : Option Addr) (cda cc : Addr) (ct : Value) (osl : Array (Option Value)) (p1 p2 r1 r2 r3 r4 r5 r6 q1 q2 q3 q4 : Pos) (n : Nat) (ccl : Value) (cdd : Option Addr) (vs : Array Value) (ccs : Array (Option Value)) (file : Str) (tf : Tok) (cl : Value) (cld : Option Addr) (csl : Array (Option Value)),
    K.lookup fI = some ⟨oc, od, .func (fnX "__init__" qual (iA fld p1 p2) (iB msg fld r1 r2 r3 r4 r5 r6 q1 q2 q3 q4 n) (iS fld) [("__class__", cc)] .none .none doc pm an (.ref cda) ct), osl⟩ ∧ codeIn K (.ref cda) qual = true ∧
    K.lookup cda = some ⟨ccl, cdd, .fields vs, ccs⟩ ∧ vs[2]? = some (.str file tf) ∧ ((prog.main.file : Str) == file) = true ∧ K.lookup cc = some ⟨cl, cld, .cell (some (.ref C)), csl⟩ ∧ (r3.endLine == r5.line) = true
structure InitEnd (fld : Str) (h h' : Heap) (x C dx t1 : Addr) (v : Value) : Prop where
  keep : ∀ b o, b ≠ x → h.get? b = some o → h'.get? b = some o
  obj : h'.get? x = some { cls := .ref C, dict := some dx, data := .fields #[.ref t1, .none, .none, .none, .bool false, .none] }
  dbig : h.objs.size ≤ dx
  dne : dx ≠ x
  ns : h'.Ns1 dx (fun y => if y = fld then some v else none)
structure Made (fld : Str) (h h' : Heap) (e C d : Addr) (v : Value) : Prop where
  keep : ∀ b o, h.get? b = some o → h'.get? b = some o
  new : h.objs.size ≤ e
  obj : ∃ oe vs, h'.get? e = some oe ∧ oe.cls = .ref C ∧ oe.dict = some d ∧ oe.data = .fields vs ∧ vs[1]? = some .none
  dbig : h.objs.size ≤ d
  dne : d ≠ e
  ns : h'.Ns1 d (fun y => if y = fld then some v else none)
theorem one_size (v : Value) : [v].length ≤ sizeLine := by
  rw [sizeLine_eq]
  exact (by decide : 1 ≤ 16777216)
theorem meth_line {o : Expr} {apos pos r4 : Pos} {msg nm : Str} {n : Nat} {env : Env} (hl : (apos.endLine == pos.line) = true) : eval (.Call (.Attribute o nm apos) [.Constant (.str msg) n r4] [] pos) env = (do
      let ov ← attributeBase o nm env (eval o env)
      standAt apos.atName
      let (f, first) ← holding [ov] (getMethod ov nm (do return (← importBound o env).getD true))
      callWith pos f first (backTo pos (starEach [.Constant (.str msg) n r4] env)) []) := by
  have hpos : methodCallPos true o env apos pos = pure pos := by unfold methodCallPos; simp [hl]
  have e : ∀ ov, methodCall o nm apos pos env ov 1 (backTo pos (starEach [.Constant (.str msg) n r4] env)) [] = (do
      let (f, first) ← holding [ov] (getMethod ov nm (do return (← importBound o env).getD true))
      callWith pos f first (backTo pos (starEach [.Constant (.str msg) n r4] env)) []) := fun ov => by
    show (do
      let (f, first) ← holding [ov] (getMethod ov nm (do return (← importBound o env).getD true))
      let callPos ← methodCallPos true o env apos pos
      callWith callPos f first (backTo pos (starEach [.Constant (.str msg) n r4] env)) []) = _
    rw [hpos]; rfl
  show (do
    let ov ← attributeBase o nm env (eval o env)
    standAt apos.atName
    methodCall o nm apos pos env ov 1 (backTo pos (starEach [.Constant (.str msg) n r4] env)) []) = _
  simp only [e]
section
variable {prog : Program} {w : World} {A : Around} {E : Value → Shared → Prop} {R : Result → Shared → Prop} {s : Shared} {K : Frag} {mg mb : Str → Option Value} {cn msg fld : Str} {C fI : Addr}
theorem fld_ne (h : fldOk fld = true) : fld ≠ PySem.Str.ofString "self" ∧ fld ≠ PySem.Str.ofString "__class__" ∧ fld ≠ PySem.Str.ofString "super" ∧ (fld == PySem.Str.ofString "__debug__") = false := by
  unfold fldOk at h
  simp only [Bool.and_eq_true, Bool.not_eq_true', beq_eq_false_iff_ne] at h
  exact ⟨h.1.1.1.1, h.1.1.1.2, h.1.1.2, beq_eq_false_iff_ne.mpr h.1.2⟩
theorem own_init (hB : bindOk fld) (T : Txt prog K mg cn msg fld C fI) {x t0 : Addr} {v : Value} (X : K.In s.heap) (G : s.heap.Ns mainGlobals mg) (Bt : s.heap.Ns builtinsNs mb) (hb : ∀ y : Str, y ≠ "__name__" → mb y = bootBuiltins y) (hlim : s.heap.NoLimit)
    (hx : s.heap.get? x = some (excO C t0)) (hnx : K.lookup x = none) (hroom : A.depth < recursionLimit)
    (hq : ∀ h' tk dx t1, InitEnd fld s.heap h' x C dx t1 v → R (.ok (.ret .none)) { s with heap := h', toks := tk }) :
    codeAny (model prog w) A (.call (.ref fI) ⟨[.ref x, v], []⟩) R s := by
  obtain ⟨oc, od, qual, doc, pm, an, cda, cc, ct, osl, p1, p2, r1, r2, r3, r4, r5, r6, q1, q2, q3, q4, n, ccl, cdd, vs, ccs, file, tf, cl, cld, csl, ho, hcd, hco, hvs, hfile, hcell, hline⟩ := T.fn
  obtain ⟨nm, q, N, bs, bm, sn, sub, ab, col, dd, k0, k1, k2, k3, k5, hC, hbm⟩ := T.cls
  obtain ⟨n1, n2, n3, n4⟩ := fld_ne T.fok
  have hcl : clsIn K C = some { name := nm, bases := bs, mro := .ref C :: bm, ns := N, qualname := q, hasDict := true, slotNames := sn, subclasses := sub, abstract := ab, collection := col, hasDel := false } := by unfold clsIn; rw [hC] <;> rfl
  refine ks_codeAny_call_defAt (binds := [(("self" : Str), Value.ref x), (fld, v)]) hroom (X _ _ ho) rfl hlim (codeRec_of X hcd) rfl (BindsTo.of_eq (hB _ _ _ _ _ _ _ _ _ _ _ _)) ?_ ?_ (fun h₁ hn k => ?_)
  · intro y hy
    have hy : y ∈ (iS fld).names := hy
    simp only [iS, List.mem_cons, List.not_mem_nil, or_false] at hy
    rcases hy with e | e | e | e <;> rw [e] <;> exact fun z => nomatch z
  · intro y hy
    simp only [List.mem_cons, List.not_mem_nil, or_false] at hy
    show (iS fld).names.lookup y.1 = some .local
    rcases hy with e | e
    · rw [e]; rfl
    · rw [e]
      show List.lookup fld ((PySem.Str.ofString "self", NameKind.local) :: (fld, NameKind.local) :: _) = _
      rw [List.lookup_cons, beq_eq_false_iff_ne.mpr n1, List.lookup_cons, beq_self_eq_true]
  · have X₁ : K.In h₁ := X.keeps k
    have hx₁ := k _ _ hx
    have kS : ∀ L a cd, (envX qual (iS fld) L a cd [("__class__", cc)]).kindOf "super" = some .globalImplicit := fun L a cd => by
      show List.lookup (PySem.Str.ofString "super") ((PySem.Str.ofString "self", NameKind.local) :: (fld, NameKind.local) :: (PySem.Str.ofString "__class__", NameKind.free) :: (PySem.Str.ofString "super", NameKind.globalImplicit) :: []) = _
      rw [List.lookup_cons, show (PySem.Str.ofString "super" == PySem.Str.ofString "self") = false from by decide, List.lookup_cons, beq_eq_false_iff_ne.mpr n3.symm]
      rfl
    have kC : ∀ L a cd, (envX qual (iS fld) L a cd [("__class__", cc)]).kindOf "__class__" = some .free := fun L a cd => by
      show List.lookup (PySem.Str.ofString "__class__") ((PySem.Str.ofString "self", NameKind.local) :: (fld, NameKind.local) :: (PySem.Str.ofString "__class__", NameKind.free) :: (PySem.Str.ofString "super", NameKind.globalImplicit) :: []) = _
      rw [List.lookup_cons, show (PySem.Str.ofString "__class__" == PySem.Str.ofString "self") = false from by decide, List.lookup_cons, beq_eq_false_iff_ne.mpr n2.symm]
      rfl
    have kF : ∀ L a cd, (envX qual (iS fld) L a cd [("__class__", cc)]).kindOf fld = some .local := fun L a cd => by
      show List.lookup fld ((PySem.Str.ofString "self", NameKind.local) :: (fld, NameKind.local) :: _) = _
      rw [List.lookup_cons, beq_eq_false_iff_ne.mpr n1, List.lookup_cons, beq_self_eq_true]
    have sSelf : (fun y : Str => ([("self", Value.ref x), (fld, v)] : List (Str × Value)).reverse.lookup y) "self" = some (.ref x) := by
      show List.lookup (PySem.Str.ofString "self") [(fld, v), (PySem.Str.ofString "self", Value.ref x)] = _
      rw [List.lookup_cons, beq_eq_false_iff_ne.mpr n1.symm]; rfl
    have sF : (fun y : Str => ([("self", Value.ref x), (fld, v)] : List (Str × Value)).reverse.lookup y) fld = some v := by
      show List.lookup fld [(fld, v), (PySem.Str.ofString "self", Value.ref x)] = _
      rw [List.lookup_cons, beq_self_eq_true]
    have hCo : h₁.get? C = some (excClassObj nm q C N bs bm true sn sub ab col dd k0 k1 k2 k3 k5 "ValueError.__new__") := X₁ _ _ hC
    have gb : mb "super" = some (.type "super") := (hb _ (by decide)).trans (by decide +kernel)
    obtain ⟨g₀, d₀, os₀, tk₀, hs₁⟩ : ∃ g d os tk, ({ s with heap := h₁, toks := s.toks + 2 } : Shared) = ⟨h₁, g, d, tk, os⟩ := ⟨_, _, _, _, rfl⟩
    refine ks_wpAt_execs_cons (ks_wpAt_Expr_any ?_)
    refine ks_wpAt_MethodCall (pl := _) ?_ (meth_line hline)
    refine ks_wpAt_super_base (env := envX qual (iS fld) s.heap.objs.size fI (.ref cda) [("__class__", cc)]) (kS _ _ _) (kC _ _ _) (by decide) rfl (X₁ _ _ ho) rfl rfl rfl (X₁ _ _ hco) rfl hvs hfile T.top ?_
    refine ks_loadName_global rfl (kS _ _ _) (loadGlobal_builtin (env := envX qual (iS fld) s.heap.objs.size fI (.ref cda) [("__class__", cc)]) (G.keeps k) T.gS (Bt.keeps k) gb ⟨rfl, ?_⟩)
    refine wpAny_loadName_free rfl (kC _ _ _) rfl ⟨_, X₁ _ _ hcell, rfl⟩ ?_
    refine wpAny_loadName_local rfl (by first | rfl | exact List.lookup_cons_self) hn sSelf ?_
    refine ks_wpAny_isType_cls hCo rfl ⟨rfl, ?_⟩
    have I₁ : InstAt h₁ x (excO C t0) C none := ⟨hx₁, rfl, rfl, trivial⟩
    refine ks_wpAny_call_super hCo rfl hx₁ rfl (fun c e => nomatch e) (looks_mroIn X₁ T.self) (fun h₂ hso k₂ => ?_)
    have X₂ : K.In h₂ := X₁.keeps k₂
    have hx₂ := k₂ _ _ hx₁
    have I₂ : InstAt h₂ x (excO C t0) C none := ⟨hx₂, rfl, rfl, trivial⟩
    refine kxs_getMethod kxs_ValueError hso (looks_opaque X₂ T.opq) (l₀ := .ref C :: bm) ?_ rfl X₂ ?_ (I₂.type.andThen (looks_subIn X₂ T.vE)) (ks_ne X₂ I₂ hcl) rfl ?_
    · exact fun A Q E s k q => wpAny_bind ((looks_clsIn X₂ hcl) A _ E s k (wpAny_pure q))
    · have q := T.sup
      unfold ks_superIn at q
      rw [hcl] at q
      exact q
    have hmw : (h₂.push (kxs_mw "ValueError.__init__" x)).get? h₂.objs.size = some (kxs_mw "ValueError.__init__" x) := Heap.get?_push_at rfl rfl
    refine kxs_callWith (i := "ValueError.__init__") (x := x) rfl ?_
    refine evalArgs_plain (x := eval (.Constant (.str msg) n r4) _) (rest := []) (Calls.spliced_cons ?_)
    refine lit_str _ (fun v₃ tk₃ _ => Calls.spliced_nil ⟨hmw, ?_⟩)
    -- the built-in __init__
    refine wpAny_call (codeAny_of_tree ?_)
    show wpAny _ _ (callAny (.ref _) ⟨[v₃], []⟩) _ _ _
    simp only [callAny]
    refine wpAny_bind (wpAny_load hmw ?_)
    simp only [kxs_mw, show (Value.type "method-wrapper" == Value.type "method" || Value.type "method-wrapper" == Value.type "builtin_function_or_method" || Value.type "method-wrapper" == Value.type "method-wrapper") = true by decide, if_true]
    refine KFB.if_so (by decide) ?_
    have hC₃ : (h₂.push (kxs_mw "ValueError.__init__" x)).get? C = some (excClassObj nm q C N bs bm true sn sub ab col dd k0 k1 k2 k3 k5 "ValueError.__new__") := Heap.get?_push_of_some _ (X₂ _ _ hC)
    have hx₃ : (h₂.push (kxs_mw "ValueError.__init__" x)).get? x = some (excO C t0) := Heap.get?_push_of_some _ hx₂
    refine wpAny_bind (check_bound_init F.excBase_ValueError.toExcCallFacts hC₃ hx₃ rfl ?_)
    refine wpAny_bind (wpAny_pure (wpAny_pure ?_))
    refine ⟨plainId_quiet F.excBase_ValueError.init.plain _, codeAny_builtin F.excBase_ValueError.initEntry ?_⟩
    refine exc_init_tree (cls := .ref C) (t0 := t0) (dv := none) (c2 := .none) (c3 := .none) (b4 := .bool false) hx₃ (one_size v₃) (fun h₄ k₄ hx₄ _ => ?_)
    -- self.fld = fld
    have X₃ : K.In (h₂.push (kxs_mw "ValueError.__init__" x)) := X₂.keeps fun b o e => Heap.get?_push_of_some _ e
    have k₁₃ : ∀ b o, h₁.get? b = some o → (h₂.push (kxs_mw "ValueError.__init__" x)).get? b = some o := fun b o e => Heap.get?_push_of_some _ (k₂ b o e)
    have hxL : s.heap.objs.size ≠ x := Nat.ne_of_gt (Heap.lt_size hx)
    have X₄ : K.In h₄ := fun a o e => k₄ a o (fun z => by rw [z, hnx] at e; cases e) (X₃ a o e)
    have hn₄ : h₄.Ns s.heap.objs.size (fun y => [(("self" : Str), Value.ref x), (fld, v)].reverse.lookup y) := hn.at (fun o q => k₄ _ _ hxL (k₁₃ _ _ q))
    show PySem.wpAt _ _ _ (execs [.Assign [.Attribute (.Name "self" q1) fld q2] (.Name fld q3) q4] (envX qual (iS fld) s.heap.objs.size fI (.ref cda) [("__class__", cc)])) _ _ _
    refine ks_wpAt_execs_cons (ks_wpAt_Assign_Attr ?_)
    refine wpAt_of_wpAny (wpAny_Name (wpAny_loadName_local (m := fun y : Str => List.lookup y [(("self" : Str), Value.ref x), (fld, v)].reverse) rfl (kF s.heap.objs.size fI (.ref cda)) ?_ sF ?_) n4)
    · exact hn₄
    refine wpAny_Name (wpAny_loadName_local (m := fun y : Str => List.lookup y [(("self" : Str), Value.ref x), (fld, v)].reverse) rfl (by first | rfl | exact List.lookup_cons_self) ?_ sSelf ?_) (by decide)
    · exact hn₄
    refine set_plain X₄ (ox := { cls := .ref C, data := .fields #[.ref (h₂.push (kxs_mw "ValueError.__init__" x)).objs.size, .none, .none, .none, .bool false, .none] }) (od := none) ⟨hx₄, rfl, rfl, trivial⟩ T.sa ?_
    refine exc_osa X₄ hx₄ hcl (show refsVE (.ref C :: bm) = true from hbm) rfl T.noN (fun h₅ tk₅ dx k₅ dn dne hx₅ hn₅ => ?_)
    show PySem.wpAt _ _ _ (execs [] _) _ _ _
    refine wpAt_of_wpAny (wpAny_execs_nil ?_)
    have z : s.heap.objs.size < h₁.objs.size := hn.lt
    have k₁₄ : ∀ b o, b ≠ x → h₁.get? b = some o → h₄.get? b = some o := fun b o hb e => k₄ b o hb (k₁₃ b o e)
    refine hq h₅ tk₅ dx _ ⟨fun b o hb e => k₅ b o hb (k₁₄ b o hb (k b o e)), hx₅, ?_, dne, hn₅⟩
    obtain ⟨oL, _, _, hL, _⟩ := hn₄
    exact Nat.le_of_lt (Nat.lt_of_lt_of_le (Heap.lt_size hL) dn)

theorem own_made (hB : bindOk fld) (T : Txt prog K mg cn msg fld C fI) {v : Value} (X : K.In s.heap) (G : s.heap.Ns mainGlobals mg) (Bt : s.heap.Ns builtinsNs mb) (hb : ∀ y : Str, y ≠ "__name__" → mb y = bootBuiltins y) (hlim : s.heap.NoLimit) (hroom : A.depth + 1 < recursionLimit)
    (hq : ∀ h' tk e d, Made fld s.heap h' e C d v → R (.ok (.ret (.ref e))) { s with heap := h', toks := tk }) :
    codeAny (model prog w) A (.call (.ref C) ⟨[v], []⟩) R s := by
  obtain ⟨nm, q, N, bs, bm, sn, sub, ab, col, dd, k0, k1, k2, k3, k5, hC, hbm⟩ := T.cls
  obtain ⟨hp, g, dr, tk, os⟩ := s
  have k : ∀ b o, hp.get? b = some o → ((hp.push (kdv_tup [v])).push (excO C hp.objs.size)).get? b = some o := fun b o e => Heap.get?_push_of_some _ (Heap.get?_push_of_some _ e)
  have hget : ((hp.push (kdv_tup [v])).push (excO C hp.objs.size)).get? (hp.objs.size + 1) = some (excO C hp.objs.size) := by heap_get
  have hnx : K.lookup (hp.objs.size + 1) = none := by
    cases e : K.lookup (hp.objs.size + 1) with
    | none => rfl
    | some o =>
      have z : hp.get? (hp.objs.size + 1) = some o := X _ _ e
      exact absurd (Nat.lt_of_succ_lt (Heap.lt_size z)) (Nat.lt_irrefl _)
  refine call_own F.excBase_ValueError (fun X => refsVE_contains X bm hbm) (X _ _ hC) (looks_findIn X T.iC) (fun self => bind_fn X self T.tC) (one_size v) ?_
  refine own_init (s := ⟨(hp.push (kdv_tup [v])).push (excO C hp.objs.size), g, dr, tk, os⟩) hB T (X.keeps k) (G.keeps k) (Bt.keeps k) hb (hlim.keeps k) hget hnx ?_ fun h' tk' dx t1 ⟨k', hx, dn, dne, hns⟩ => ?_
  · show A.depth + 1 < recursionLimit
    exact hroom
  · have old : ∀ b o, hp.get? b = some o → h'.get? b = some o := fun b o e => k' b o (Nat.ne_of_lt (Nat.lt_succ_of_lt (Heap.lt_size e))) (k b o e)
    have z : hp.objs.size + 1 + 1 ≤ dx := by
      first
        | (simpa only [Heap.size_push] using dn)
        | exact dn
        | (have q := dn; rw [Heap.size_push, Heap.size_push] at q; exact q)
    exact ⟨rfl, hq h' tk' (hp.objs.size + 1) dx ⟨old, Nat.le_succ _, ⟨_, _, hx, rfl, rfl, rfl, rfl⟩, Nat.le_trans (Nat.le_trans (Nat.le_succ _) (Nat.le_succ _)) z, dne, hns⟩⟩
end
end Fz.Own

/-! ## FzN -/
set_option Elab.async false
set_option linter.all false
set_option maxRecDepth 100000
set_option maxHeartbeats 4000000
set_option autoImplicit false
/-! FzN: own exceptions in the hand layer: raise C(e), e.f, isinstance of a caught one; defs that may raise. -/
namespace Fz
open PySem L2
open PySem.W (InstAt KitX Looks Frag findIn specialIn takesIn hasDictIn subIn mroIn clsIn)
theorem relO_own {v : V} {v' : Value} {fld : Str} (r : RelV v v') (f : Str) : RelO (List.lookup f [(fld, v)]) (if f = fld then some v' else none) := by
  by_cases hw : f = fld
  · subst hw
    rw [if_pos rfl]
    have q : List.lookup f [(f, v)] = some v := by simp [List.lookup]
    rw [q]
    exact r
  · rw [if_neg hw]
    have qw : (f == fld) = false := by simpa using hw
    have q2 : List.lookup f [(fld, v)] = none := by simp [List.lookup, qw]
    rw [q2]
    trivial
section
variable {X : Cx} {cn msg fld : Str} {C fI : Addr}
/-- C(e) -/
def tMkOwn (C : Addr) (fld : Str) (ta : TA) : St → Hp → XK → Prop := fun σ H Q => ta σ H fun vs H1 => ∃ v, vs = [v] ∧ ∀ d, H1 d = none → Q (.ref C) (some d) (upd H1 d (.xd [(fld, v)]))
theorem pmk_own1 {a : Expr} {ta : TA} {p pos : Pos} {k : Nat} (hB : Own.bindOk fld) (T : Own.Txt X.prog X.K X.mg cn msg fld C fI) (hr : Room k X.A) (ha : PA X [a] ta) (hg : Gl X cn) (hdb : (cn == ("__debug__" : Str)) = false)
    (he : starEach (a :: []) X.env = (false, eval a X.env) :: starEach [] X.env := by rfl) (hpl : (backTo pos (starEach [] X.env)).any (·.1) = false := by rfl) :
    PMk X (.Call (.Name cn p) [a] [] pos) (tMkOwn C fld ta) := by
  intro pins s σ H Q I h
  refine wpAny_Call_Name_kw (ld_glob I hg T.gC ?_ hdb)
  refine PySem.W.callWith_K (h₀ := X.base) I.ok.mod.kin T.kC (thn (ha.run pos pins s σ H _ I h) fun us s1 hh => ?_) he hpl
  obtain ⟨vs, H1, I1, r1, v, ev, q1⟩ := hh
  subst ev
  refine ⟨I1.kIn, ?_⟩
  cases r1 with
  | cons rv rn =>
    rename_i v' us'
    cases rn
    show wpAny _ _ (call (.ref C) [v']) _ _ _
    have hlim := I1.nolimit
    obtain ⟨mb, hb1, hb2⟩ := I1.mod.blt
    have hG := I1.mod.glob.keeps I1.bk
    have hB1 := hb1.keeps I1.bk
    obtain ⟨hp, g, dr, tk, os⟩ := s1
    refine wpAny_call (Own.own_made hB T I1.kIn hG hB1 hb2 hlim (by have := hr.dp; omega) fun h' tk' e d M => ?_)
    show MkP X pins σ Q (.ref e) ⟨h', g, dr, tk', os⟩
    obtain ⟨oe, fv, hoe, hc, hd, hdat, h1⟩ := M.obj
    have hns := M.ns
    obtain ⟨G', g1, g2⟩ := restrict h' fun b => decide (b ≠ e)
    have gk : ∀ b, b ≠ e → G'.get? b = h'.get? b := fun b hb => g1 b (decide_eq_true hb)
    have ge : G'.get? e = none := g2 e (by simp)
    have old : ∀ b o, hp.get? b = some o → G'.get? b = some o := fun b o q => (gk b (Nat.ne_of_lt (Nat.lt_of_lt_of_le (Heap.lt_size q) M.new))).trans (M.keep b o q)
    have ob : ObjOk X.prog X.w (upd H1 d (.xd [(fld, v)])) G' d (.xd [(fld, v)]) :=
      ⟨_, hns.at (fun o q => (gk d M.dne).trans q), fun f => relO_own rv f⟩
    have J : Inv X pins σ (upd H1 d (.xd [(fld, v)])) ⟨G', g, dr, tk', os⟩ := I1.laid (t' := tk') old M.dbig ob
    refine ⟨e, oe, fv, ⟨G', g, dr, tk', os⟩, _, .ref C, some d, rfl, J, fun b o q => ?_, ge, hoe, ⟨hc, hd⟩, hdat, h1, ?_, rfl, I1.bare, raises_own T.exC T.tyC, q1 d (I1.hok.fresh M.dbig)⟩
    · by_cases hb : b = e
      · have q' : G'.get? b = some o := q
        rw [hb, ge] at q'; cases q'
      · exact (gk b hb).symm.trans q
    · rw [upd_ne (Ne.symm M.dne)]
      exact I1.hok.fresh M.new
/-- raise C(e) -/
def tRaiseOwn (C : Addr) (fld : Str) (W : L2.WX) (ta : TA) : TS := fun _ σ H => tMkOwn C fld ta σ H fun cls d H' => W cls d σ H'
theorem ps_raiseOwn {a : Expr} {ta : TA} {W : L2.WX} {p pos pos2 : Pos} {k : Nat} (hB : Own.bindOk fld) (hc : X.calm = true) (T : Own.Txt X.prog X.K X.mg cn msg fld C fI) (hr : Room k X.A) (tk : Takes X W) (ha : PA X [a] ta) (hg : Gl X cn) (hdb : (cn == ("__debug__" : Str)) = false)
    (he : starEach (a :: []) X.env = (false, eval a X.env) :: starEach [] X.env := by rfl) (hpl : (backTo pos (starEach [] X.env)).any (·.1) = false := by rfl) :
    PS X (.Raise (some (.Call (.Name cn p) [a] [] pos)) none pos2) (tRaiseOwn C fld W ta) := ps_raise hc tk (pmk_own1 hB T hr ha hg hdb he hpl)
theorem own_xf (T : Own.Txt X.prog X.K X.mg cn msg fld C fI) : XfC X.K C := ⟨T.ga, T.gg, T.exC, T.hdC⟩
end
end Fz
namespace PySem.W
open PySem PySem.Spec PySem.Calls PyProof.Rows
section
variable {prog : Program} {w : World} {A : Around} {E : Value → Shared → Prop} {s : Shared} {K : Frag} {x D : Addr} {ox : Obj} {od : Option Obj}
theorem findObj_dataO {C : Addr} {name : Str} {a g : Value} (hc : (clsIn K C).isSome = true) (ha : findIn K (.ref C) name = some (some a)) (hg : specialIn K a "__get__" = some (some g)) (ht : takesIn K a = some true) : findObj K C od name = some (.bind g a) := by
  obtain ⟨cd, hc⟩ := Option.isSome_iff_exists.mp hc
  unfold findObj
  rw [hc, Option.bind_some, ha, Option.bind_some]
  simp [hg, ht]
theorem kin_classED {Q : Option Value → Shared → Prop} (hga : findIn K (.ref D) "__getattribute__" = some (some (.builtin "BaseException.__getattribute__"))) (hgt : findIn K (.ref D) "__getattr__" = some none) (hsub : subIn K (.ref D) (.type "BaseException") = some true)
    (hdct : hasDictIn K D = true) (ha : findIn K (.ref D) "__class__" = some (some (.builtin "object.__class__")))
    (hn : specialIn K (.builtin "object.__class__") "__get__" = some (some (.builtin "getset_descriptor.__get__"))) (htk : takesIn K (.builtin "object.__class__") = some true) (hm : mroIn K D (.type "object") = some true)
    (X : K.In s.heap) (I : InstAt s.heap x ox D od) (h : Q (some (.ref D)) { s with toks := s.toks + 1 }) : wpAny (model prog w) A (getAttr? (.ref x) "__class__") Q E s := by
  have hf : findObj K D od "__class__" = some (.bind (.builtin "getset_descriptor.__get__") (.builtin "object.__class__")) := findObj_dataO (by obtain ⟨cd, hc, _⟩ := any_some hdct; rw [hc]; rfl) ha hn htk
  obtain ⟨hp, g, d, t, os⟩ := s
  have L0 := I.type (M := model prog w)
  have L1 := looks_findIn (M := model prog w) X hga
  have L2 := looks_findIn (M := model prog w) X hgt
  have L3 := looks_find (M := model prog w) X I hf
  have sub : Looks (model prog w) hp (isInstance (.ref x) (.type "BaseException")) true := L0.andThen (looks_subIn X hsub)
  have hx0 : (false && onTheHeap (Value.builtin "BaseException.__getattribute__")) = false := rfl
  have hx2 : (Value.builtin "BaseException.__getattribute__" == Value.builtin "object.__getattribute__") = false := by decide +kernel
  have hx1 : (onTheHeap (Value.ref D) && Value.builtin "BaseException.__getattribute__" == Value.builtin "object.__getattribute__") = false := by rw [hx2]; rfl
  unfold getAttr? getAttrBy? getAttrBy
  refine wpAny_bind (wpAny_mkText (wpAny_bind (wpAny_attempt (wpAny_holding (wpAny_bind (L0.at (wpAny_bind (L1.at ?_))))))))
  show wpAny _ _ (if (onTheHeap (Value.ref D) && Value.builtin "BaseException.__getattribute__" == Value.builtin "object.__getattribute__") = true then _ else _) _ _ _
  rw [hx1, if_neg Bool.false_ne_true]
  unfold getAttrByItsOwn hookBefore
  refine wpAny_bind ?_
  rw [if_pos (show onTheHeap (Value.ref D) = true from rfl)]
  refine L2.at ?_
  refine wpAny_bind (wpAny_attempt (wpAny_holding ?_))
  unfold callGetattribute
  rw [hx0, if_neg Bool.false_ne_true]
  unfold boundAndCalled
  rw [PySem.F.excAttr_ValueError.ga.bind (.ref x)]
  refine wpAny_bind (wpAny_pure ?_)
  show wpAny _ _ (call (.builtin "BaseException.__getattribute__") [.ref x, .str "__class__" t]) _ _ _
  refine wpAny_call (codeAny_call_builtin PySem.F.excAttr_ValueError.ga.plain PySem.F.entry_bexc_ga ?_)
  refine @check_slot (model prog w) _ _ ⟨hp, g, d, t + 1, os⟩ "BaseException.__getattribute__" "BaseException" "__getattribute__" (.ref x) [.str "__class__" t] [] _ (by decide +kernel) (by decide +kernel) sub (PySem.F.args_bexc_ga (.ref x) (.str "__class__" t)) ?_
  unfold Builtin.«object.__getattribute__»
  refine wpAny_bind (wpAny_of_eq (a := ((Value.ref x : Value), [Value.str "__class__" t])) (by first | rfl | (simp only [slotArgs]; rfl)) ?_)
  refine wpAny_bind (wpAny_pure (wpAny_bind (L0.at (wpAny_bind (L3.at ?_)))))
  show wpAny _ _ (holding [Value.builtin "object.__class__"] (call (.builtin "getset_descriptor.__get__") [.builtin "object.__class__", .ref x, .ref D]) >>= ret) _ _ _
  refine wpAny_bind (wpAny_holding (wpAny_call (class_get (s := ⟨hp, g, d, t + 1, os⟩) (ox := ox) (od := od) X I hm ?_)))
  refine wpAny_pure ?_
  show wpAny _ _ (handedOut (.ref D)) _ _ _
  rw [handedOut_of (v := .ref D) rfl]
  first
    | exact wpAny_pure (wpAny_pure h)
    | exact wpAny_pure h
    | exact wpAny_pure (wpAny_bind (wpAny_pure (wpAny_pure h)))
theorem fz_kitx_excD (hga : findIn K (.ref D) "__getattribute__" = some (some (.builtin "BaseException.__getattribute__"))) (hgt : findIn K (.ref D) "__getattr__" = some none) (hsub : subIn K (.ref D) (.type "BaseException") = some true) (hdct : hasDictIn K D = true) (ha : findIn K (.ref D) "__class__" = some (some (.builtin "object.__class__")))
    (hn : specialIn K (.builtin "object.__class__") "__get__" = some (some (.builtin "getset_descriptor.__get__"))) (htk : takesIn K (.builtin "object.__class__") = some true) (hm : mroIn K D (.type "object") = some true) :
    KitX K (.ref x) (.ref D) (fun h => InstAt h x ox D od) where
  ty := fun _ _ _ I => I.type
  it := fun _ _ X _ => by
    obtain ⟨cdD, hcD, _⟩ := any_some hdct
    unfold clsIn at hcD
    split at hcD
    · rename_i c' d' cd' sl' ho
      intro A' Q' E' s' k q
      unfold isType loadHead
      exact wpAny_bind (wpAny_loadPart (k _ _ (X _ _ ho)) (wpAny_pure q))
    · cases hcD
  ne := fun h tp dd its n sl X htp => by
    obtain ⟨cdD, hcD, _⟩ := any_some hdct
    refine Bool.eq_false_iff.mpr fun q => ?_
    have e : D = tp := Value.ref.inj (beq_iff_eq.mp q)
    subst e
    unfold clsIn at hcD
    split at hcD
    · rename_i c' d' cd' sl' ho
      have z := (X _ _ ho).symm.trans htp
      cases z
    · cases hcD
  ca := fun X I k => kin_classED hga hgt hsub hdct ha hn htk hm X I k
end
end PySem.W
namespace Fz
open PySem L2
/-- isinstance(e, c), e the exception that the suite holds, d its dict -/
def rIsED (K : PySem.W.Frag) (D a : Addr) (cls : Value) (dv : Option Addr) : List V → Hp → VK → Prop := fun xs H Q => ∃ (d : Addr) (c : V) (cv : Value) (b : Bool) (fs : List (Str × V)), xs = [.ref a, c] ∧ cls = .ref D ∧ dv = some d ∧ ClsV c cv ∧ H d = some (.xd fs) ∧ PySem.W.kitOne K (.ref D) cv = some b ∧ Q (.bl b) H
/-- isinstance(e, (c, ..)) -/
def rIsEDT (K : PySem.W.Frag) (D a : Addr) (cls : Value) (dv : Option Addr) : List V → Hp → VK → Prop := fun xs H Q => ∃ (d tp : Addr) (cs : List V) (us : List Value) (b : Bool) (fs : List (Str × V)), xs = [.ref a, .ref tp] ∧ cls = .ref D ∧ dv = some d ∧ H tp = some (.tup cs) ∧ PySem.Paired ClsV cs us ∧ H d = some (.xd fs) ∧ PySem.W.kitAny K (.ref D) us = some b ∧ Q (.bl b) H
section
variable {X : Cx} {a D d : Addr} {oe : Obj} {cls : Value} {dv : Option Addr} {pn : List (Addr × Obj)}
theorem inst_ED {H : Hp} {pins : List (Addr × Obj)} {σ : St} {s : Shared} {fs : List (Str × V)} (hz : Zc (.ref D) (some d) oe) (hf : ∃ vs, oe.data = .fields vs) (I : Inv (X.suite a ((a, oe) :: pn)) pins σ H s) (hx : H d = some (.xd fs)) : ∃ od, PySem.W.InstAt s.heap a oe D (some od) := by
  obtain ⟨hget, _⟩ := I.pin (a, oe) (List.mem_append.mpr (.inl List.mem_cons_self))
  obtain ⟨vs, hv⟩ := hf
  have ho : ObjOk X.prog X.w H s.heap d (.xd fs) := I.hok d _ hx
  obtain ⟨mA, hns, hr⟩ := ho
  obtain ⟨od, ho, _⟩ := lookIn_ns hns
  exact ⟨od, hget, hz.1, by unfold PySem.W.notCls; rw [hv] <;> rfl, by rw [hz.2]; exact ho⟩
theorem call_isED (C : ExcC X.K D) (hz : Zc cls dv oe) (hf : ∃ vs, oe.data = .fields vs) : CallR (X.suite a ((a, oe) :: pn)) (.builtin "isinstance") (rIsED X.K D a cls dv) := by
  intro pins s σ H xs us Q I r h
  obtain ⟨d, c, cv, b, fs, rfl, rfl, rfl, hcv, hx, e, q⟩ := h
  cases r with
  | cons rx rr =>
    cases rr with
    | cons rt rr =>
      cases rr
      cases rx
      have ec := hcv.eq rt
      subst ec
      obtain ⟨od, J⟩ := inst_ED hz hf I hx
      exact PySem.W.kia_one (PySem.W.fz_kitx_excD C.hg C.hk C.hs C.hd C.ha C.hn C.ht C.hm) I.kIn J e (fun z => nomatch z) fun tk => ⟨.bl b, H, I.kept (t' := tk) fun _ _ z => z, rfl, q⟩
theorem call_isEDT (C : ExcC X.K D) (hz : Zc cls dv oe) (hf : ∃ vs, oe.data = .fields vs) : CallR (X.suite a ((a, oe) :: pn)) (.builtin "isinstance") (rIsEDT X.K D a cls dv) := by
  intro pins s σ H xs us Q I r h
  obtain ⟨d, tp, cs, ws, b, fs, rfl, rfl, rfl, hT, k, hx, e, q⟩ := h
  cases r with
  | cons rx rr =>
    cases rr with
    | cons rt rr =>
      cases rr
      cases rx
      cases (show _ = Value.ref tp from rt)
      obtain ⟨od, J⟩ := inst_ED hz hf I hx
      obtain ⟨_, its, rv, o, h1, h2, n, h3⟩ := (show ObjOk X.prog X.w H s.heap tp (.tup cs) from I.hok tp _ hT)
      have e3 := ClsV.all k rv
      subst e3
      obtain ⟨oc, od', dt, sl⟩ := o
      simp only at h2 h3
      subst h2 h3
      exact PySem.W.kia_tup (PySem.W.fz_kitx_excD C.hg C.hk C.hs C.hd C.ha C.hn C.ht C.hm) I.kIn J h1 e (fun z => nomatch z) fun tk => ⟨.bl b, H, I.tok tk, rfl, q⟩
end
end Fz

/-! ## FzO -/
set_option Elab.async false
set_option linter.all false
set_option maxRecDepth 100000
set_option maxHeartbeats 4000000
set_option autoImplicit false
/-! FzO: defs that may raise, what they promise; try .. except C as e. -/
namespace Fz
open PySem L2
/-- what may be raised: an own error with one field of data, or one without -/
inductive XV where
  | own (C : Addr) (fld : Str) (x : PyData)
  | bare (C : Addr)
def XV.out (K : PySem.W.Frag) (F H : Hp) (E : XK) : XV → Prop
  | .own C fld x => ∀ v d, Dq K F v x → H d = none → E (.ref C) (some d) (upd H d (.xd [(fld, v)]))
  | .bare C => E (.ref C) none H
section
variable {α β : Type}
/-- a def of data that may raise -/
def spDX (K : PySem.W.Frag) (a : β → List PyData) (Pre : β → Prop) (e : α → PyData) (Post : β → α → Prop) (PX : β → XV → Prop) : Sp := fun vs H Q E => ∃ F y, Sub F H ∧ DqAll K F vs (a y) ∧ Pre y ∧ (∀ x v F' H', Post y x → NxM [] F H F' H' → Dq K F' v (e x) → Q v H') ∧
  ∀ x F' H', PX y x → NxM [] F H F' H' → XV.out K F' H' E x
def XtD (B : Bg) (E : XK) (PX : XV → Prop) : Prop := ∀ x F σ H ε L, PX x → Rep B ε L F σ H → XV.out B.K F H E x
variable {P : Program} {w : World} {K : PySem.W.Frag} {mg : Str → Option Value} {base : Heap} {f : Addr} {fd : FuncData} {ps : List Str} {k : Nat}
theorem fn_DX {x qual : Str} {st : Stmt} {N : List Str} {a : β → List PyData} {Pre : β → Prop} {e : α → PyData} {Post : β → α → Prop} {PX : β → XV → Prop} (Fn : Fun K x qual st f fd) (S : FnScope N ps (defScope st)) (hps : ps.length ≤ N.length) (len : ∀ y, (a y).length = ps.length)
    (hbody : ∀ (cdv : Value) (A : Around) (outer : List Env) (s : Shared) (H : Hp) (E : XK), Room k (A.deeper (PyProof.Rows.envOfC qual (defScope st) s.heap.objs.size f cdv)) →
      ∃ t, PSs (cxOf (L2.CX P w) P w K mg base N qual (defScope st) f cdv A outer s H E) (defBody st) t ∧
        ∀ (B : Bg) (Q : VK) y, B.K = K → Pre y → RetD B Q e (Post y) → XtD B E (PX y) → Ho B (t { nx := fun _ H' => Q .non H', rt := Q }) (argE (a y) N.length) []) :
    FnOk P w K mg base (L2.CX P w) (k + 1) f fd ps (spDX K a Pre e Post PX) := by
  refine Fn.okX S (fun vs H Q E h => ?_) fun cdv A outer s H vs Q E hr h => ?_
  · obtain ⟨F, y, _, hd, _⟩ := h
    rw [dpa_len hd]; exact len y
  · obtain ⟨t, ht, hb⟩ := hbody cdv A outer s H E hr
    obtain ⟨F, y, hs, hd, hy, q, qx⟩ := h
    refine ⟨t, ht, hb ⟨K, F, H, []⟩ Q y rfl hy (fun x v F' σ' H' ε L hx r o => q x v F' H' hx r.nx o) (fun x F' σ' H' ε L hx r => qx x F' H' hx r.nx) F _ H (rep_start hs hd ?_)⟩
    rw [len y]; exact hps
section
variable {B : Bg} {ε ε' : Eps} {L La L' : Own} {te : TE} {tas tk : TA} {D : Ends} {e : α → PyData} {PX : XV → Prop} {E : XK} {W : L2.WX}
/-- raise C(e), out of the def -/
theorem x_raiseOwn {C : Addr} {fld : Str} (q : XtD B E PX) {x : PyData} (h : EX B te ε L (.d x) La) (hx : PX (.own C fld x)) : Ho B (tRaiseOwn C fld (fun cls d _ H => E cls d H) (tCons te tNil) D) ε L := fun F σ H r =>
  h F σ H r _ fun v F1 H1 s1 r1 o1 => ⟨v, rfl, fun d hd => q _ F1 σ H1 ε La hx r1 v d o1 hd⟩
/-- what is raised is taken -/
def HX (B : Bg) (W : L2.WX) (x : XV) (ε : Eps) (L : Own) : Prop := ∀ F σ H, Rep B ε L F σ H → XV.out B.K F H (fun cls d H' => W cls d σ H') x
variable {a : β → List PyData} {Pre : β → Prop} {P2 : β → α → Prop} {PX2 : β → XV → Prop} {κ : α → Own → Prop} {gV : List V → List V → List V}
theorem w_callDX (h : WA B tas ε L fun as L1 => ∃ y, as = (a y).map AD.d ∧ Pre y ∧ (∀ x, P2 y x → κ x L1) ∧ ∀ x, PX2 y x → HX B W x ε L1) : WV B e (tCallS (spDX B.K a Pre e P2 PX2) (WE W) tas) ε L κ := fun F σ H r Q q =>
  h F σ H r _ fun as L1 vs F1 H1 ⟨y, ea, hy, k, kx⟩ s1 r1 o1 => by
    subst ea
    exact ⟨F1, y, r1.sub, ad_data o1, hy, fun x v F' H' hx n o => q x L1 v F' H' (k x hx) (s1.tr n.1) (r1.call n) o, fun x F' H' hx n => kx x hx F' σ H' (r1.call n)⟩
/-- the same with keywords -/
def tCallKS (sp : Sp) (gV : List V → List V → List V) (E : St → XK) (t tk : TA) : TE := fun σ H Q => t σ H fun vs H1 => tk σ H1 fun zs H2 => sp (gV vs zs) H2 Q (E σ)
theorem w_callKDX (h : WA B tk ε L fun as L1 => ∃ y, (∀ K F zs, AdAll K F as zs → DqAll K F (gV [] zs) (a y)) ∧ Pre y ∧ (∀ x, P2 y x → κ x L1) ∧ ∀ x, PX2 y x → HX B W x ε L1) : WV B e (tCallKS (spDX B.K a Pre e P2 PX2) gV (WE W) tNil tk) ε L κ := fun F σ H r Q q =>
  h F σ H r _ fun as L1 vs F1 H1 ⟨y, ea, hy, k, kx⟩ s1 r1 o1 => ⟨F1, y, r1.sub, ea _ _ _ o1, hy, fun x v F' H' hx n o => q x L1 v F' H' (k x hx) (s1.tr n.1) (r1.call n) o, fun x F' H' hx n => kx x hx F' σ H' (r1.call n)⟩
/-! ### try .. except C as e -/
def cutE (D : Ends) (i : Nat) : Ends := { nx := fun σ' H' => D.nx (σ'.set i none) H', rt := D.rt, bk := fun σ' H' => D.bk (σ'.set i none) H', ct := fun σ' H' => D.ct (σ'.set i none) H' }
theorem Rep.gone {F : Hp} {σ : St} {H : Hp} (r : Rep B ε L F σ H) (i : Nat) : Rep B (ε.set i none) L F (σ.set i none) H := by
  refine ⟨r.sub, r.own, r.off, r.nd, fun j x e => ?_, by rw [List.length_set, List.length_set]; exact r.len, r.f0, r.h0, r.nc, r.mm⟩
  rw [List.getElem?_set] at e
  rw [List.getElem?_set, r.len]
  split at e
  · rename_i ij
    subst ij
    split at e
    · rename_i hl
      rw [if_pos rfl, if_pos hl]
      cases e
      exact ⟨_, rfl, trivial⟩
    · cases e
  · rename_i ij
    rw [if_neg ij]
    exact r.sl j x e
theorem ho_cut {Pn : St → Hp → Prop} {i : Nat} (h : Ho B Pn (ε.set i none) L) : Ho B (fun σ' H' => Pn (σ'.set i none) H') ε L := fun F σ H r => h F _ H (r.gone i)
theorem Rep.know {F : Hp} {σ : St} {H : Hp} (r : Rep B ε L F σ H) {v : V} {d : PyData} (h : Dq B.K F v d) : Rep B ε (.know v d :: L) F σ H :=
  ⟨r.sub, fun m hm => by
    rcases List.mem_cons.mp hm with e | e
    · rw [e]; exact h
    · exact r.own m e, r.off, r.nd, r.sl, r.len, r.f0, r.h0, r.nc, r.mm⟩
theorem hx_as {C : Addr} {fld : Str} {x : PyData} {i : Nat} {ts : Addr → Value → Option Addr → TS} {Wout : L2.WX} (te : PySem.W.exmOne B.K (.ref C) (.ref C) = some true)
    (h : ∀ (ad d : Addr) (v : V), d ∉ B.M → Ho B (ts ad (.ref C) (some d) (cutE D i)) (ε.set i (some (.v (.ref ad)))) (.raw d (.xd [(fld, v)]) :: .know v x :: L)) : HX B (wAs B.K (.ref C) i ts Wout D) (.own C fld x) ε L := fun F σ H r v d o hd =>
  ⟨true, te, fun _ ad _ => h ad d v (r.newM hd) F _ _ (((r.know o).alloc hd (m := .raw d (.xd [(fld, v)])) rfl ⟨upd_same, fun _ z => nomatch z⟩).slot (a := .v (.ref ad)) rfl), fun z => nomatch z⟩
/-- e.f -/
theorem ex_xf {ad d C : Addr} {fld : Str} {v : V} {x : PyData} {j i : Nat} (hs : ε[i]? = some (some (.v (.ref ad)))) (h1 : At L j (.raw d (.xd [(fld, v)]))) (h2 : MO.know v x ∈ L) : EX B (tXf ad (.ref C) (some d) C fld (tVar i)) ε L (.d x) L := fun F σ H r Q q => by
  obtain ⟨s, g1, y, rfl, g2⟩ := r.sl i _ hs
  have e : y = .ref ad := g2
  subst e
  have k := r.own _ (List.mem_of_getElem? h1.get)
  have o := r.own _ h2
  exact ⟨.ref ad, g1, rfl, rfl, d, _, v, rfl, k.1, by simp [List.lookup], q v F H (Sub.rfl' F) r o⟩
/-- isinstance(e, c) -/
theorem ex_isED {ad d C : Addr} {fs : List (Str × V)} {i j : Nat} {c : V} {cv : Value} {b : Bool} (hs : ε[i]? = some (some (.v (.ref ad)))) (h1 : At L j (.raw d (.xd fs))) (hc : ClsV c cv) (hk : PySem.W.kitOne B.K (.ref C) cv = some b) : EX B (tCB (rIsED B.K C ad (.ref C) (some d)) (tCons (tVar i) (tCons (tC c) tNil))) ε L (.d (.bool b)) L := fun F σ H r Q q => by
  obtain ⟨s, g1, y, rfl, g2⟩ := r.sl i _ hs
  have e : y = .ref ad := g2
  subst e
  exact ⟨.ref ad, g1, d, c, cv, b, fs, rfl, rfl, rfl, hc, (r.own _ (List.mem_of_getElem? h1.get)).1, hk, q _ F H (Sub.rfl' F) r (.bl b)⟩
/-- a row of classes -/
def tRefs : List Addr → TA
  | [] => tNil
  | c :: cs => tCons (tC (.ref c)) (tRefs cs)
theorem refs_run : ∀ (cs : List Addr) (σ : St) (H : Hp) (Q : List V → Hp → Prop), Q (cs.map V.ref) H → tRefs cs σ H Q
  | [], _, _, _, h => h
  | c :: cs, σ, H, Q, h => refs_run cs σ H (fun vs H1 => Q (.ref c :: vs) H1) h
theorem clsV_refs : ∀ cs : List Addr, PySem.Paired ClsV (cs.map V.ref) (cs.map Value.ref)
  | [] => .nil
  | c :: cs => .cons (.own c) (clsV_refs cs)
theorem ex_isEDT {ad d C : Addr} {fs : List (Str × V)} {i j : Nat} {b : Bool} (cs : List Addr) (hs : ε[i]? = some (some (.v (.ref ad)))) (h1 : At L j (.raw d (.xd fs))) (hl : cs.length ≤ 100000) (hk : PySem.W.kitAny B.K (.ref C) (cs.map Value.ref) = some b) :
    EX B (tCB (rIsEDT B.K C ad (.ref C) (some d)) (tCons (tVar i) (tCons (tTup (tRefs cs)) tNil))) ε L (.d (.bool b)) L := fun F σ H r Q q => by
  obtain ⟨s, g1, y, rfl, g2⟩ := r.sl i _ hs
  have e : y = .ref ad := g2
  subst e
  refine ⟨.ref ad, g1, refs_run cs σ H _ ⟨?_, fun p hp => ?_⟩⟩
  · have : cs.length ≤ sizeLine := by rw [sizeLine_eq]; omega
    rw [List.length_map]; exact this
  · have r1 := r.heap (sub_fresh (o := .tup (cs.map V.ref)) hp)
    exact ⟨d, p, cs.map V.ref, cs.map Value.ref, b, fs, rfl, rfl, rfl, upd_same, clsV_refs cs, (r1.own _ (List.mem_of_getElem? h1.get)).1, hk, q _ F _ (Sub.rfl' F) r1 (.bl b)⟩
end
end
/-! ### defs that may raise, called -/
structure DfX (P : Program) (w : World) (K : PySem.W.Frag) (mg : Str → Option Value) (base : Heap) (k : Nat) (x : Str) (ps : List Str) (sp : Sp) : Prop where
  ex : ∃ f fd, FnOk P w K mg base (L2.CX P w) k f fd ps sp ∧ mg x = some (.ref f) ∧ PySem.W.keepIn K (.ref f) = true ∧ Binds K fd ps []
structure DfXK (P : Program) (w : World) (K : PySem.W.Frag) (mg : Str → Option Value) (base : Heap) (k : Nat) (x : Str) (ps ks : List Str) (g : List Value → List Value → List Value) (gV : List V → List V → List V) (sp : Sp) : Prop where
  ex : ∃ f fd, FnOk P w K mg base (L2.CX P w) k f fd ps sp ∧ mg x = some (.ref f) ∧ PySem.W.keepIn K (.ref f) = true ∧ KBinds K fd ps ks g gV
theorem DfX.mk' {P : Program} {w : World} {K : PySem.W.Frag} {mg : Str → Option Value} {base : Heap} {k : Nat} {x : Str} {ps : List Str} {sp : Sp} {f : Addr} {fd : FuncData} (F : FnOk P w K mg base (L2.CX P w) k f fd ps sp) (m : mg x = some (.ref f)) (kp : PySem.W.keepIn K (.ref f) = true) (b : Binds K fd ps []) : DfX P w K mg base k x ps sp := ⟨f, fd, F, m, kp, b⟩
section
variable {X : Cx} {k : Nat} {x : Str} {ps ks : List Str} {sp : Sp} {p pos : Pos} {e : Expr} {es : List Expr} {kws : List Keyword} {t tk : TA} {g : List Value → List Value → List Value} {gV : List V → List V → List V} {W : L2.WX}
theorem pe_callX (C : DfX X.prog X.w X.K X.mg X.base k x ps sp) (hr : Room k X.A) (tw : Takes X W) (hg : Gl X x) (ha : PA X (e :: es) t) (hdb : (x == ("__debug__" : Str)) = false := by decide)
    (he : starEach (e :: es) X.env = (false, eval e X.env) :: starEach es X.env := by rfl) (hpl : (backTo pos (starEach es X.env)).any (·.1) = false := by rfl) : PE X (.Call (.Name x p) (e :: es) [] pos) (tCallS sp (WE W) t) := by
  obtain ⟨f, fd, F, m, kp, b⟩ := C.ex
  exact pe_callS F hr hg m kp b (fun σ => passAt tw σ) ha hdb he hpl
theorem run_fnkS {pins : List (Addr × Obj)} {σ : St} {H : Hp} {s : Shared} {Q : VK} {us ws : List Value} {vs zs : List V} {CX : CXT} {f : Addr} {fd : FuncData} {E : XK} (F : FnOk X.prog X.w X.K X.mg X.base CX k f fd ps sp) (hr : Room k X.A) (hb : KBinds X.K fd ps ks g gV) (hx : PassesAt CX X σ E)
    (I : Inv X pins σ H s) (r : Vals vs us) (rz : Vals zs ws) (h : sp (gV vs zs) H Q E) : wpAny (model X.prog X.w) X.A (call (.ref f) us (ks.zip ws)) (EP X pins σ Q) X.xe s := by
  have r2 := hb.rel r rz
  have hl : (g us ws).length = ps.length := by rw [← r2.length]; exact F.len _ _ _ _ h
  refine wpAny_call (codeAny_mono (F.run X.A X.stack s H ⟨us, ks.zip ws⟩ (g us ws) (gV vs zs) Q E hr I.env0 (hb.to s us ws I.kIn hl) r2 h) fun r s' hq => ?_)
  cases r with
  | error e => exact hx pins H s e s' I hq
  | ok fl =>
    cases fl with
    | ret u => exact I.after hq
    | next => exact False.elim hq
    | brk => exact False.elim hq
    | cont => exact False.elim hq
theorem pe_callKX (C : DfXK X.prog X.w X.K X.mg X.base k x ps ks g gV sp) (hr : Room k X.A) (tw : Takes X W) (hg : Gl X x) (hkw : PK X kws tk) (hall : (backToKw pos (keywordEach kws X.env)).all (·.1.isSome) = true := by rfl)
    (hks : (backToKw pos (keywordEach kws X.env)).filterMap (·.1) = ks := by rfl) (hdb : (x == ("__debug__" : Str)) = false := by decide)
    (hpl : ((backTo pos (starEach [] X.env)).any (·.1) || (backToKw pos (keywordEach kws X.env)).any (·.1.isNone)) = false := by rfl) : PE X (.Call (.Name x p) [] kws pos) (tCallKS sp gV (WE W) tNil tk) := by
  obtain ⟨f, fd, F, m, kp, b⟩ := C.ex
  refine ⟨fun pins s σ H Q I h => ?_⟩
  refine wpAny_Call_Name_kw (ld_glob I hg m ?_ hdb)
  refine PySem.W.callWith_KW0 (h₀ := X.base) I.ok.mod.kin kp hall (thn (hkw.run pos pins s σ H _ I h) fun ws s2 ⟨zs, H2, I2, rz, q2⟩ => ⟨I2.kIn, ?_⟩) hpl
  rw [hks]
  exact run_fnkS F hr b (passAt tw σ) I2 .nil rz q2
variable {n : Str} {c : Value} {i : Nat} {body suite : List Stmt} {b₀ : Stmt} {np pos' : Pos} {Wout : L2.WX}
/-- try: body / except x as n: suite; the wishes of both carried along -/
theorem ps_try_asT (hs : X.stack = X.env :: X.outer) (hf : X.env.frame = some X.env.locals) (hN : X.N.Nodup) (hi : X.N[i]? = some n) (hln : X.env.kindOf n = some .local) (hc : Names X x c) (tk : Takes X Wout)
    (hb : (W : L2.WX) → {t : TS // ∀ (pn : List (Addr × Obj)) (xe : Value → Shared → Prop), Takes (X.tr pn xe) W → PassesOwn (model X.prog X.w) X.A X.env xe → PSs (X.tr pn xe) body t})
    (hsu : (a : Addr) → (cls : Value) → (d : Option Addr) → {t : TS // ∀ (oe : Obj) (pn : List (Addr × Obj)), Zc cls d oe → (∃ vs, oe.data = .fields vs) → PSs (X.suite a ((a, oe) :: pn)) (b₀ :: suite) t}) :
    PS X (.Try body [.ExceptHandler (some (.Name x np)) (some n) (b₀ :: suite) pos'] [] [] pos) (fun D σ H => (hb (wAs X.K c i (fun a cls d => (hsu a cls d).1) Wout D)).1 D σ H) :=
  ps_try_as (tb := fun W => (hb W).1) (ts := fun a cls d => (hsu a cls d).1) hs hf hN hi hln hc tk (fun W pn xe t p => (hb W).2 pn xe t p) (fun a oe cls d pn z f => (hsu a cls d).2 oe pn z f)
end
section
variable {X : Cx} {K : PySem.W.Frag} {T id : String} {name : Str} {r : V → List V → Hp → VK → Prop} {o e : Expr} {es : List Expr} {to : TE} {t : TA} {apos cpos : Pos}
/-- a method's call, the written part named -/
theorem pe_bmK (hK : X.K = K) (pa : PlainAttrs T) (slot : Slot T name id) (hty : typeOf (.builtin id) = pure (.type "method_descriptor")) (hm : MtR X id r) (ho : PE X o to) (ha : PA X (e :: es) t)
    (hbase : attributeBase o name X.env (eval o X.env) = eval o X.env := by rfl)
    (hfew : ((backTo cpos (starEach (e :: es) X.env)).all (fun x => !x.1) && (backToKw cpos (keywordEach [] X.env)).all (fun x => x.1.isSome)
      && decide ((e :: es).length + ([] : List Keyword).length + (if ([] : List Keyword).isEmpty then 0 else 1) < 30)) = true := by rfl)
    (hline : (apos.endLine == cpos.line) = true := by rfl) (hs : starEach (e :: es) X.env = (false, eval e X.env) :: starEach es X.env := by rfl) (hplain : (backTo cpos (starEach es X.env)).any (·.1) = false := by rfl) :
    PE X (.Call (.Attribute o name apos) (e :: es) [] cpos) (tBM K T r to t) := by
  subst hK
  exact pe_bm pa slot hty hm ho ha hbase hfew hline hs hplain
end
end Fz

/-! ## K80N -/
set_option autoImplicit false
set_option linter.all false
/-! K80N: mirrors of the program's defs. -/
namespace K80
open PySem L2 Fz
theorem cmul {i j : Int} {a b : Nat} (ha : Bd a i) (hb : Bd b j) (h : a + b ≤ 900000) : CMulW i j :=
  wide_mul (a := a + 1) (b := b + 1) (ha.mono (Nat.le_succ a)) (hb.mono (Nat.le_succ b)) (Nat.succ_pos _) (Nat.succ_pos _) (by omega)
theorem cdiv {i j : Int} {b : Nat} (h : 0 < j) (hb : Bd b j) (h9 : b ≤ 8000) : CDivW i j := wide_div (b := b + 1) h (hb.mono (Nat.le_succ b)) (Nat.succ_pos _) (by omega)
def ti (l : List Int) : PyData := .tuple (l.map PyData.int)
def li (l : List Int) : PyData := .list (l.map PyData.int)
theorem at_ints {l : List Int} {i : Nat} (h : i < l.length) : atI (l.map PyData.int) (i : Int) = some (.int (l.getD i 0)) := by
  refine atI_nat ?_
  rw [List.getElem?_map, List.getElem?_eq_getElem h, List.getD_eq_getElem?_getD, List.getElem?_eq_getElem h]
  rfl
theorem at_intsZ {l : List Int} {j : Int} (h0 : 0 ≤ j) (h : j < l.length) : atI (l.map PyData.int) j = some (.int (l.getD j.toNat 0)) := by
  have e : j = ((j.toNat : Nat) : Int) := by omega
  rw [e]
  exact at_ints (by omega)
/-- a fraction in least terms -/
def frD (t b : Int) : PyData := .tuple [.int (t / (Int.gcd t b : Int)), .int (b / (Int.gcd t b : Int))]
def fallsN (l : List Int) : Nat := ((List.range (l.length - 1)).filter fun i => decide (l.getD (i + 1) 0 < l.getD i 0)).length
theorem fallsN_le (l : List Int) : fallsN l ≤ l.length - 1 := by
  unfold fallsN
  refine Nat.le_trans (List.length_filter_le _ _) ?_
  rw [List.length_range]; exact Nat.le_refl _
def stepRow (row : List Int) (many : Nat) : List Int := (List.range many).map fun d => (if d < many - 1 then row.getD d 0 * ((d : Int) + 1) else 0) + (if 0 < d then row.getD (d - 1) 0 * ((many : Int) - d) else 0)
def rowAt : Nat → List Int
  | 0 => [1]
  | k + 1 => stepRow (rowAt k) (k + 2)
theorem rowAt_len : ∀ k, (rowAt k).length = k + 1
  | 0 => rfl
  | k + 1 => by unfold rowAt stepRow; rw [List.length_map, List.length_range]
theorem getD_map_range {f : Nat → Int} {n i : Nat} (h : i < n) : ((List.range n).map f).getD i 0 = f i := by
  rw [List.getD_eq_getElem?_getD, List.getElem?_map, List.getElem?_range h]; rfl
theorem getD_out {l : List Int} {i : Nat} (h : l.length ≤ i) : l.getD i 0 = 0 := by
  rw [List.getD_eq_getElem?_getD, List.getElem?_eq_none h]; rfl
theorem rowAt_bd : ∀ k, k ≤ 100 → ∀ i, Bd (9 * k + 1) ((rowAt k).getD i 0)
  | 0, _, i => by
    unfold rowAt Bd
    cases i with
    | zero => decide
    | succ i => exact bd_zero 1
  | k + 1, hk, i => by
    by_cases hi : i < k + 2
    · unfold rowAt stepRow
      rw [getD_map_range hi]
      have ih := rowAt_bd k (by omega)
      have b1 : Bd (9 * k + 1 + 7) (if i < k + 2 - 1 then (rowAt k).getD i 0 * ((i : Int) + 1) else 0) := by
        split
        · exact (ih i).mul (Bd.of (n := 103) (by omega) (by omega) (by decide))
        · exact bd_zero _
      have b2 : Bd (9 * k + 1 + 7) (if 0 < i then (rowAt k).getD (i - 1) 0 * (((k + 2 : Nat) : Int) - i) else 0) := by
        split
        · exact (ih _).mul (Bd.of (n := 103) (by omega) (by omega) (by decide))
        · exact bd_zero _
      exact (b1.add b2).mono (by omega)
    · rw [getD_out (by rw [rowAt_len]; omega)]
      exact bd_zero _
def cofRow (n : Nat) : List Int := rowAt (n - 1)
/-- the differences of the first d numbers of falls, together -/
def farS (n : Nat) (p : Int) : Nat → Int
  | 0 => 0
  | d + 1 => farS n p d + (cofRow n).getD d 0 * (((dealtBy p n (d : Int) * (fac n : Int) - p ^ n).natAbs : Nat) : Int)
def farT (n : Nat) (p : Int) : Int := farS n p (cofRow n).length
theorem shift_bd {p : Int} (hp : Bd 410 p) {d : Int} (hd : 0 ≤ d ∧ d ≤ 60) : ∀ i : Nat, i < 64 → Bd 411 (p - d + i) := fun i hi => by
  have h2 : Bd 410 ((i : Int) - d) := (Bd.of (k := 7) (n := 127) (by omega) (by omega) (by decide)).mono (by decide)
  have e : p - d + i = p + ((i : Int) - d) := by omega
  rw [e]
  exact hp.add h2
theorem prod_bd {p : Int} (hp : Bd 410 p) {d : Int} (hd : 0 ≤ d ∧ d ≤ 60) {n : Nat} (hn : n ≤ 60) : Bd 25000 (prodF (p - d) n) := (prodF_bd (shift_bd hp hd) n (by omega)).mono (by omega)
theorem dealt_bd {p : Int} (hp : Bd 410 p) {d : Int} (hd : 0 ≤ d ∧ d ≤ 60) {n : Nat} (hn : n ≤ 60) : Bd 25000 (dealtBy p n d) := (prod_bd hp hd hn).div
theorem fac_bd' {n : Nat} (hn : n ≤ 60) : Bd 400 (fac n : Int) := (fac_bd n (by omega)).mono (by omega)
theorem pow_bd' {p : Int} (hp : Bd 410 p) {n : Nat} (hn : n ≤ 60) : Bd 25000 (p ^ n) := (hp.pow n).mono (by omega)
theorem diff_bd {p : Int} (hp : Bd 410 p) {d : Int} (hd : 0 ≤ d ∧ d ≤ 60) {n : Nat} (hn : n ≤ 60) : Bd 26000 (dealtBy p n d * (fac n : Int) - p ^ n) :=
  (((dealt_bd hp hd hn).mul (fac_bd' hn)).sub ((pow_bd' hp hn).mono (by decide))).mono (by decide)
theorem row_bd {n : Nat} (hn : n ≤ 60) (i : Nat) : Bd 600 ((cofRow n).getD i 0) := (rowAt_bd (n - 1) (by omega) i).mono (by omega)
theorem cof_len (n : Nat) : (cofRow n).length = n - 1 + 1 := rowAt_len _
theorem farS_bd {p : Int} (hp : Bd 410 p) {n : Nat} (hn : n ≤ 60) : ∀ d, d ≤ 60 → Bd (27000 + d) (farS n p d)
  | 0, _ => bd_zero _
  | d + 1, h => by
    unfold farS
    exact (farS_bd hp hn d (by omega)).add (((row_bd hn d).mul (diff_bd hp (d := (d : Int)) (by omega) hn).abs).mono (by omega))
theorem farT_bd {p : Int} (hp : Bd 410 p) {n : Nat} (hn : n ≤ 60) : Bd 28000 (farT n p) := (farS_bd hp hn _ (by rw [cof_len]; omega)).mono (by rw [cof_len]; omega)
end K80
namespace K80
open PySem L2 Fz
/-- the fraction's test is the test of what it comes from -/
theorem less_red {a b t l : Int} (hl : 0 < l) : (a * (l / (Int.gcd t l : Int)) < t / (Int.gcd t l : Int) * b) ↔ a * l < t * b := by
  have hg : (0 : Int) < (Int.gcd t l : Int) := by
    have : 0 < Int.gcd t l := Int.gcd_pos_of_ne_zero_right t (by omega)
    omega
  have e1 : l = l / (Int.gcd t l : Int) * (Int.gcd t l : Int) := (Int.ediv_mul_cancel (Int.gcd_dvd_right t l)).symm
  have e2 : t = t / (Int.gcd t l : Int) * (Int.gcd t l : Int) := (Int.ediv_mul_cancel (Int.gcd_dvd_left t l)).symm
  generalize l / (Int.gcd t l : Int) = l' at *
  generalize t / (Int.gcd t l : Int) = t' at *
  generalize (Int.gcd t l : Int) = g at *
  subst e1 e2
  rw [← Int.mul_assoc, show t' * g * b = t' * b * g by rw [Int.mul_assoc, Int.mul_comm g, Int.mul_assoc]]
  exact ⟨fun h => Int.mul_lt_mul_of_pos_right h hg, fun h => Int.lt_of_mul_lt_mul_right h (Int.le_of_lt hg)⟩
def farL (n : Nat) (p : Int) : Int := 2 * p ^ n * (fac n : Int)
theorem farL_pos {n : Nat} {p : Int} (h : 0 < p) : 0 < farL n p := by
  have h1 : 0 < p ^ n := Int.pow_pos h
  have h2 := fac_pos n
  unfold farL
  exact Int.mul_pos (Int.mul_pos (by decide) h1) (by omega)
theorem farL_bd {p : Int} (hp : Bd 410 p) {n : Nat} (hn : n ≤ 60) : Bd 28000 (farL n p) :=
  ((((Bd.of (k := 2) (x := 2) (n := 3) (by decide) (by decide) (by decide)).mul (pow_bd' hp hn)).mul (fac_bd' hn)).mono (by decide))
def fewT (n : Nat) (p a b : Int) (m : Nat) : Bool := decide (farT n (p ^ m) * b ≤ a * farL n (p ^ m))
def fewM (n : Nat) (p a b : Int) : Option Nat := (List.range 21).find? (fewT n p a b)
def optD : Option Nat → PyData
  | none => .none
  | some m => .int m
theorem find_at {f : Nat → Bool} {n i : Nat} (h : i < n) (h1 : f i = true) (h2 : ∀ j, j < i → f j = false) : (List.range n).find? f = some i := by
  induction n with
  | zero => omega
  | succ n ih =>
    rw [List.range_succ, List.find?_append]
    by_cases e : i < n
    · rw [ih e]; rfl
    · have ei : i = n := by omega
      subst ei
      have : (List.range i).find? f = none := List.find?_eq_none.mpr fun x hx => by
        rw [h2 x (List.mem_range.mp hx)]; exact Bool.false_ne_true
      rw [this]
      show [i].find? f = some i
      rw [List.find?_cons_of_pos h1]
theorem find_no {f : Nat → Bool} {n : Nat} (h2 : ∀ j, j < n → f j = false) : (List.range n).find? f = none := List.find?_eq_none.mpr fun x hx => by
  rw [h2 x (List.mem_range.mp hx)]; exact Bool.false_ne_true
end K80

/-! ## WM -/
/-! WM: ways: reduction, the rows of sums along a way. Plain mathematics. -/
set_option autoImplicit false
set_option linter.all false
namespace Ways
abbrev Way := List (Int × Int)
/-- one step laid behind what is left -/
def stepW (f : Way) (x : Int × Int) : Way :=
  match f.getLast? with
  | some y => if y.1 = x.1 then (if x.2 + y.2 = 0 then f.dropLast else f.dropLast ++ [(x.1, x.2 + y.2)]) else (if x.2 = 0 then f else f ++ [x])
  | none => if x.2 = 0 then f else f ++ [x]
def redW (w : Way) : Way := w.foldl stepW []
def negW (x : Int × Int) : Int × Int := (x.1, -x.2)
def backW (w : Way) : Way := (w.map negW).reverse
/-- no length 0, no like letters side by side; the last letter stands at the list's end -/
inductive Red : Way → Prop
  | nil : Red []
  | one {x : Int × Int} : x.2 ≠ 0 → Red [x]
  | snoc {f : Way} {y x : Int × Int} : Red (f ++ [y]) → x.2 ≠ 0 → y.1 ≠ x.1 → Red (f ++ [y] ++ [x])
theorem Red.init {f : Way} {x : Int × Int} (h : Red (f ++ [x])) : Red f := by
  generalize e : f ++ [x] = g at h
  cases h with
  | nil => exact absurd e (by simp)
  | @one z hz =>
    have : f = [] := by
      cases f with
      | nil => rfl
      | cons a t => simp at e
    rw [this]; exact .nil
  | @snoc f' y z h1 h2 h3 =>
    have := List.append_inj' e rfl
    rw [this.1]; exact h1
theorem Red.last {f : Way} {x : Int × Int} (h : Red (f ++ [x])) : x.2 ≠ 0 := by
  generalize e : f ++ [x] = g at h
  cases h with
  | nil => exact absurd e (by simp)
  | @one z hz =>
    cases f with
    | nil => simp at e; rw [e]; exact hz
    | cons a t => simp at e
  | @snoc f' y z h1 h2 h3 =>
    have := List.append_inj' e rfl
    have e2 : x = z := by simpa using this.2
    rw [e2]; exact h2
theorem Red.apart {f : Way} {y x : Int × Int} (h : Red (f ++ [y] ++ [x])) : y.1 ≠ x.1 := by
  generalize e : f ++ [y] ++ [x] = g at h
  cases h with
  | nil => exact absurd e (by simp)
  | @one z hz => exact absurd (congrArg List.length e) (by simp)
  | @snoc f' y' z h1 h2 h3 =>
    have := List.append_inj' e rfl
    have e2 : x = z := by simpa using this.2
    have := List.append_inj' this.1 rfl
    have e3 : y = y' := by simpa using this.2
    rw [e2, e3]; exact h3
/-- every way is empty or has a last step -/
theorem snoc_cases (f : Way) : f = [] ∨ ∃ g y, f = g ++ [y] := by
  cases h : f.getLast? with
  | none => exact .inl (List.getLast?_eq_none_iff.mp h)
  | some y =>
    obtain ⟨g, e⟩ := List.getLast?_eq_some_iff.mp h
    exact .inr ⟨g, y, e⟩
theorem step_nil (x : Int × Int) : stepW [] x = if x.2 = 0 then [] else [x] := rfl
theorem step_snoc (g : Way) (y x : Int × Int) : stepW (g ++ [y]) x = if y.1 = x.1 then (if x.2 + y.2 = 0 then g else g ++ [(x.1, x.2 + y.2)]) else (if x.2 = 0 then g ++ [y] else g ++ [y] ++ [x]) := by
  unfold stepW
  rw [List.getLast?_append, List.getLast?_singleton]
  show (if y.1 = x.1 then (if x.2 + y.2 = 0 then (g ++ [y]).dropLast else (g ++ [y]).dropLast ++ [(x.1, x.2 + y.2)]) else (if x.2 = 0 then g ++ [y] else g ++ [y] ++ [x])) = _
  rw [List.dropLast_concat]
theorem red_step {f : Way} (h : Red f) (x : Int × Int) : Red (stepW f x) := by
  rcases snoc_cases f with rfl | ⟨g, y, rfl⟩
  · rw [step_nil]
    split
    · exact .nil
    · exact .one (by assumption)
  · rw [step_snoc]
    split
    · rename_i e
      split
      · exact h.init
      · rename_i n0
        rcases snoc_cases g with rfl | ⟨g', z, rfl⟩
        · exact .one n0
        · exact .snoc h.init n0 (by rw [← e]; exact h.apart)
    · rename_i e
      split
      · exact h
      · exact .snoc h (by assumption) e
theorem red_fold (w : Way) : ∀ {f : Way}, Red f → Red (w.foldl stepW f) := by
  induction w with
  | nil => exact fun h => h
  | cons x w ih => exact fun h => ih (red_step h x)
theorem red_red (w : Way) : Red (redW w) := red_fold w .nil
/-- a step and the way back -/
theorem step_back {f : Way} (h : Red f) (x : Int × Int) : stepW (stepW f (negW x)) x = f := by
  obtain ⟨l, n⟩ := x
  rcases snoc_cases f with rfl | ⟨g, y, rfl⟩
  · rw [step_nil]
    by_cases c : n = 0
    · rw [if_pos (by show -n = 0; omega), step_nil, if_pos c]
    · rw [if_neg (by show ¬ -n = 0; omega)]
      have := step_snoc [] (negW (l, n)) (l, n)
      rw [List.nil_append] at this
      rw [this, if_pos (show (negW (l, n)).1 = (l, n).1 from rfl), if_pos (by show n + -n = 0; omega)]
  · obtain ⟨m, k⟩ := y
    rw [step_snoc]
    by_cases e : m = l
    · subst e
      rw [if_pos (show (m, k).1 = (negW (m, n)).1 from rfl)]
      have hk := h.last
      by_cases c : -n + k = 0
      · rw [if_pos (by show -n + k = 0; exact c)]
        have en : n = k := by omega
        subst en
        rcases snoc_cases g with rfl | ⟨g', z, rfl⟩
        · rw [step_nil, if_neg hk]; rfl
        · rw [step_snoc, if_neg h.apart, if_neg hk]
      · rw [if_neg (by show ¬ -n + k = 0; exact c), step_snoc, if_pos (show ((negW (m, n)).1, (negW (m, n)).2 + (m, k).2).1 = (m, n).1 from rfl), if_neg (by show ¬ n + (-n + k) = 0; have : k ≠ 0 := hk; omega)]
        have e2 : n + (-n + k) = k := by omega
        show g ++ [(m, n + (-n + k))] = _
        rw [e2]
    · rw [if_neg (by show ¬ m = l; exact e)]
      by_cases c : n = 0
      · rw [if_pos (by show -n = 0; omega), step_snoc, if_neg e, if_pos c]
      · rw [if_neg (by show ¬ -n = 0; omega), step_snoc, if_pos (show (negW (l, n)).1 = (l, n).1 from rfl), if_pos (by show n + -n = 0; omega)]
theorem back_cons (x : Int × Int) (w : Way) : backW (x :: w) = backW w ++ [negW x] := by unfold backW; rw [List.map_cons, List.reverse_cons]
theorem neg_neg (x : Int × Int) : negW (negW x) = x := by unfold negW; simp
theorem back_back (w : Way) : backW (backW w) = w := by
  unfold backW
  rw [List.map_reverse, List.reverse_reverse, List.map_map]
  have : (negW ∘ negW) = id := by funext x; exact neg_neg x
  rw [this, List.map_id]
theorem fold_back (w : Way) : ∀ {f : Way}, Red f → (backW w ++ w).foldl stepW f = f := by
  induction w with
  | nil => exact fun _ => rfl
  | cons x w ih =>
    intro f h
    rw [back_cons, List.foldl_append, List.foldl_append]
    show w.foldl stepW (stepW (stepW ((backW w).foldl stepW f) (negW x)) x) = f
    rw [step_back (red_fold _ h) x, ← List.foldl_append]
    exact ih h
theorem red_app (a b : Way) : redW (a ++ b) = b.foldl stepW (redW a) := List.foldl_append ..
theorem red_nil_same {a b : Way} (h : redW (a ++ backW b) = []) : redW a = redW b := by
  have h1 : redW (a ++ backW b ++ b) = redW b := by rw [red_app, h]; rfl
  have h2 : redW (a ++ backW b ++ b) = redW a := by rw [List.append_assoc, red_app]; exact fold_back b (red_red a)
  rw [← h2, h1]
theorem red_fold_red {f : Way} (h : Red f) : f.foldl stepW [] = f := by
  induction h with
  | nil => rfl
  | @one x hx => show stepW [] x = [x]; rw [step_nil, if_neg hx]
  | @snoc f y x h1 h2 h3 ih => rw [List.foldl_append, ih]; show stepW (f ++ [y]) x = _; rw [step_snoc, if_neg h3, if_neg h2]
theorem red_twice (w : Way) : redW (redW w) = redW w := red_fold_red (red_red w)
theorem red_same_nil {a b : Way} (h : redW a = redW b) : redW (a ++ backW b) = [] := by
  rw [red_app, h, ← red_app]
  have e : redW (b ++ backW b) = (backW (backW b) ++ backW b).foldl stepW [] := by rw [back_back]; rfl
  rw [e]
  exact fold_back (backW b) .nil
/-- all lengths together -/
def tot : Way → Nat
  | [] => 0
  | x :: w => x.2.natAbs + tot w
theorem tot_app (a b : Way) : tot (a ++ b) = tot a + tot b := by
  induction a with
  | nil => show tot b = 0 + tot b; omega
  | cons x a ih => show x.2.natAbs + tot (a ++ b) = x.2.natAbs + tot a + tot b; omega
theorem tot_step (f : Way) (x : Int × Int) : tot (stepW f x) ≤ tot f + x.2.natAbs ∧ (stepW f x).length ≤ f.length + 1 := by
  rcases snoc_cases f with rfl | ⟨g, y, rfl⟩
  · rw [step_nil]; split <;> simp [tot]
  · rw [step_snoc]
    split
    · split
      · rw [tot_app]; simp [tot]; omega
      · rw [tot_app, tot_app]; simp [tot]; omega
    · split
      · simp
      · rw [tot_app]; simp [tot]
theorem tot_fold (w : Way) : ∀ f : Way, tot (w.foldl stepW f) ≤ tot f + tot w ∧ (w.foldl stepW f).length ≤ f.length + w.length := by
  induction w with
  | nil => exact fun f => ⟨Nat.le_refl _, Nat.le_refl _⟩
  | cons x w ih =>
    intro f
    have h1 := ih (stepW f x)
    have h2 := tot_step f x
    show tot (w.foldl stepW (stepW f x)) ≤ tot f + (x.2.natAbs + tot w) ∧ (w.foldl stepW (stepW f x)).length ≤ f.length + (w.length + 1)
    omega
theorem tot_red (w : Way) : tot (redW w) ≤ tot w ∧ (redW w).length ≤ w.length := by
  have := tot_fold w []
  have e : tot [] = 0 := rfl
  unfold redW
  simp only [List.length_nil] at this
  omega
end Ways

/-! ## WR -/
set_option autoImplicit false
set_option linter.all false
/-! WR: sums along a way: the rows, an operator for each step. -/
namespace Ways
open K80
def sm (f : Nat → Int) : Nat → Int
  | 0 => 0
  | n + 1 => sm f n + f n
theorem sm_congr {f g : Nat → Int} : ∀ {n : Nat}, (∀ i, i < n → f i = g i) → sm f n = sm g n
  | 0, _ => rfl
  | n + 1, h => by unfold sm; rw [sm_congr fun i hi => h i (by omega), h n (by omega)]
theorem sm_add (f g : Nat → Int) : ∀ n, sm (fun i => f i + g i) n = sm f n + sm g n
  | 0 => rfl
  | n + 1 => by unfold sm; rw [sm_add f g n]; omega
theorem sm_mul (c : Int) (f : Nat → Int) : ∀ n, sm (fun i => c * f i) n = c * sm f n
  | 0 => by unfold sm; simp
  | n + 1 => by unfold sm; rw [sm_mul c f n, Int.mul_add]
theorem sm_zero {f : Nat → Int} : ∀ {n : Nat}, (∀ i, i < n → f i = 0) → sm f n = 0
  | 0, _ => rfl
  | n + 1, h => by unfold sm; rw [sm_zero fun i hi => h i (by omega), h n (by omega)]; rfl
theorem sm_shift (f : Nat → Int) : ∀ n, sm f (n + 1) = f 0 + sm (fun i => f (i + 1)) n
  | 0 => by unfold sm sm; omega
  | n + 1 => by
    have h := sm_shift f n
    show sm f (n + 1) + f (n + 1) = f 0 + (sm (fun i => f (i + 1)) n + f (n + 1))
    rw [h]
    omega
/-- over a triangle, either way -/
theorem sm_tri (F : Nat → Nat → Int) : ∀ p : Nat, sm (fun j => sm (F j) (p - j + 1)) (p + 1) = sm (fun n => sm (fun j => F j (n - j)) (n + 1)) (p + 1)
  | 0 => by unfold sm sm sm; rfl
  | p + 1 => by
    have ih := sm_tri F p
    have e1 : sm (fun j => sm (F j) (p + 1 - j + 1)) (p + 1) = sm (fun j => sm (F j) (p - j + 1)) (p + 1) + sm (fun j => F j (p + 1 - j)) (p + 1) := by
      rw [← sm_add]
      refine sm_congr fun j hj => ?_
      have e : p + 1 - j + 1 = (p - j + 1) + 1 := by omega
      have e2 : p - j + 1 = p + 1 - j := by omega
      rw [e]
      show sm (F j) (p - j + 1) + F j (p - j + 1) = _
      rw [e2]
    show sm (fun j => sm (F j) (p + 1 - j + 1)) (p + 1) + sm (F (p + 1)) (p + 1 - (p + 1) + 1) = sm (fun n => sm (fun j => F j (n - j)) (n + 1)) (p + 1) + (sm (fun j => F j (p + 1 - j)) (p + 1) + F (p + 1) (p + 1 - (p + 1)))
    rw [e1, ih, Nat.sub_self]
    show _ + (0 + F (p + 1) 0) = _
    omega
theorem ch_self : ∀ n, ch n n = 1
  | 0 => rfl
  | n + 1 => by rw [ch_succ, ch_self n, ch_zero (by omega)]
theorem ch_fac : ∀ a b : Nat, ch (a + b) b * (fac a * fac b) = fac (a + b)
  | a, 0 => by rw [ch_n0]; show 1 * (fac a * 1) = fac a; omega
  | a, b + 1 => by
    have h := ch_absorb (a + b) b
    have ih := ch_fac a b
    show ch (a + b + 1) (b + 1) * (fac a * fac (b + 1)) = fac (a + b + 1)
    rw [fac_succ b, fac_succ (a + b)]
    calc ch (a + b + 1) (b + 1) * (fac a * (fac b * (b + 1))) = (ch (a + b + 1) (b + 1) * (b + 1)) * (fac a * fac b) := by
          rw [← Nat.mul_assoc (fac a), Nat.mul_comm (fac a * fac b) (b + 1), ← Nat.mul_assoc]
      _ = (ch (a + b) b * (a + b + 1)) * (fac a * fac b) := by rw [h]
      _ = (ch (a + b) b * (fac a * fac b)) * (a + b + 1) := by rw [Nat.mul_assoc, Nat.mul_comm (a + b + 1), ← Nat.mul_assoc]
      _ = fac (a + b) * (a + b + 1) := by rw [ih]
/-- the parts of three -/
theorem ch_tri (a i j : Nat) : ch (a + i + j) j * ch (a + i) i = ch (a + i + j) (i + j) * ch (i + j) j := by
  have h1 := ch_fac (a + i) j
  have h2 := ch_fac a i
  have h3 := ch_fac a (i + j)
  have h4 := ch_fac i j
  have e : a + (i + j) = a + i + j := by omega
  rw [e] at h3
  have pos : 0 < fac a * fac i * fac j := Nat.mul_pos (Nat.mul_pos (fac_pos a) (fac_pos i)) (fac_pos j)
  refine Nat.eq_of_mul_eq_mul_right pos ?_
  calc ch (a + i + j) j * ch (a + i) i * (fac a * fac i * fac j) = ch (a + i + j) j * ((ch (a + i) i * (fac a * fac i)) * fac j) := by simp only [Nat.mul_assoc]
    _ = fac (a + i + j) := by rw [h2, h1]
    _ = ch (a + i + j) (i + j) * (fac a * (ch (i + j) j * (fac i * fac j))) := by rw [h4, h3]
    _ = ch (a + i + j) (i + j) * ch (i + j) j * (fac a * fac i * fac j) := by
      rw [Nat.mul_assoc (ch (a + i + j) (i + j)), ← Nat.mul_assoc (fac a), Nat.mul_comm (fac a) (ch (i + j) j), Nat.mul_assoc (ch (i + j) j), Nat.mul_assoc (fac a)]
theorem binom (a b : Int) : ∀ n : Nat, sm (fun j => (ch n j : Int) * (b ^ j * a ^ (n - j))) (n + 1) = (a + b) ^ n
  | 0 => by unfold sm sm; rw [ch_n0]; simp
  | n + 1 => by
    have ih := binom a b n
    rw [Int.pow_succ, ← ih, Int.mul_add, ← Int.mul_comm a, ← Int.mul_comm b, ← sm_mul, ← sm_mul]
    rw [sm_shift]
    have e1 : sm (fun i => (ch (n + 1) (i + 1) : Int) * (b ^ (i + 1) * a ^ (n + 1 - (i + 1)))) (n + 1) = sm (fun i => b * ((ch n i : Int) * (b ^ i * a ^ (n - i)))) (n + 1) + sm (fun i => (ch n (i + 1) : Int) * (b ^ (i + 1) * a ^ (n - i))) (n + 1) := by
      rw [← sm_add]
      refine sm_congr fun i hi => ?_
      have e : n + 1 - (i + 1) = n - i := by omega
      rw [e, ch_succ, Int.natCast_add, Int.add_mul, Int.pow_succ]
      congr 1
      rw [Int.mul_left_comm b, Int.mul_comm (b ^ i) b, Int.mul_assoc]
    have e2 : sm (fun i => a * ((ch n i : Int) * (b ^ i * a ^ (n - i)))) (n + 1) = a ^ (n + 1) + sm (fun i => (ch n (i + 1) : Int) * (b ^ (i + 1) * a ^ (n - i))) (n + 1) := by
      rw [sm_shift]
      have l : sm (fun i => (ch n (i + 1) : Int) * (b ^ (i + 1) * a ^ (n - i))) (n + 1) = sm (fun i => (ch n (i + 1) : Int) * (b ^ (i + 1) * a ^ (n - i))) n := by
        show sm _ n + (ch n (n + 1) : Int) * _ = _
        rw [ch_zero (by omega)]
        simp
      rw [l]
      congr 1
      · rw [ch_n0, Int.pow_succ, Int.mul_comm (a ^ n)]; simp
      · refine sm_congr fun i hi => ?_
        have e : n - i = (n - (i + 1)) + 1 := by omega
        have ep : a ^ (n - (i + 1) + 1) = a ^ (n - (i + 1)) * a := Int.pow_succ ..
        rw [e, ep]
        simp only [Int.mul_assoc, Int.mul_left_comm, Int.mul_comm]
    rw [e1, e2, ch_n0]
    have e3 : ((1 : Nat) : Int) * (b ^ 0 * a ^ (n + 1 - 0)) = a ^ (n + 1) := by simp
    rw [e3]
    omega
end Ways

/-! ## WS -/
set_option autoImplicit false
set_option linter.all false
/-! WS: the operator of a step, rows. -/
namespace Ways
open K80
/-- the j letters ahead of p are all l -/
def runs (word : List Int) (l : Int) (p : Nat) : Nat → Bool
  | 0 => true
  | j + 1 => runs word l p j && decide (word.getD (p - (j + 1)) 0 = l)
theorem runs_add (word : List Int) (l : Int) (p j : Nat) : ∀ i, runs word l p (j + i) = (runs word l p j && runs word l (p - j) i)
  | 0 => by unfold runs; simp
  | i + 1 => by
    show (runs word l p (j + i) && decide (word.getD (p - (j + i + 1)) 0 = l)) = (runs word l p j && (runs word l (p - j) i && decide (word.getD (p - j - (i + 1)) 0 = l)))
    have e : p - (j + i + 1) = p - j - (i + 1) := by omega
    rw [runs_add word l p j i, e, Bool.and_assoc]
def wt (word : List Int) (l s : Int) (p j : Nat) : Int := if runs word l p j = true then (ch p j : Int) * s ^ j else 0
def opT (word : List Int) (l s : Int) (r : Nat → Int) (p : Nat) : Int := sm (fun j => wt word l s p j * r (p - j)) (p + 1)
theorem op_op (word : List Int) (l a b : Int) (r : Nat → Int) (p : Nat) : opT word l b (opT word l a r) p = opT word l (a + b) r p := by
  have h1 : opT word l b (opT word l a r) p = sm (fun j => sm (fun i => wt word l b p j * (wt word l a (p - j) i * r (p - j - i))) (p - j + 1)) (p + 1) := by
    unfold opT
    refine sm_congr fun j hj => ?_
    rw [← sm_mul]
  rw [h1, sm_tri (fun j i => wt word l b p j * (wt word l a (p - j) i * r (p - j - i)))]
  unfold opT
  refine sm_congr fun n hn => ?_
  have h2 : sm (fun j => wt word l b p j * (wt word l a (p - j) (n - j) * r (p - j - (n - j)))) (n + 1) = sm (fun j => ((if runs word l p n = true then (ch p n : Int) else 0) * r (p - n)) * ((ch n j : Int) * (b ^ j * a ^ (n - j)))) (n + 1) := by
    refine sm_congr fun j hj => ?_
    have ej : p - j - (n - j) = p - n := by omega
    rw [ej]
    have er := runs_add word l p j (n - j)
    have en : j + (n - j) = n := by omega
    rw [en] at er
    have et := ch_tri (p - n) (n - j) j
    have e1 : p - n + (n - j) + j = p := by omega
    have e2 : p - n + (n - j) = p - j := by omega
    have e3 : n - j + j = n := by omega
    rw [e1, e2, e3] at et
    have et' : (ch p j : Int) * (ch (p - j) (n - j) : Int) = (ch p n : Int) * (ch n j : Int) := by rw [← Int.natCast_mul, ← Int.natCast_mul, et]
    unfold wt
    rw [er]
    cases c1 : runs word l p j with
    | false => simp
    | true =>
      cases c2 : runs word l (p - j) (n - j) with
      | false => simp
      | true =>
        simp only [Bool.and_true, if_true]
        calc (ch p j : Int) * b ^ j * ((ch (p - j) (n - j) : Int) * a ^ (n - j) * r (p - n)) = ((ch p j : Int) * (ch (p - j) (n - j) : Int)) * (b ^ j * a ^ (n - j)) * r (p - n) := by
              simp only [Int.mul_assoc, Int.mul_left_comm]
          _ = ((ch p n : Int) * (ch n j : Int)) * (b ^ j * a ^ (n - j)) * r (p - n) := by rw [et']
          _ = (ch p n : Int) * r (p - n) * ((ch n j : Int) * (b ^ j * a ^ (n - j))) := by
              simp only [Int.mul_assoc, Int.mul_left_comm, Int.mul_comm]
  rw [h2, sm_mul, binom a b n]
  unfold wt
  split
  · rw [Int.mul_assoc, Int.mul_comm (r (p - n)), ← Int.mul_assoc]
  · simp
theorem op_zero (word : List Int) (l : Int) (r : Nat → Int) (p : Nat) : opT word l 0 r p = r p := by
  unfold opT
  rw [sm_shift, sm_zero fun i hi => ?_]
  · unfold wt
    rw [if_pos (show runs word l p 0 = true from rfl), ch_n0]
    simp
  · unfold wt
    split
    · rw [Int.pow_succ]; simp
    · simp
def e0 (p : Nat) : Int := if p = 0 then 1 else 0
def rowFrom (word : List Int) (r : Nat → Int) (w : Way) : Nat → Int := w.foldl (fun r x => opT word x.1 x.2 r) r
def rowF (word : List Int) (w : Way) : Nat → Int := rowFrom word e0 w
theorem row_app (word : List Int) (r : Nat → Int) (a b : Way) : rowFrom word r (a ++ b) = rowFrom word (rowFrom word r a) b := List.foldl_append ..
theorem row_step (word : List Int) (r : Nat → Int) (f : Way) (x : Int × Int) : rowFrom word r (stepW f x) = opT word x.1 x.2 (rowFrom word r f) := by
  have hz : ∀ (l s : Int) (q : Nat → Int), s = 0 → opT word l s q = q := fun l s q h => by
    subst h; funext p; exact op_zero word l q p
  rcases snoc_cases f with rfl | ⟨g, y, rfl⟩
  · rw [step_nil]
    split
    · rw [hz _ _ _ (by assumption)]
    · rfl
  · rw [step_snoc]
    have e : rowFrom word r (g ++ [y]) = opT word y.1 y.2 (rowFrom word r g) := by rw [row_app]; rfl
    split
    · rename_i h
      have e2 : opT word x.1 x.2 (rowFrom word r (g ++ [y])) = opT word x.1 (x.2 + y.2) (rowFrom word r g) := by
        rw [e, h]
        funext p
        rw [op_op, Int.add_comm]
      rw [e2]
      split
      · rename_i h0
        rw [hz _ _ _ h0]
      · rw [row_app]; rfl
    · split
      · rename_i h0
        rw [hz _ _ _ h0]
      · rw [row_app]; rfl
theorem row_fold (word : List Int) (r : Nat → Int) (w : Way) : ∀ f : Way, rowFrom word r (w.foldl stepW f) = rowFrom word (rowFrom word r f) w := by
  induction w with
  | nil => exact fun _ => rfl
  | cons x w ih =>
    intro f
    show rowFrom word r (w.foldl stepW (stepW f x)) = rowFrom word (opT word x.1 x.2 (rowFrom word r f)) w
    rw [ih, row_step]
/-- what is left has the same sums -/
theorem row_red (word : List Int) (w : Way) : rowF word (redW w) = rowF word w := row_fold word e0 w []
theorem runs_congr {word word' : List Int} {l : Int} {p : Nat} (h : ∀ i, i < p → word.getD i 0 = word'.getD i 0) : ∀ j, j ≤ p → runs word l p j = runs word' l p j
  | 0, _ => rfl
  | j + 1, hj => by
    show (runs word l p j && _) = (runs word' l p j && _)
    rw [runs_congr h j (by omega), h (p - (j + 1)) (by omega)]
theorem op_congr {word word' : List Int} {l s : Int} {r r' : Nat → Int} {m : Nat} (h : ∀ i, i < m → word.getD i 0 = word'.getD i 0) (hr : ∀ p, p ≤ m → r p = r' p) : ∀ p, p ≤ m → opT word l s r p = opT word' l s r' p := fun p hp => by
  unfold opT
  refine sm_congr fun j hj => ?_
  rw [hr (p - j) (by omega)]
  unfold wt
  rw [runs_congr (fun i hi => h i (by omega)) j (by omega)]
theorem row_congr {word word' : List Int} {m : Nat} (h : ∀ i, i < m → word.getD i 0 = word'.getD i 0) (w : Way) : ∀ {r r' : Nat → Int}, (∀ p, p ≤ m → r p = r' p) → ∀ p, p ≤ m → rowFrom word r w p = rowFrom word' r' w p := by
  induction w with
  | nil => exact fun hr => hr
  | cons x w ih => exact fun hr => ih (op_congr h hr)
theorem row_take (word : List Int) (w : Way) {m p : Nat} (hp : p ≤ m) : rowF (word.take m) w p = rowF word w p := by
  refine row_congr (m := m) (fun i hi => ?_) w (fun _ _ => rfl) p hp
  rw [List.getD_eq_getElem?_getD, List.getD_eq_getElem?_getD, List.getElem?_take, if_pos hi]
/-! ### sizes -/
theorem sm_abs (f : Nat → Int) : ∀ n, (sm f n).natAbs ≤ (sm (fun i => ((f i).natAbs : Int)) n).natAbs ∧ 0 ≤ sm (fun i => ((f i).natAbs : Int)) n
  | 0 => ⟨Nat.le_refl _, Int.le_refl _⟩
  | n + 1 => by
    obtain ⟨h1, h2⟩ := sm_abs f n
    have := Int.natAbs_add_le (sm f n) (f n)
    show (sm f n + f n).natAbs ≤ (sm (fun i => ((f i).natAbs : Int)) n + ((f n).natAbs : Int)).natAbs ∧ 0 ≤ sm (fun i => ((f i).natAbs : Int)) n + ((f n).natAbs : Int)
    omega
theorem sm_le {f g : Nat → Int} : ∀ {n : Nat}, (∀ i, i < n → f i ≤ g i) → sm f n ≤ sm g n
  | 0, _ => Int.le_refl _
  | n + 1, h => by
    have h1 := sm_le fun i hi => h i (Nat.lt_succ_of_lt hi)
    have h2 := h n (Nat.lt_succ_self n)
    show sm f n + f n ≤ sm g n + g n
    omega
theorem op_le {word : List Int} {l s : Int} {r : Nat → Int} {t : Nat} (hr : ∀ p, (r p).natAbs ≤ t ^ p) (p : Nat) : (opT word l s r p).natAbs ≤ (t + s.natAbs) ^ p := by
  obtain ⟨h1, h2⟩ := sm_abs (fun j => wt word l s p j * r (p - j)) (p + 1)
  have h3 : sm (fun j => (((wt word l s p j * r (p - j)).natAbs : Nat) : Int)) (p + 1) ≤ sm (fun j => (ch p j : Int) * ((s.natAbs : Int) ^ j * (t : Int) ^ (p - j))) (p + 1) := by
    refine sm_le fun j hj => ?_
    have hw : (wt word l s p j).natAbs ≤ ch p j * s.natAbs ^ j := by
      unfold wt
      split
      · rw [Int.natAbs_mul, Int.natAbs_pow]; simp
      · simp
    have : (wt word l s p j * r (p - j)).natAbs ≤ ch p j * s.natAbs ^ j * t ^ (p - j) := by
      rw [Int.natAbs_mul]
      exact Nat.mul_le_mul hw (hr _)
    have e : (ch p j : Int) * ((s.natAbs : Int) ^ j * (t : Int) ^ (p - j)) = ((ch p j * s.natAbs ^ j * t ^ (p - j) : Nat) : Int) := by
      rw [Int.natCast_mul, Int.natCast_mul, Int.natCast_pow, Int.natCast_pow, Int.mul_assoc]
    rw [e]
    exact Int.ofNat_le.mpr this
  rw [binom] at h3
  have e : ((t : Int) + (s.natAbs : Int)) ^ p = (((t + s.natAbs) ^ p : Nat) : Int) := by rw [Int.natCast_pow, Int.natCast_add]
  rw [e] at h3
  unfold opT
  omega
theorem row_le (word : List Int) (w : Way) : ∀ {r : Nat → Int} {t : Nat}, (∀ p, (r p).natAbs ≤ t ^ p) → ∀ p, (rowFrom word r w p).natAbs ≤ (t + tot w) ^ p := by
  induction w with
  | nil => exact fun h p => h p
  | cons x w ih =>
    intro r t h p
    have := ih (op_le (word := word) (l := x.1) (s := x.2) h) p
    show (rowFrom word (opT word x.1 x.2 r) w p).natAbs ≤ (t + (x.2.natAbs + tot w)) ^ p
    rw [← Nat.add_assoc]; exact this
theorem rowF_le (word : List Int) (w : Way) (p : Nat) : (rowF word w p).natAbs ≤ (tot w) ^ p := by
  have := row_le word w (r := e0) (t := 0) (fun q => by
    unfold e0
    cases q with
    | zero => simp
    | succ q => simp) p
  rw [Nat.zero_add] at this
  exact this
end Ways

/-! ## WX -/
set_option autoImplicit false
set_option linter.all false
/-! WX: a reduced way's own word; unlike ways have unlike sums. -/
namespace Ways
open K80
def lettersW (w : Way) : List Int := w.map (·.1)
def prodW (w : Way) : Int := w.foldl (fun a x => a * x.2) 1
theorem prod_snoc (g : Way) (y : Int × Int) : prodW (g ++ [y]) = prodW g * y.2 := by unfold prodW; rw [List.foldl_append]; rfl
theorem letters_snoc (g : Way) (y : Int × Int) : lettersW (g ++ [y]) = lettersW g ++ [y.1] := by unfold lettersW; rw [List.map_append]; rfl
theorem letters_len (w : Way) : (lettersW w).length = w.length := List.length_map ..
def Apart (word : List Int) : Prop := ∀ i, i + 1 < word.length → word.getD i 0 ≠ word.getD (i + 1) 0
theorem getD_app_left {a b : List Int} {i : Nat} (h : i < a.length) : (a ++ b).getD i 0 = a.getD i 0 := by
  rw [List.getD_eq_getElem?_getD, List.getD_eq_getElem?_getD, List.getElem?_append_left h]
theorem getD_app_at (a : List Int) (x : Int) : (a ++ [x]).getD a.length 0 = x := by
  rw [List.getD_eq_getElem?_getD, List.getElem?_append_right (Nat.le_refl _), Nat.sub_self]; rfl
theorem apart_snoc {a : List Int} {x : Int} (h : Apart a) (hx : ∀ k, a.length = k + 1 → a.getD k 0 ≠ x) : Apart (a ++ [x]) := fun i hi => by
  rw [List.length_append, List.length_singleton] at hi
  by_cases c : i + 1 < a.length
  · rw [getD_app_left (by omega), getD_app_left c]; exact h i c
  · have e : a.length = i + 1 := by omega
    rw [getD_app_left (by omega), ← e, getD_app_at]
    exact hx i e
theorem red_apart {v : Way} (h : Red v) : Apart (lettersW v) ∧ prodW v ≠ 0 := by
  induction h with
  | nil => exact ⟨fun i hi => absurd hi (by simp [lettersW]), by decide⟩
  | @one x hx =>
    refine ⟨fun i hi => absurd hi (by simp [lettersW]), ?_⟩
    show 1 * x.2 ≠ 0
    omega
  | @snoc f y x h1 h2 h3 ih =>
    obtain ⟨i1, i2⟩ := ih
    rw [letters_snoc, prod_snoc]
    refine ⟨apart_snoc i1 fun k hk => ?_, fun z => ?_⟩
    · have e : (lettersW f).length = k := by
        rw [letters_snoc, List.length_append, List.length_singleton] at hk
        omega
      rw [letters_snoc, ← e, getD_app_at]
      exact h3
    · rcases Int.mul_eq_zero.mp z with z | z
      · exact i2 z
      · exact h2 z
theorem ch_one : ∀ n, ch n 1 = n
  | 0 => rfl
  | n + 1 => by rw [ch_succ, ch_n0, ch_one n]; omega
theorem op_apart {word : List Int} (hA : Apart word) {l s : Int} (r : Nat → Int) {p : Nat} (h0 : 0 < p) (hp : p ≤ word.length) : opT word l s r p = r p + (if word.getD (p - 1) 0 = l then (p : Int) * s * r (p - 1) else 0) := by
  obtain ⟨q, rfl⟩ : ∃ q, p = q + 1 := ⟨p - 1, by omega⟩
  unfold opT
  rw [sm_shift, sm_shift, sm_zero (f := fun i => wt word l s (q + 1) (i + 1 + 1) * r (q + 1 - (i + 1 + 1))) fun i hi => ?_]
  · have e0' : wt word l s (q + 1) 0 = 1 := by
      unfold wt
      rw [if_pos (show runs word l (q + 1) 0 = true from rfl), ch_n0]; simp
    rw [e0']
    have e1 : wt word l s (q + 1) (0 + 1) = if word.getD (q + 1 - 1) 0 = l then ((q + 1 : Nat) : Int) * s else 0 := by
      unfold wt
      have er : runs word l (q + 1) (0 + 1) = decide (word.getD (q + 1 - 1) 0 = l) := by
        show (true && _) = _
        rw [Bool.true_and]
      rw [er, ch_one]
      have ep : s ^ (0 + 1) = s := by rw [Int.pow_succ]; simp
      rw [ep]
      simp only [decide_eq_true_eq]
    rw [e1]
    split
    · simp
    · simp
  · have hz : runs word l (q + 1) (i + 1 + 1) = false := by
      have e : i + 1 + 1 = 2 + i := by omega
      rw [e, runs_add]
      have h2 : runs word l (q + 1) 2 = false := by
        show ((true && decide (word.getD (q + 1 - (0 + 1)) 0 = l)) && decide (word.getD (q + 1 - (1 + 1)) 0 = l)) = false
        by_cases c : word.getD (q + 1 - (0 + 1)) 0 = l
        · by_cases c2 : word.getD (q + 1 - (1 + 1)) 0 = l
          · exfalso
            have := hA (q - 1) (by omega)
            have e1 : q + 1 - (0 + 1) = q - 1 + 1 := by omega
            have e2 : q + 1 - (1 + 1) = q - 1 := by omega
            rw [e1] at c
            rw [e2] at c2
            exact this (c2.trans c.symm)
          · rw [decide_eq_false c2, Bool.and_false]
        · rw [decide_eq_false c]; rfl
      rw [h2]; rfl
    unfold wt
    rw [hz]
    simp
theorem own_row {word : List Int} (hA : Apart word) : ∀ (n : Nat) (f : Way), f.length = n → n ≤ word.length → (∀ i, i < n → word.getD i 0 = (lettersW f).getD i 0) → rowF word f n = prodW f * (fac n : Int) ∧ ∀ p, n < p → p ≤ word.length → rowF word f p = 0
  | 0, f, hf, _, _ => by
    have e := List.eq_nil_of_length_eq_zero hf
    subst e
    refine ⟨rfl, fun p h _ => ?_⟩
    show e0 p = 0
    unfold e0
    rw [if_neg (by omega)]
  | n + 1, f, hf, hn, hw => by
    rcases snoc_cases f with rfl | ⟨g, y, rfl⟩
    · simp at hf
    · have hg : g.length = n := by
        rw [List.length_append, List.length_singleton] at hf
        omega
      have hlg : (lettersW g).length = n := by rw [letters_len]; exact hg
      obtain ⟨i1, i2⟩ := own_row hA n g hg (by omega) fun i hi => by
        rw [hw i (by omega), letters_snoc, getD_app_left (by omega)]
      have hy : word.getD n 0 = y.1 := by
        have := hw n (by omega)
        rw [letters_snoc, ← hlg, getD_app_at] at this
        rw [← hlg]; exact this
      have e : ∀ p, rowF word (g ++ [y]) p = opT word y.1 y.2 (rowF word g) p := fun p => by
        unfold rowF
        rw [row_app]; rfl
      refine ⟨?_, fun p h1 h2 => ?_⟩
      · rw [e, op_apart hA _ (by omega) hn, i2 (n + 1) (by omega) hn, Nat.add_sub_cancel, if_pos hy, i1, prod_snoc, fac_succ, Int.natCast_mul]
        rw [Int.zero_add]
        simp only [Int.mul_assoc, Int.mul_left_comm, Int.mul_comm]
      · rw [e, op_apart hA _ (by omega) h2, i2 p (by omega) h2, i2 (p - 1) (by omega) (by omega)]
        simp
/-- the first of the law's two questions: the own word of what is left -/
theorem own_word (w : Way) : rowF (lettersW (redW w)) w (redW w).length = prodW (redW w) * (fac (redW w).length : Int) := by
  have hr := red_apart (red_red w)
  rw [← row_red]
  exact (own_row hr.1 (redW w).length (redW w) rfl (by rw [letters_len]; exact Nat.le_refl _) fun i _ => rfl).1
/-- one letter more -/
theorem own_more (w : Way) {x : Int} (hx : ∀ k, (lettersW (redW w)).length = k + 1 → (lettersW (redW w)).getD k 0 ≠ x) : rowF (lettersW (redW w) ++ [x]) w ((redW w).length + 1) = 0 := by
  have hr := red_apart (red_red w)
  have hA := apart_snoc hr.1 hx
  have hl : (lettersW (redW w) ++ [x]).length = (redW w).length + 1 := by rw [List.length_append, letters_len]; rfl
  rw [← row_red]
  exact (own_row hA (redW w).length (redW w) rfl (by omega) fun i hi => by rw [getD_app_left (by rw [letters_len]; exact hi)]).2 _ (by omega) (by omega)
/-- unlike ways have unlike sums along the letters of what is left -/
theorem unlike_rows {a b : Way} (h : redW (a ++ backW b) ≠ []) : ∃ p, p ≤ (redW (a ++ backW b)).length ∧ rowF (lettersW (redW (a ++ backW b))) a p ≠ rowF (lettersW (redW (a ++ backW b))) b p := by
  refine Classical.byContradiction fun no => ?_
  have same : ∀ p, p ≤ (redW (a ++ backW b)).length → rowF (lettersW (redW (a ++ backW b))) a p = rowF (lettersW (redW (a ++ backW b))) b p := fun p hp => Classical.byContradiction fun c => no ⟨p, hp, c⟩
  have h1 := own_word (a ++ backW b)
  have hr := red_apart (red_red (a ++ backW b))
  generalize hv : redW (a ++ backW b) = v at *
  have h2 : rowF (lettersW v) (a ++ backW b) v.length = rowF (lettersW v) (b ++ backW b) v.length := by
    unfold rowF
    rw [row_app, row_app]
    exact row_congr (m := v.length) (fun _ _ => rfl) (backW b) same v.length (Nat.le_refl _)
  have h3 : rowF (lettersW v) (b ++ backW b) v.length = e0 v.length := by
    rw [← row_red, red_same_nil rfl]; rfl
  have h4 : e0 v.length = 0 := by
    unfold e0
    rw [if_neg fun z => h (List.eq_nil_of_length_eq_zero z)]
  rw [h2, h3, h4] at h1
  rcases Int.mul_eq_zero.mp h1.symm with z | z
  · exact hr.2 z
  · have := fac_pos v.length
    omega
end Ways

/-! ## WY -/
set_option autoImplicit false
set_option linter.all false
/-! WY: a step's operator, cut by where a run of letters begins. -/
namespace Ways
open K80
theorem sm_rev : ∀ (n : Nat) (f : Nat → Int), sm f n = sm (fun i => f (n - 1 - i)) n
  | 0, _ => rfl
  | n + 1, f => by
    rw [sm_shift]
    show f 0 + sm (fun i => f (i + 1)) n = sm (fun i => f (n + 1 - 1 - i)) n + f (n + 1 - 1 - n)
    rw [sm_rev n (fun i => f (i + 1))]
    have e : sm (fun i => f (n + 1 - 1 - i)) n = sm (fun i => f (n - 1 - i + 1)) n := sm_congr fun i hi => by
      have : n + 1 - 1 - i = n - 1 - i + 1 := by omega
      rw [this]
    have e2 : n + 1 - 1 - n = 0 := by omega
    rw [e, e2]
    omega
def partT (word : List Int) (l s : Int) (r : Nat → Int) (b p : Nat) : Int := r p + sm (fun i => if i < p then wt word l s p (p - i) * r i else 0) b
theorem part_zero (word : List Int) (l s : Int) (r : Nat → Int) (p : Nat) : partT word l s r 0 p = r p := by unfold partT; show r p + 0 = r p; omega
theorem part_succ (word : List Int) (l s : Int) (r : Nat → Int) (b p : Nat) : partT word l s r (b + 1) p = partT word l s r b p + (if b < p then wt word l s p (p - b) * r b else 0) := by
  unfold partT
  exact (Int.add_assoc _ _ _).symm
theorem sm_stop {f : Nat → Int} {m : Nat} (h : ∀ i, m ≤ i → f i = 0) : ∀ k, sm f (m + k) = sm f m
  | 0 => rfl
  | k + 1 => by
    show sm f (m + k) + f (m + k) = _
    rw [sm_stop h k, h (m + k) (by omega)]; omega
theorem wt_zero (word : List Int) (l s : Int) (p : Nat) : wt word l s p 0 = 1 := by
  unfold wt
  rw [if_pos (show runs word l p 0 = true from rfl), ch_n0]; simp
theorem part_full (word : List Int) (l s : Int) (r : Nat → Int) {p n : Nat} (h : p ≤ n) : partT word l s r (n + 1) p = opT word l s r p := by
  unfold partT opT
  have e : n + 1 = p + (n + 1 - p) := by omega
  rw [e, sm_stop (fun i hi => by rw [if_neg (by omega)]), sm_shift, wt_zero, sm_rev p]
  have e2 : sm (fun i => if p - 1 - i < p then wt word l s p (p - (p - 1 - i)) * r (p - 1 - i) else 0) p = sm (fun i => wt word l s p (i + 1) * r (p - (i + 1))) p := sm_congr fun i hi => by
    have h1 : p - (p - 1 - i) = i + 1 := by omega
    have h2 : p - 1 - i = p - (i + 1) := by omega
    rw [if_pos (by omega), h1, h2]
  rw [e2]
  simp
theorem part_le {word : List Int} {l s : Int} {r : Nat → Int} {t : Nat} (hr : ∀ p, (r p).natAbs ≤ t ^ p) (b p : Nat) : (partT word l s r b p).natAbs ≤ (t + s.natAbs) ^ p := by
  -- the terms' sizes, all of them
  have hw : ∀ j, (wt word l s p j).natAbs ≤ ch p j * s.natAbs ^ j := fun j => by
    unfold wt
    split
    · rw [Int.natAbs_mul, Int.natAbs_pow]; simp
    · simp
  have hterm : ∀ i, ((if i < p then wt word l s p (p - i) * r i else 0 : Int).natAbs : Int) ≤ if i < p then (ch p (p - i) : Int) * ((s.natAbs : Int) ^ (p - i) * (t : Int) ^ i) else 0 := fun i => by
    split
    · have := Nat.mul_le_mul (hw (p - i)) (hr i)
      rw [← Int.natAbs_mul] at this
      have e : (ch p (p - i) : Int) * ((s.natAbs : Int) ^ (p - i) * (t : Int) ^ i) = ((ch p (p - i) * s.natAbs ^ (p - i) * t ^ i : Nat) : Int) := by
        rw [Int.natCast_mul, Int.natCast_mul, Int.natCast_pow, Int.natCast_pow, Int.mul_assoc]
      rw [e]
      exact Int.ofNat_le.mpr this
    · simp
  have hpos : ∀ i, (0 : Int) ≤ if i < p then (ch p (p - i) : Int) * ((s.natAbs : Int) ^ (p - i) * (t : Int) ^ i) else 0 := fun i => Int.le_trans (by omega) (hterm i)
  have hmono : ∀ k m, sm (fun i => if i < p then (ch p (p - i) : Int) * ((s.natAbs : Int) ^ (p - i) * (t : Int) ^ i) else 0) m ≤ sm (fun i => if i < p then (ch p (p - i) : Int) * ((s.natAbs : Int) ^ (p - i) * (t : Int) ^ i) else 0) (m + k) := fun k m => by
    induction k with
    | zero => exact Int.le_refl _
    | succ k ih =>
      refine Int.le_trans ih ?_
      exact Int.le_add_of_nonneg_right (hpos (m + k))
  have hcap : sm (fun i => if i < p then (ch p (p - i) : Int) * ((s.natAbs : Int) ^ (p - i) * (t : Int) ^ i) else 0) b ≤ sm (fun i => if i < p then (ch p (p - i) : Int) * ((s.natAbs : Int) ^ (p - i) * (t : Int) ^ i) else 0) p := by
    have h1 := hmono p b
    have h2 := sm_stop (f := fun i => if i < p then (ch p (p - i) : Int) * ((s.natAbs : Int) ^ (p - i) * (t : Int) ^ i) else 0) (m := p) (fun i hi => by rw [if_neg (by omega)]) b
    rw [Nat.add_comm b p, h2] at h1
    exact h1
  obtain ⟨a1, a2⟩ := sm_abs (fun i => if i < p then wt word l s p (p - i) * r i else 0) b
  have a3 := sm_le (n := b) fun i _ => hterm i
  have hall : (t : Int) ^ p + sm (fun i => if i < p then (ch p (p - i) : Int) * ((s.natAbs : Int) ^ (p - i) * (t : Int) ^ i) else 0) p = (((t + s.natAbs) ^ p : Nat) : Int) := by
    have hb := binom (t : Int) (s.natAbs : Int) p
    rw [sm_shift, ch_n0] at hb
    have e1 : ((1 : Nat) : Int) * ((s.natAbs : Int) ^ 0 * (t : Int) ^ (p - 0)) = (t : Int) ^ p := by simp
    rw [e1] at hb
    rw [Int.natCast_pow, Int.natCast_add, ← hb, sm_rev p]
    congr 1
    refine sm_congr fun i hi => ?_
    have h1 : p - (p - 1 - i) = i + 1 := by omega
    have h2 : p - 1 - i = p - (i + 1) := by omega
    rw [if_pos (by omega), h1, h2]
  have hr' := hr p
  have hr2 : ((r p).natAbs : Int) ≤ (t : Int) ^ p := by
    have := Int.ofNat_le.mpr hr'
    rw [Int.natCast_pow] at this
    exact this
  have := Int.natAbs_add_le (r p) (sm (fun i => if i < p then wt word l s p (p - i) * r i else 0) b)
  unfold partT
  omega
/-- the runs that begin at b -/
theorem runs_grow {word : List Int} {l : Int} {b j : Nat} (h : runs word l (b + j) j = true) (hl : word.getD (b + j) 0 = l) : runs word l (b + (j + 1)) (j + 1) = true := by
  have e := runs_add word l (b + (j + 1)) 1 j
  have e1 : 1 + j = j + 1 := by omega
  have e2 : b + (j + 1) - 1 = b + j := by omega
  rw [e1, e2, h, Bool.and_true] at e
  rw [e]
  show (true && decide (word.getD (b + (j + 1) - (0 + 1)) 0 = l)) = true
  have e3 : b + (j + 1) - (0 + 1) = b + j := by omega
  rw [e3, hl]; simp
theorem runs_end {word : List Int} {l : Int} {b e p : Nat} (hb : b ≤ e) (he : e < p) (hl : word.getD e 0 ≠ l) : runs word l p (p - b) = false := by
  have h := runs_add word l p (p - (e + 1)) (1 + (e - b))
  have e1 : p - (e + 1) + (1 + (e - b)) = p - b := by omega
  have e2 : p - (p - (e + 1)) = e + 1 := by omega
  rw [e1, e2, runs_add word l (e + 1) 1 (e - b)] at h
  have h1 : runs word l (e + 1) 1 = false := by
    show (true && decide (word.getD (e + 1 - (0 + 1)) 0 = l)) = false
    have e3 : e + 1 - (0 + 1) = e := by omega
    rw [e3, decide_eq_false hl]; rfl
  rw [h, h1]
  simp
end Ways

/-! ## WQ -/
/-! WQ: neighbours put together in any order: what is left. Plain mathematics. -/
set_option autoImplicit false
set_option linter.all false
namespace Ways
theorem step_merge {f : Way} (h : Red f) {x y : Int × Int} (e : x.1 = y.1) : stepW (stepW f x) y = if x.2 + y.2 = 0 then f else stepW f (x.1, x.2 + y.2) := by
  obtain ⟨l, n⟩ := x
  obtain ⟨l', m⟩ := y
  have e : l = l' := e
  subst e
  show stepW (stepW f (l, n)) (l, m) = if n + m = 0 then f else stepW f (l, n + m)
  rcases snoc_cases f with rfl | ⟨g, z, rfl⟩
  · rw [step_nil, step_nil]
    have one := step_snoc [] (l, n) (l, m)
    rw [List.nil_append, List.nil_append] at one
    show stepW (if n = 0 then [] else [(l, n)]) (l, m) = if n + m = 0 then [] else if n + m = 0 then [] else [(l, n + m)]
    by_cases c : n = 0
    · rw [if_pos c, step_nil]
      show (if m = 0 then [] else [(l, m)]) = _
      by_cases c2 : m = 0
      · rw [if_pos c2, if_pos (by omega)]
      · rw [if_neg c2, if_neg (by omega), if_neg (by omega), c, Int.zero_add]
    · rw [if_neg c, one, if_pos rfl]
      show (if m + n = 0 then [] else [(l, m + n)]) = _
      rw [Int.add_comm m n]
      by_cases c2 : n + m = 0
      · rw [if_pos c2, if_pos c2]
      · rw [if_neg c2, if_neg c2]
  · obtain ⟨k, p⟩ := z
    have hp : p ≠ 0 := h.last
    rw [step_snoc, step_snoc]
    show stepW (if k = l then (if n + p = 0 then g else g ++ [(l, n + p)]) else (if n = 0 then g ++ [(k, p)] else g ++ [(k, p)] ++ [(l, n)])) (l, m) =
      if n + m = 0 then g ++ [(k, p)] else (if k = l then (if n + m + p = 0 then g else g ++ [(l, n + m + p)]) else (if n + m = 0 then g ++ [(k, p)] else g ++ [(k, p)] ++ [(l, n + m)]))
    by_cases ck : k = l
    · subst ck
      rw [if_pos rfl, if_pos rfl]
      by_cases c : n + p = 0
      · rw [if_pos c]
        have hg : stepW g (k, m) = if m = 0 then g else g ++ [(k, m)] := by
          rcases snoc_cases g with rfl | ⟨g', u, rfl⟩
          · rw [step_nil]; rfl
          · rw [step_snoc, if_neg h.apart]
        rw [hg]
        by_cases c2 : n + m = 0
        · rw [if_pos c2, if_neg (by omega)]
          have : m = p := by omega
          rw [this]
        · rw [if_neg c2]
          by_cases c3 : m = 0
          · rw [if_pos c3, if_pos (by omega)]
          · rw [if_neg c3, if_neg (by omega)]
            have : n + m + p = m := by omega
            rw [this]
      · rw [if_neg c, step_snoc, if_pos rfl]
        show (if m + (n + p) = 0 then g else g ++ [(k, m + (n + p))]) = _
        have e : m + (n + p) = n + m + p := by omega
        rw [e]
        by_cases c2 : n + m = 0
        · rw [if_pos c2, if_neg (by omega)]
          have : n + m + p = p := by omega
          rw [this]
        · rw [if_neg c2]
    · rw [if_neg ck, if_neg ck]
      by_cases c : n = 0
      · rw [if_pos c, step_snoc, if_neg ck]
        show (if m = 0 then g ++ [(k, p)] else g ++ [(k, p)] ++ [(l, m)]) = _
        by_cases c2 : m = 0
        · rw [if_pos c2, if_pos (by omega)]
        · rw [if_neg c2, if_neg (by omega), if_neg (by omega), c, Int.zero_add]
      · rw [if_neg c, step_snoc, if_pos rfl]
        show (if m + n = 0 then g ++ [(k, p)] else g ++ [(k, p)] ++ [(l, m + n)]) = _
        rw [Int.add_comm m n]
        by_cases c2 : n + m = 0
        · rw [if_pos c2, if_pos c2]
        · rw [if_neg c2, if_neg c2]
/-- where like letters stand side by side -/
def nb (v : Way) (i : Nat) : Bool := decide ((v.getD i (0, 0)).1 = (v.getD (i + 1) (0, 0)).1)
def placesW (v : Way) : List Nat := (List.range (v.length - 1)).filter (nb v)
def bothW (v : Way) (i : Nat) : Int := (v.getD i (0, 0)).2 + (v.getD (i + 1) (0, 0)).2
def putW (v : Way) (i : Nat) : Way := v.take i ++ (if bothW v i = 0 then [] else [((v.getD i (0, 0)).1, bothW v i)]) ++ v.drop (i + 2)
theorem split2 {v : Way} {i : Nat} (h : i + 1 < v.length) : v = v.take i ++ [v.getD i (0, 0), v.getD (i + 1) (0, 0)] ++ v.drop (i + 2) := by
  have e1 : v.getD i (0, 0) = v[i]'(by omega) := by rw [List.getD_eq_getElem?_getD, List.getElem?_eq_getElem (by omega)]; rfl
  have e2 : v.getD (i + 1) (0, 0) = v[i + 1]'h := by rw [List.getD_eq_getElem?_getD, List.getElem?_eq_getElem h]; rfl
  have d1 : v.drop i = v[i]'(by omega) :: v.drop (i + 1) := List.drop_eq_getElem_cons (by omega)
  have d2 : v.drop (i + 1) = v[i + 1]'h :: v.drop (i + 2) := List.drop_eq_getElem_cons h
  have t := List.take_append_drop i v
  rw [d1, d2] at t
  rw [e1, e2, List.append_assoc]
  exact t.symm
theorem fold_app (a b f : Way) : (a ++ b).foldl stepW f = b.foldl stepW (a.foldl stepW f) := List.foldl_append ..
theorem red_putW {v : Way} {i : Nat} (h : i + 1 < v.length) (e : nb v i = true) : redW (putW v i) = redW v := by
  have e' : (v.getD i (0, 0)).1 = (v.getD (i + 1) (0, 0)).1 := of_decide_eq_true e
  have s := split2 h
  have r2 : redW v = (v.drop (i + 2)).foldl stepW (stepW (stepW (redW (v.take i)) (v.getD i (0, 0))) (v.getD (i + 1) (0, 0))) := by
    conv => lhs; rw [s]
    unfold redW
    rw [fold_app, fold_app]; rfl
  rw [r2, step_merge (red_red _) e']
  unfold putW redW
  rw [fold_app, fold_app]
  show (v.drop (i + 2)).foldl stepW ((if bothW v i = 0 then [] else [((v.getD i (0, 0)).1, bothW v i)]).foldl stepW (redW (v.take i))) = (v.drop (i + 2)).foldl stepW (if bothW v i = 0 then redW (v.take i) else stepW (redW (v.take i)) ((v.getD i (0, 0)).1, bothW v i))
  by_cases c : bothW v i = 0
  · rw [if_pos c, if_pos c]; rfl
  · rw [if_neg c, if_neg c]; rfl
theorem put_len {v : Way} {i : Nat} (h : i + 1 < v.length) : (putW v i).length + 1 ≤ v.length := by
  unfold putW
  rw [List.length_append, List.length_append, List.length_take, List.length_drop]
  have : (if bothW v i = 0 then ([] : Way) else [((v.getD i (0, 0)).1, bothW v i)]).length ≤ 1 := by split <;> simp
  omega
theorem mem_places {v : Way} {i : Nat} (h : i ∈ placesW v) : i + 1 < v.length ∧ nb v i = true := by
  unfold placesW at h
  obtain ⟨h1, h2⟩ := List.mem_filter.mp h
  have := List.mem_range.mp h1
  exact ⟨by omega, h2⟩
theorem getD_l {a b : Way} {i : Nat} (h : i < a.length) : (a ++ b).getD i (0, 0) = a.getD i (0, 0) := by
  rw [List.getD_eq_getElem?_getD, List.getD_eq_getElem?_getD, List.getElem?_append_left h]
theorem getD_r {a : Way} {x : Int × Int} : (a ++ [x]).getD a.length (0, 0) = x := by
  rw [List.getD_eq_getElem?_getD, List.getElem?_append_right (Nat.le_refl _), Nat.sub_self]; rfl
theorem red_of : ∀ (n : Nat) (v : Way), v.length ≤ n → (∀ x ∈ v, x.2 ≠ 0) → (∀ i, i + 1 < v.length → nb v i = false) → Red v
  | 0, v, h, _, _ => by
    have : v = [] := List.length_eq_zero_iff.mp (by omega)
    rw [this]; exact .nil
  | n + 1, v, h, hz, ha => by
    rcases snoc_cases v with rfl | ⟨f, x, rfl⟩
    · exact .nil
    · rw [List.length_append, List.length_singleton] at h
      have hx : x.2 ≠ 0 := hz x (List.mem_append_right _ List.mem_cons_self)
      rcases snoc_cases f with rfl | ⟨g, y, rfl⟩
      · exact .one hx
      · refine .snoc (red_of n _ (by omega) (fun z h => hz z (List.mem_append_left _ h)) fun i hi => ?_) hx fun e => ?_
        · have := ha i (by rw [List.length_append]; omega)
          unfold nb at this ⊢
          rw [getD_l (by omega), getD_l hi] at this
          exact this
        · have := ha g.length (by simp)
          unfold nb at this
          have e1 : (g ++ [y] ++ [x]).getD g.length (0, 0) = y := by rw [getD_l (by simp)]; exact getD_r
          have e2 : (g ++ [y] ++ [x]).getD (g.length + 1) (0, 0) = x := by
            have : g.length + 1 = (g ++ [y]).length := by simp
            rw [this]; exact getD_r
          rw [e1, e2, decide_eq_true e] at this
          exact nomatch this
theorem red_places {v : Way} (hz : ∀ x ∈ v, x.2 ≠ 0) (h : placesW v = []) : redW v = v := by
  refine red_fold_red (red_of v.length v (Nat.le_refl _) hz fun i hi => ?_)
  cases e : nb v i with
  | false => rfl
  | true =>
    have : i ∈ placesW v := List.mem_filter.mpr ⟨List.mem_range.mpr (by omega), e⟩
    rw [h] at this
    exact nomatch this
theorem put_nz {v : Way} {i : Nat} (hz : ∀ x ∈ v, x.2 ≠ 0) : ∀ x ∈ putW v i, x.2 ≠ 0 := fun x hx => by
  unfold putW at hx
  rcases List.mem_append.mp hx with h | h
  · rcases List.mem_append.mp h with h | h
    · exact hz x (List.mem_of_mem_take h)
    · split at h
      · exact nomatch h
      · rename_i c
        rw [List.mem_singleton.mp h]; exact c
  · exact hz x (List.mem_of_mem_drop h)
theorem zero_step {f : Way} (h : Red f) {x : Int × Int} (hx : x.2 = 0) : stepW f x = f := by
  rcases snoc_cases f with rfl | ⟨g, y, rfl⟩
  · rw [step_nil, if_pos hx]
  · rw [step_snoc, if_pos hx, hx, Int.zero_add]
    by_cases c : y.1 = x.1
    · rw [if_pos c, if_neg h.last, ← c]
    · rw [if_neg c]
theorem push_step {f G : Way} (h : Red f) (hG : Red G) (x : Int × Int) : (stepW G x).foldl stepW f = stepW (G.foldl stepW f) x := by
  rcases snoc_cases G with rfl | ⟨g, y, rfl⟩
  · rw [step_nil]
    by_cases c : x.2 = 0
    · rw [if_pos c, zero_step (f := List.foldl stepW f []) h c]
    · rw [if_neg c]; rfl
  · have hf : Red (g.foldl stepW f) := red_fold g h
    rw [step_snoc]
    by_cases c : y.1 = x.1
    · rw [if_pos c, fold_app]
      show _ = stepW (stepW (g.foldl stepW f) y) x
      rw [step_merge hf c, Int.add_comm y.2 x.2]
      by_cases c2 : x.2 + y.2 = 0
      · rw [if_pos c2, if_pos c2]
      · rw [if_neg c2, if_neg c2, fold_app, c]; rfl
    · rw [if_neg c]
      by_cases c2 : x.2 = 0
      · rw [if_pos c2, zero_step (red_fold _ h) c2]
      · rw [if_neg c2, fold_app]; rfl
theorem fold_red : ∀ (n : Nat) (w : Way), w.length ≤ n → ∀ {f : Way}, Red f → (redW w).foldl stepW f = w.foldl stepW f
  | n, w, hn, f, h => by
    rcases snoc_cases w with rfl | ⟨g, x, rfl⟩
    · rfl
    · have e : redW (g ++ [x]) = stepW (redW g) x := by rw [red_app]; rfl
      rw [e, push_step h (red_red g), fold_app]
      rw [List.length_append, List.length_singleton] at hn
      cases n with
      | zero => omega
      | succ n => rw [fold_red n g (by omega) h]; rfl
theorem red_mid (a b : Way) : redW (a ++ redW b) = redW (a ++ b) := by rw [red_app, red_app, fold_red b.length b (Nat.le_refl _) (red_red a)]
theorem red_left (a b : Way) : redW (redW a ++ b) = redW (a ++ b) := by rw [red_app, red_app, red_twice]
theorem back_sim {a b : Way} (h : redW a = redW b) : redW (backW a) = redW (backW b) := by
  refine red_nil_same ?_
  rw [back_back, ← red_mid, ← h, red_mid]
  exact fold_back a .nil
theorem len_step (f : Way) (x : Int × Int) : (stepW f x).length ≤ f.length + 1 ∧ ((stepW f x).length = f.length + 1 → stepW f x = f ++ [x]) := by
  rcases snoc_cases f with rfl | ⟨g, y, rfl⟩
  · rw [step_nil]
    split
    · exact ⟨by simp, fun h => by simp at h⟩
    · exact ⟨by simp, fun _ => rfl⟩
  · rw [step_snoc]
    split
    · split
      · exact ⟨by simp; omega, fun h => by simp at h; omega⟩
      · exact ⟨by simp, fun h => by simp at h⟩
    · split
      · exact ⟨by simp, fun h => by simp at h⟩
      · exact ⟨by simp, fun _ => rfl⟩
theorem len_fold : ∀ (w f : Way), (w.foldl stepW f).length ≤ f.length + w.length ∧ ((w.foldl stepW f).length = f.length + w.length → w.foldl stepW f = f ++ w)
  | [], f => ⟨Nat.le_refl _, fun _ => (List.append_nil f).symm⟩
  | x :: w, f => by
    obtain ⟨h1, h2⟩ := len_step f x
    obtain ⟨h3, h4⟩ := len_fold w (stepW f x)
    refine ⟨by show (w.foldl stepW (stepW f x)).length ≤ _; rw [List.length_cons]; omega, fun h => ?_⟩
    have h : (w.foldl stepW (stepW f x)).length = f.length + (w.length + 1) := h
    have e := h2 (by omega)
    show w.foldl stepW (stepW f x) = _
    rw [h4 (by omega), e, List.append_assoc]; rfl
theorem red_len (w : Way) : (redW w).length ≤ w.length := by
  have := (len_fold w []).1
  rw [List.length_nil, Nat.zero_add] at this
  exact this
theorem blen (v : Way) : (backW v).length = v.length := by unfold backW; rw [List.length_reverse, List.length_map]
/-- the way back, reduced -/
theorem red_back (v : Way) : redW (backW v) = backW (redW v) := by
  have e : redW (backW v) = redW (backW (redW v)) := back_sim (red_twice v).symm
  rw [e]
  have hb : redW (backW (redW (backW (redW v)))) = redW v := by
    have := back_sim (a := redW (backW (redW v))) (b := backW (redW v)) (red_twice _)
    rw [this, back_back, red_twice]
  have l1 := red_len (backW (redW v))
  have l2 := red_len (backW (redW (backW (redW v))))
  rw [hb, blen] at l2
  rw [blen] at l1
  have := (len_fold (backW (redW v)) []).2 (by
    show (redW (backW (redW v))).length = _
    rw [List.length_nil, blen]; omega)
  exact this
end Ways

/-! ## K86H -/
set_option Elab.async false
set_option linter.all false
set_option maxRecDepth 100000
set_option maxHeartbeats 4000000
set_option autoImplicit false
namespace K86
open PySem L2 Fz
def topS (i : Nat) : Stmt := PySem.Challenge.pw_cutandjoin_k86_whole_reduced_ways.main.body.getD i (.Pass ⟨0, 0, 0, 0⟩)
abbrev s_joined_ways : Stmt := topS 14
theorem sc_joined_ways : FnScope ["one", "other"] ["one", "other"] (defScope s_joined_ways) := ⟨rfl, rfl, rfl, by decide +kernel, rfl, by decide +kernel, by decide +kernel⟩
abbrev s_turned_way : Stmt := topS 15
theorem sc_turned_way : FnScope ["way", "letter", "length"] ["way"] (defScope s_turned_way) := ⟨rfl, rfl, rfl, by decide +kernel, rfl, by decide +kernel, by decide +kernel⟩
abbrev s_reduced_way : Stmt := topS 16
theorem sc_reduced_way : FnScope ["way", "found", "letter", "length"] ["way"] (defScope s_reduced_way) := ⟨rfl, rfl, rfl, by decide +kernel, rfl, by decide +kernel, by decide +kernel⟩
abbrev s_are_same_ways : Stmt := topS 17
theorem sc_are_same_ways : FnScope ["one", "other"] ["one", "other"] (defScope s_are_same_ways) := ⟨rfl, rfl, rfl, by decide +kernel, rfl, by decide +kernel, by decide +kernel⟩
abbrev s_common_measure : Stmt := topS 19
theorem sc_common_measure : FnScope ["one", "other"] ["one", "other"] (defScope s_common_measure) := ⟨rfl, rfl, rfl, by decide +kernel, rfl, by decide +kernel, by decide +kernel⟩
abbrev s_fraction_of : Stmt := topS 20
theorem sc_fraction_of : FnScope ["top", "bottom", "common"] ["top", "bottom"] (defScope s_fraction_of) := ⟨rfl, rfl, rfl, by decide +kernel, rfl, by decide +kernel, by decide +kernel⟩
abbrev s_fraction_plus : Stmt := topS 21
theorem sc_fraction_plus : FnScope ["one", "other"] ["one", "other"] (defScope s_fraction_plus) := ⟨rfl, rfl, rfl, by decide +kernel, rfl, by decide +kernel, by decide +kernel⟩
abbrev s_fraction_times : Stmt := topS 22
theorem sc_fraction_times : FnScope ["one", "other"] ["one", "other"] (defScope s_fraction_times) := ⟨rfl, rfl, rfl, by decide +kernel, rfl, by decide +kernel, by decide +kernel⟩
abbrev s_stride_shares : Stmt := topS 24
theorem sc_stride_shares : FnScope ["length", "many", "found", "top", "bottom", "turn"] ["length", "many"] (defScope s_stride_shares) := ⟨rfl, rfl, rfl, by decide +kernel, rfl, by decide +kernel, by decide +kernel⟩
abbrev s_way_sum : Stmt := topS 25
theorem sc_way_sum : FnScope ["way", "word", "found", "letter", "length", "shares", "later", "begin", "share", "end"] ["way", "word"] (defScope s_way_sum) := ⟨rfl, rfl, rfl, by decide +kernel, rfl, by decide +kernel, by decide +kernel⟩
abbrev s_law_bag : Stmt := topS 27
theorem sc_law_bag : FnScope ["script", "cells", "mixed", "cell"] ["script"] (defScope s_law_bag) := ⟨rfl, rfl, rfl, by decide +kernel, rfl, by decide +kernel, by decide +kernel⟩
abbrev s_law_draw : Stmt := topS 28
theorem sc_law_draw : FnScope ["bag", "below", "square", "cell", "found"] ["bag", "below"] (defScope s_law_draw) := ⟨rfl, rfl, rfl, by decide +kernel, rfl, by decide +kernel, by decide +kernel⟩
abbrev s_law_pick : Stmt := topS 29
theorem sc_law_pick : FnScope ["bag", "some"] ["bag", "some"] (defScope s_law_pick) := ⟨rfl, rfl, rfl, by decide +kernel, rfl, by decide +kernel, by decide +kernel⟩
abbrev s_law_same : Stmt := topS 30
theorem sc_law_same : FnScope ["told", "due"] ["told", "due"] (defScope s_law_same) := ⟨rfl, rfl, rfl, by decide +kernel, rfl, by decide +kernel, by decide +kernel⟩
abbrev s_law_stride : Stmt := topS 31
theorem sc_law_stride : FnScope ["bag", "reach", "found"] ["bag"] (defScope s_law_stride) := ⟨rfl, rfl, rfl, by decide +kernel, rfl, by decide +kernel, by decide +kernel⟩
abbrev s_law_own_way : Stmt := topS 32
theorem sc_law_own_way : FnScope ["bag", "k", "most", "many", "way", "near", "turn"] ["bag", "k", "most"] (defScope s_law_own_way) := ⟨rfl, rfl, rfl, by decide +kernel, rfl, by decide +kernel, by decide +kernel⟩
abbrev s_law_places : Stmt := topS 33
theorem sc_law_places : FnScope ["way", "i"] ["way"] (defScope s_law_places) := ⟨rfl, rfl, rfl, by decide +kernel, rfl, by decide +kernel, by decide +kernel⟩
abbrev s_law_put : Stmt := topS 34
theorem sc_law_put : FnScope ["way", "at", "both"] ["way", "at"] (defScope s_law_put) := ⟨rfl, rfl, rfl, by decide +kernel, rfl, by decide +kernel, by decide +kernel⟩
abbrev s_law_orderly : Stmt := topS 35
theorem sc_law_orderly : FnScope ["bag", "way", "found", "places"] ["bag", "way"] (defScope s_law_orderly) := ⟨rfl, rfl, rfl, by decide +kernel, rfl, by decide +kernel, by decide +kernel⟩
abbrev s_law_is_let : Stmt := topS 36
theorem sc_law_is_let : FnScope ["way", "letter", "stride"] ["way"] (defScope s_law_is_let) := ⟨rfl, rfl, rfl, by decide +kernel, rfl, by decide +kernel, by decide +kernel⟩
abbrev s_law_longer : Stmt := topS 37
theorem sc_law_longer : FnScope ["bag", "k", "way", "most", "found", "turn", "at", "letter", "stride", "more"] ["bag", "k", "way", "most"] (defScope s_law_longer) := ⟨rfl, rfl, rfl, by decide +kernel, rfl, by decide +kernel, by decide +kernel⟩
abbrev s_law_otherwise : Stmt := topS 38
theorem sc_law_otherwise : FnScope ["bag", "k", "way", "kind", "at", "letter", "stride", "more"] ["bag", "k", "way", "kind"] (defScope s_law_otherwise) := ⟨rfl, rfl, rfl, by decide +kernel, rfl, by decide +kernel, by decide +kernel⟩
abbrev s_law_least : Stmt := topS 39
theorem sc_law_least : FnScope ["upper", "lower", "one", "other"] ["upper", "lower"] (defScope s_law_least) := ⟨rfl, rfl, rfl, by decide +kernel, rfl, by decide +kernel, by decide +kernel⟩
abbrev s_law_factorial : Stmt := topS 40
theorem sc_law_factorial : FnScope ["many", "found", "k"] ["many"] (defScope s_law_factorial) := ⟨rfl, rfl, rfl, by decide +kernel, rfl, by decide +kernel, by decide +kernel⟩
abbrev s_law_row : Stmt := topS 41
theorem sc_law_row : FnScope ["way", "word", "row", "letter", "stride", "longer", "p", "total", "times", "j"] ["way", "word"] (defScope s_law_row) := ⟨rfl, rfl, rfl, by decide +kernel, rfl, by decide +kernel, by decide +kernel⟩
abbrev s_law_back : Stmt := topS 42
theorem sc_law_back : FnScope ["way", "letter", "stride"] ["way"] (defScope s_law_back) := ⟨rfl, rfl, rfl, by decide +kernel, rfl, by decide +kernel, by decide +kernel⟩
abbrev s_law_is_reduced : Stmt := topS 43
theorem sc_law_is_reduced : FnScope ["way", "due"] ["way", "due"] (defScope s_law_is_reduced) := ⟨rfl, rfl, rfl, by decide +kernel, rfl, by decide +kernel, by decide +kernel⟩
abbrev s_law_is_same_word : Stmt := topS 44
theorem sc_law_is_same_word : FnScope ["one", "other", "due"] ["one", "other", "due"] (defScope s_law_is_same_word) := ⟨rfl, rfl, rfl, by decide +kernel, rfl, by decide +kernel, by decide +kernel⟩
abbrev s_law_built : Stmt := topS 45
theorem sc_law_built : FnScope ["way"] ["way"] (defScope s_law_built) := ⟨rfl, rfl, rfl, by decide +kernel, rfl, by decide +kernel, by decide +kernel⟩
abbrev s_law_is_order_right : Stmt := topS 46
theorem sc_law_is_order_right : FnScope ["bag", "way", "found", "left", "near", "between", "told", "back", "own"] ["bag", "way"] (defScope s_law_is_order_right) := ⟨rfl, rfl, rfl, by decide +kernel, rfl, by decide +kernel, by decide +kernel⟩
abbrev s_law_are_long_right : Stmt := topS 47
theorem sc_law_are_long_right : FnScope ["bag", "k", "one", "long_way", "odd_way", "long_odd", "left", "odd_left", "wide", "wide_odd"] ["bag", "k", "one"] (defScope s_law_are_long_right) := ⟨rfl, rfl, rfl, by decide +kernel, rfl, by decide +kernel, by decide +kernel⟩
abbrev s_law_are_odd_right : Stmt := topS 48
theorem sc_law_are_odd_right : FnScope ["bag", "one", "first", "second", "steps", "way", "last", "some", "own", "left", "kind", "odd", "odd_left", "place"] ["bag", "one"] (defScope s_law_are_odd_right) := ⟨rfl, rfl, rfl, by decide +kernel, rfl, by decide +kernel, by decide +kernel⟩
abbrev s_law_are_sums_kept : Stmt := topS 49
theorem sc_law_are_sums_kept : FnScope ["bag", "k", "way", "left", "word", "letter", "stride", "some", "told", "own", "due", "place"] ["bag", "k", "way"] (defScope s_law_are_sums_kept) := ⟨rfl, rfl, rfl, by decide +kernel, rfl, by decide +kernel, by decide +kernel⟩
abbrev s_law_is_join : Stmt := topS 50
theorem sc_law_is_join : FnScope ["one", "other", "found", "is_own", "turn", "error"] ["one", "other"] (defScope s_law_is_join) := ⟨rfl, rfl, rfl, by decide +kernel, rfl, by decide +kernel, by decide +kernel⟩
abbrev s_law_are_joins_right : Stmt := topS 51
theorem sc_law_are_joins_right : FnScope ["bag", "k", "steps", "many", "rest", "full", "ahead", "behind", "first", "second", "third", "early", "late", "one", "other", "place"] ["bag", "k"] (defScope s_law_are_joins_right) := ⟨rfl, rfl, rfl, by decide +kernel, rfl, by decide +kernel, by decide +kernel⟩
abbrev s_law_are_great_right : Stmt := topS 52
theorem sc_law_are_great_right : FnScope ["bag", "one", "back", "left", "away", "twice", "due", "told", "wide", "total", "letter", "stride"] ["bag", "one"] (defScope s_law_are_great_right) := ⟨rfl, rfl, rfl, by decide +kernel, rfl, by decide +kernel, by decide +kernel⟩
abbrev s_law_asks : Stmt := topS 53
theorem sc_law_asks : FnScope ["script", "bag", "k", "one", "other", "kept", "is_same"] ["script"] (defScope s_law_asks) := ⟨rfl, rfl, rfl, by decide +kernel, rfl, by decide +kernel, by decide +kernel⟩
abbrev s_law : Stmt := topS 54
theorem sc_law : FnScope ["script"] ["script"] (defScope s_law) := ⟨rfl, rfl, rfl, by decide +kernel, rfl, by decide +kernel, by decide +kernel⟩
/-- what the module and the built-ins give -/
structure Bt (P : Program) (mg : Str → Option Value) (base : Heap) : Prop where
  n_len : mg "len" = none
  n_tuple : mg "tuple" = none
  n_abs : mg "abs" = none
  n_range : mg "range" = none
  n_enumerate : mg "enumerate" = none
  n_list : mg "list" = none
  n_int : mg "int" = none
  n_reversed : mg "reversed" = none
  n_repr : mg "repr" = none
  n_all : mg "all" = none
  n_isinstance : mg "isinstance" = none
  n_ValueError : mg "ValueError" = none
  n_sum : mg "sum" = none
  c_MAX_GREAT_WAY : ∃ t, mg "MAX_GREAT_WAY" = some (.int 16 t)
  hpl : base.NoSeer ∧ P.given.tree = none
/-- where the own errors stand -/
structure CA where
  (SumError Unfit TooMany BadText BadSum BadLog Refused NothingToUndo NothingToRedo NoName NoVersion TooManyI : Addr)
structure Cs (P : Program) (K : PySem.W.Frag) (mg : Str → Option Value) (ca : CA) : Prop where
  g_SumError : mg "SumError" = some (.ref ca.SumError)
  g_Unfit : mg "Unfit" = some (.ref ca.Unfit)
  g_TooMany : mg "TooMany" = some (.ref ca.TooMany)
  g_BadText : mg "BadText" = some (.ref ca.BadText)
  g_BadSum : mg "BadSum" = some (.ref ca.BadSum)
  g_BadLog : mg "BadLog" = some (.ref ca.BadLog)
  g_Refused : mg "Refused" = some (.ref ca.Refused)
  g_NothingToUndo : mg "NothingToUndo" = some (.ref ca.NothingToUndo)
  g_NothingToRedo : mg "NothingToRedo" = some (.ref ca.NothingToRedo)
  g_NoName : mg "NoName" = some (.ref ca.NoName)
  g_NoVersion : mg "NoVersion" = some (.ref ca.NoVersion)
  t_TooMany : Own.Txt P K mg "TooMany" "too many" "limit" ca.TooMany ca.TooManyI
  x_TooMany : ExcC K ca.TooMany
  k_TooMany_SumError : PySem.W.kitOne K (.ref ca.TooMany) (.ref ca.SumError) = some true
  k_TooMany_Unfit : PySem.W.kitOne K (.ref ca.TooMany) (.ref ca.Unfit) = some false
  k_TooMany_TooMany : PySem.W.kitOne K (.ref ca.TooMany) (.ref ca.TooMany) = some true
  k_TooMany_BadText : PySem.W.kitOne K (.ref ca.TooMany) (.ref ca.BadText) = some false
  k_TooMany_BadSum : PySem.W.kitOne K (.ref ca.TooMany) (.ref ca.BadSum) = some false
  k_TooMany_BadLog : PySem.W.kitOne K (.ref ca.TooMany) (.ref ca.BadLog) = some false
  k_TooMany_Refused : PySem.W.kitOne K (.ref ca.TooMany) (.ref ca.Refused) = some false
  k_TooMany_NothingToUndo : PySem.W.kitOne K (.ref ca.TooMany) (.ref ca.NothingToUndo) = some false
  k_TooMany_NothingToRedo : PySem.W.kitOne K (.ref ca.TooMany) (.ref ca.NothingToRedo) = some false
  k_TooMany_NoName : PySem.W.kitOne K (.ref ca.TooMany) (.ref ca.NoName) = some false
  k_TooMany_NoVersion : PySem.W.kitOne K (.ref ca.TooMany) (.ref ca.NoVersion) = some false
  kv_TooMany : PySem.W.kitOne K (.ref ca.TooMany) (.type "ValueError") = some true
end K86

/-! ## B1 -/
set_option Elab.async false
set_option linter.all false
set_option maxRecDepth 100000
set_option maxHeartbeats 4000000
set_option autoImplicit false
namespace K86
open PySem L2 Fz K80 Ways
variable {P : Program} {w : World} {K : PySem.W.Frag} {mg : Str → Option Value} {base : Heap} {f : Addr} {fd : FuncData}
abbrev iv (x : Int) : Option AD := some (.d (.int x))
def R_cm : List PyData → PyData → Prop := fun ds d => ∃ a b : Int, ds = [.int a, .int b] ∧ d = .int (Int.gcd a b)
theorem abs_if (a : Int) : (if a < 0 then -a else a) = (a.natAbs : Int) := by split <;> omega
theorem gcd_step {x y : Int} (hx : 0 ≤ x) (hy : 0 < y) : Int.gcd y (x % y) = Int.gcd x y := by
  obtain ⟨n, rfl⟩ := Int.eq_ofNat_of_zero_le hx
  obtain ⟨m, rfl⟩ := Int.eq_ofNat_of_zero_le (Int.le_of_lt hy)
  show Nat.gcd m (((n : Int) % (m : Int)).natAbs) = Nat.gcd n m
  have e : ((n : Int) % (m : Int)).natAbs = n % m := by omega
  rw [e, Nat.gcd_comm m, ← Nat.gcd_rec, Nat.gcd_comm]
theorem ok_common_measure (Fn : Fun K "common_measure" "common_measure" s_common_measure f fd) (T : Bt P mg base) : FnOk P w K mg base CX0 41 f fd ["one", "other"] (spR K R_cm) := by
  refine fn_data Fn sc_common_measure (by decide) (fun ds d ⟨a, b, h, _⟩ => by rw [h]; rfl) fun cdv A outer s H E hr => ⟨_, (pss_cons (ps_par (i := 0) (j := 1) (by rfl) sc_common_measure.nd rfl rfl (by decide) rfl rfl (pa_cons (pe_callB call_abs (by rfl) T.n_abs (by decide +kernel) (pa_cons (pv 0) pa_nil)) (pa_cons (pe_callB call_abs (by rfl) T.n_abs (by decide +kernel) (pa_cons (pv 1) pa_nil)) pa_nil)) (by rfl))
      (pss_cons (ps_while PassesOwn.never (pt_cmpR op_ne (pv 1) pe_int (nomark _)) (pss_one (ps_par (i := 0) (j := 1) (by rfl) sc_common_measure.nd rfl rfl (by decide) rfl rfl (pa_cons (pv 1) (pa_cons (pe_op op_mod (pv 0) (pv 1)) pa_nil)) (by rfl))))
      (pss_one (ps_ret (pv 0))))), ?_⟩
  rintro B Q ds d rfl hM ⟨a, b, rfl, rfl⟩ q
  refine x_seq (x_par (ea_cons (ex_abs (ex_v rfl)) (ea_cons (ex_abs (ex_v rfl)) ea_nil)) ?_)
  rw [abs_if, abs_if]
  refine x_seq (x_while (m0 := (b.natAbs : Int).toNat) (fun m ε L => ∃ x y : Int, 0 ≤ x ∧ 0 ≤ y ∧ Int.gcd x y = Int.gcd a b ∧ m = y.toNat ∧ ε = [iv x, iv y] ∧ L = []) ⟨a.natAbs, b.natAbs, by omega, by omega, by show Nat.gcd _ _ = _; simp [Int.gcd], rfl, rfl, rfl⟩ ?_)
  rintro m ε' L' ⟨x, y, hx, hy, hg, rfl, rfl, rfl⟩
  refine ⟨_, _, et_test (ex_neI (ex_v rfl) ex_cI), fun hb => ?_, fun hb => ?_⟩
  · have hy0 : y ≠ 0 := by simpa using hb
    refine x_par (ea_cons (ex_v rfl) (ea_cons (ex_mod (ex_v rfl) (ex_v rfl) (by omega)) ea_nil)) ?_
    refine x_abs ⟨(x % y).toNat, ?_, y, x % y, hy, Int.emod_nonneg _ hy0, ?_, rfl, rfl, rfl⟩ (Wk.refl _)
    · have := Int.emod_lt_of_pos x (show 0 < y by omega)
      have := Int.emod_nonneg x hy0
      omega
    · rw [gcd_step hx (by omega), hg]
  · have hy0 : y = 0 := by simpa using hb
    subst hy0
    refine x_ret (ex_v rfl) fun v F σ H r o => q v F H (hM ▸ r.nx) ?_
    rw [← hg, Int.gcd_zero_right]
    have : (x.natAbs : Int) = x := by omega
    rw [this]; exact o
def R_frac : List PyData → PyData → Prop := fun ds d => ∃ t b : Int, ds = [.int t, .int b] ∧ 0 < b ∧ d = frD t b
theorem gcd_pos {t b : Int} (h : 0 < b) : (0 : Int) < (Int.gcd t b : Int) := by
  have : 0 < Int.gcd t b := Int.gcd_pos_of_ne_zero_right t (by omega)
  omega
theorem ok_fraction_of (Fn : Fun K "fraction_of" "fraction_of" s_fraction_of f fd) (T : Bt P mg base) (C_common_measure : Df P w K mg base 41 "common_measure" ["one", "other"] (spR K R_cm)) :
    FnOk P w K mg base CX0 42 f fd ["top", "bottom"] (spR K R_frac) := by
  refine fn_data Fn sc_fraction_of (by decide) (fun ds d ⟨a, b, h, _⟩ => by rw [h]; rfl) fun cdv A outer s H E hr => ⟨_, (pss_cons (ps_set (i := 2) sc_fraction_of.nd rfl (.inl rfl) (pe_ifExp (pt_cmpR op_gt (pv 1) pe_int (nomark _)) (pe_callD C_common_measure (hr.mono (by decide)) (by rfl) (pa_cons (pv 0) (pa_cons (pv 1) pa_nil))) (pe_un un_neg (pe_callD C_common_measure (hr.mono (by decide)) (by rfl) (pa_cons (pv 0) (pa_cons (pv 1) pa_nil))))))
      (pss_one (ps_ret (pe_tup (pa_cons (pe_op (op_fdivP hr T.hpl) (pv 0) (pv 2)) (pa_cons (pe_op (op_fdivP hr T.hpl) (pv 1) (pv 2)) pa_nil)))))), ?_⟩
  rintro B Q ds d rfl hM ⟨t, b, rfl, hb, rfl⟩ q
  have hg := gcd_pos (t := t) hb
  refine x_seq (x_set (a := .d (.int (Int.gcd t b : Int))) (ex_if (et_test (ex_gt (ex_v rfl) ex_cI)) (fun _ => ex_call (ds := [.int t, .int b]) (ea_cons (ex_v rfl) (ea_cons (ex_v rfl) ea_nil)) ⟨t, b, rfl, rfl⟩) (fun h => absurd hb (by simpa using h))) ?_)
  exact x_ret (ex_tup (ds := [.int _, .int _]) (ea_cons (ex_fdivP (ex_v rfl) (ex_v rfl) hg) (ea_cons (ex_fdivP (ex_v rfl) (ex_v rfl) hg) ea_nil)) (Nat.le_of_ble_eq_true rfl)) fun v F σ H r o => q v F H (hM ▸ r.nx) o
/-! ### fractions -/
theorem frD_scale {a b k : Int} (hb : 0 < b) (hk : 0 < k) : frD (a * k) (b * k) = frD a b := by
  have e : (Int.gcd (a * k) (b * k) : Int) = (Int.gcd a b : Int) * k := by
    rw [Int.gcd_mul_right, Int.natCast_mul]
    have : (k.natAbs : Int) = k := by omega
    rw [this]
  unfold frD
  rw [e]
  have hg := gcd_pos (t := a) hb
  rw [Int.mul_ediv_mul_of_pos_left _ _ hk, Int.mul_ediv_mul_of_pos_left _ _ hk]
theorem frD_ratio {a b c d : Int} (hb : 0 < b) (hd : 0 < d) (h : a * d = c * b) : frD a b = frD c d := by
  rw [← frD_scale (a := a) hb hd, ← frD_scale (a := c) hd hb, h, Int.mul_comm d b]
theorem fr_parts (a : Int) {b : Int} (hb : 0 < b) : a = a / (Int.gcd a b : Int) * (Int.gcd a b : Int) ∧ b = b / (Int.gcd a b : Int) * (Int.gcd a b : Int) ∧ 0 < b / (Int.gcd a b : Int) := by
  have hg := gcd_pos (t := a) hb
  have e1 := Int.ediv_mul_cancel (Int.gcd_dvd_left a b)
  have e2 := Int.ediv_mul_cancel (Int.gcd_dvd_right a b)
  exact ⟨e1.symm, e2.symm, Int.pos_of_mul_pos_left (by rw [e2]; exact hb) hg⟩
def R_plus : List PyData → PyData → Prop := fun ds r => ∃ a b c d : Int, ds = [frD a b, frD c d] ∧ 0 < b ∧ 0 < d ∧ Bd 9000 a ∧ Bd 9000 b ∧ Bd 9000 c ∧ Bd 9000 d ∧ r = frD (a * d + c * b) (b * d)
def R_tim : List PyData → PyData → Prop := fun ds r => ∃ a b c d : Int, ds = [frD a b, frD c d] ∧ 0 < b ∧ 0 < d ∧ Bd 9000 a ∧ Bd 9000 b ∧ Bd 9000 c ∧ Bd 9000 d ∧ r = frD (a * c) (b * d)
theorem ok_fraction_plus (Fn : Fun K "fraction_plus" "fraction_plus" s_fraction_plus f fd) (T : Bt P mg base) (C_fraction_of : Df P w K mg base 42 "fraction_of" ["top", "bottom"] (spR K R_frac)) : FnOk P w K mg base CX0 43 f fd ["one", "other"] (spR K R_plus) := by
  refine fn_data Fn sc_fraction_plus (by decide) (fun ds d ⟨_, _, _, _, h, _⟩ => by rw [h]; rfl) fun cdv A outer s H E hr => ⟨_, (pss_one (ps_ret (pe_callD C_fraction_of (hr.mono (by decide)) (by rfl) (pa_cons (pe_op op_add (pe_op op_mulW (pe_ix (r := rIxT K) ix_tup (pv 0) pe_int (fun _ _ => rfl)) (pe_ix (r := rIxT K) ix_tup (pv 1) pe_int (fun _ _ => rfl))) (pe_op op_mulW (pe_ix (r := rIxT K) ix_tup (pv 1) pe_int (fun _ _ => rfl)) (pe_ix (r := rIxT K) ix_tup (pv 0) pe_int (fun _ _ => rfl)))) (pa_cons (pe_op op_mulW (pe_ix (r := rIxT K) ix_tup (pv 0) pe_int (fun _ _ => rfl)) (pe_ix (r := rIxT K) ix_tup (pv 1) pe_int (fun _ _ => rfl))) pa_nil))))), ?_⟩
  rintro B Q ds r rfl hM ⟨a, b, c, d, rfl, hb, hd, ha', hb', hc', hd', rfl⟩ q
  obtain ⟨ea, eb, pb⟩ := fr_parts a hb
  obtain ⟨ec, ed, pd⟩ := fr_parts c hd
  have ba : Bd 9000 (a / (Int.gcd a b : Int)) := ha'.div
  have bb : Bd 9000 (b / (Int.gcd a b : Int)) := hb'.div
  have bc : Bd 9000 (c / (Int.gcd c d : Int)) := hc'.div
  have bd : Bd 9000 (d / (Int.gcd c d : Int)) := hd'.div
  have g1 := gcd_pos (t := a) hb
  have g2 := gcd_pos (t := c) hd
  have key : frD (a * d + c * b) (b * d) = frD (a / (Int.gcd a b : Int) * (d / (Int.gcd c d : Int)) + c / (Int.gcd c d : Int) * (b / (Int.gcd a b : Int))) (b / (Int.gcd a b : Int) * (d / (Int.gcd c d : Int))) := by
    generalize a / (Int.gcd a b : Int) = a' at *
    generalize b / (Int.gcd a b : Int) = b' at *
    generalize c / (Int.gcd c d : Int) = c' at *
    generalize d / (Int.gcd c d : Int) = d' at *
    generalize (Int.gcd a b : Int) = g at *
    generalize (Int.gcd c d : Int) = h at *
    subst ea eb ec ed
    rw [← frD_scale (a := a' * d' + c' * b') (Int.mul_pos pb pd) (Int.mul_pos g1 g2)]
    congr 1
    · rw [Int.add_mul]
      congr 1 <;> simp only [Int.mul_assoc, Int.mul_left_comm, Int.mul_comm]
    · simp only [Int.mul_assoc, Int.mul_left_comm, Int.mul_comm]
  rw [key] at q
  exact x_ret (ex_call (ds := [.int _, .int _]) (ea_cons (ex_add (ex_mul (ex_ixT (ex_v rfl) ex_cI rfl) (ex_ixT (ex_v rfl) ex_cI rfl) (cmul ba bd (by decide))) (ex_mul (ex_ixT (ex_v rfl) ex_cI rfl) (ex_ixT (ex_v rfl) ex_cI rfl) (cmul bc bb (by decide)))) (ea_cons (ex_mul (ex_ixT (ex_v rfl) ex_cI rfl) (ex_ixT (ex_v rfl) ex_cI rfl) (cmul bb bd (by decide))) ea_nil)) ⟨_, _, rfl, Int.mul_pos pb pd, rfl⟩) fun v F σ H r o => q v F H (hM ▸ r.nx) o
theorem ok_fraction_times (Fn : Fun K "fraction_times" "fraction_times" s_fraction_times f fd) (T : Bt P mg base) (C_fraction_of : Df P w K mg base 42 "fraction_of" ["top", "bottom"] (spR K R_frac)) : FnOk P w K mg base CX0 43 f fd ["one", "other"] (spR K R_tim) := by
  refine fn_data Fn sc_fraction_times (by decide) (fun ds d ⟨_, _, _, _, h, _⟩ => by rw [h]; rfl) fun cdv A outer s H E hr => ⟨_, (pss_one (ps_ret (pe_callD C_fraction_of (hr.mono (by decide)) (by rfl) (pa_cons (pe_op op_mulW (pe_ix (r := rIxT K) ix_tup (pv 0) pe_int (fun _ _ => rfl)) (pe_ix (r := rIxT K) ix_tup (pv 1) pe_int (fun _ _ => rfl))) (pa_cons (pe_op op_mulW (pe_ix (r := rIxT K) ix_tup (pv 0) pe_int (fun _ _ => rfl)) (pe_ix (r := rIxT K) ix_tup (pv 1) pe_int (fun _ _ => rfl))) pa_nil))))), ?_⟩
  rintro B Q ds r rfl hM ⟨a, b, c, d, rfl, hb, hd, ha', hb', hc', hd', rfl⟩ q
  obtain ⟨ea, eb, pb⟩ := fr_parts a hb
  obtain ⟨ec, ed, pd⟩ := fr_parts c hd
  have ba : Bd 9000 (a / (Int.gcd a b : Int)) := ha'.div
  have bb : Bd 9000 (b / (Int.gcd a b : Int)) := hb'.div
  have bc : Bd 9000 (c / (Int.gcd c d : Int)) := hc'.div
  have bd : Bd 9000 (d / (Int.gcd c d : Int)) := hd'.div
  have g1 := gcd_pos (t := a) hb
  have g2 := gcd_pos (t := c) hd
  have key : frD (a * c) (b * d) = frD (a / (Int.gcd a b : Int) * (c / (Int.gcd c d : Int))) (b / (Int.gcd a b : Int) * (d / (Int.gcd c d : Int))) := by
    generalize a / (Int.gcd a b : Int) = a' at *
    generalize b / (Int.gcd a b : Int) = b' at *
    generalize c / (Int.gcd c d : Int) = c' at *
    generalize d / (Int.gcd c d : Int) = d' at *
    generalize (Int.gcd a b : Int) = g at *
    generalize (Int.gcd c d : Int) = h at *
    subst ea eb ec ed
    rw [← frD_scale (a := a' * c') (Int.mul_pos pb pd) (Int.mul_pos g1 g2)]
    congr 1 <;> simp only [Int.mul_assoc, Int.mul_left_comm, Int.mul_comm]
  rw [key] at q
  exact x_ret (ex_call (ds := [.int _, .int _]) (ea_cons (ex_mul (ex_ixT (ex_v rfl) ex_cI rfl) (ex_ixT (ex_v rfl) ex_cI rfl) (cmul ba bc (by decide))) (ea_cons (ex_mul (ex_ixT (ex_v rfl) ex_cI rfl) (ex_ixT (ex_v rfl) ex_cI rfl) (cmul bb bd (by decide))) ea_nil)) ⟨_, _, rfl, Int.mul_pos pb pd, rfl⟩) fun v F σ H r o => q v F H (hM ▸ r.nx) o
end K86

/-! ## B2 -/
set_option Elab.async false
set_option linter.all false
set_option maxRecDepth 100000
set_option maxHeartbeats 4000000
set_option autoImplicit false
namespace K86
open PySem L2 Fz K80 Ways
variable {P : Program} {w : World} {K : PySem.W.Frag} {mg : Str → Option Value} {base : Heap} {f : Addr} {fd : FuncData}
section
variable {B : Bg} {ε : Eps} {L La Lb Lc : Own} {te ta tb tc : TE} {D : Ends} {i j l : Nat} {a b : AD}
theorem x_par3N {ds : List PyData} (h : EN B te ε L ds La) (ha : ∀ p, EX B ta ε (.lst p ds :: La) a (.lst p ds :: Lb)) (hb : ∀ p, EX B tb ε (.lst p ds :: Lb) b (.lst p ds :: Lc)) (k : ∀ p, p ∉ B.M → Ho B D.nx (((ε.set i (some (.v (.ref p)))).set j (some a)).set l (some b)) (.lst p ds :: Lc)) :
    Ho B (tPar3 i j l (tCons te (tCons ta (tCons tb tNil))) D) ε L := fun F σ H r =>
  h F σ H r _ fun p F1 H1 s1 hp r1 => ha p F1 σ H1 r1 _ fun v F2 H2 s2 r2 o2 => hb p F2 σ H2 r2 _ fun w F3 H3 s3 r3 o3 => ⟨.ref p, v, w, rfl, k p hp F3 _ H3 (((r3.slot (a := .v (.ref p)) rfl).slot (o2.sub s3)).slot o3)⟩
end
/-! ### ways as data -/
def stD (x : Int × Int) : PyData := .tuple [.int x.1, .int x.2]
def wayL (v : Way) : List PyData := v.map stD
def wayD (v : Way) : PyData := .tuple (wayL v)
theorem wayL_app (a b : Way) : wayL (a ++ b) = wayL a ++ wayL b := List.map_append ..
theorem wayL_len (a : Way) : (wayL a).length = a.length := List.length_map ..
theorem lay_way : ∀ v : Way, PyData.canLayAll0 (wayL v) = true ∧ PyData.depthAll (wayL v) ≤ 1
  | [] => ⟨rfl, Nat.zero_le _⟩
  | x :: v => by
    obtain ⟨h1, h2⟩ := lay_way v
    refine ⟨?_, ?_⟩
    · show (true && PyData.canLayAll0 (wayL v)) = true
      rw [h1]; rfl
    · show max 1 (PyData.depthAll (wayL v)) ≤ 1
      omega
theorem shaped_wayL (v : Way) : SeqAt.shaped (.list (wayL v)) = true := by
  obtain ⟨h1, h2⟩ := lay_way v
  unfold SeqAt.shaped
  show (PyData.canLayAll0 (wayL v) && decide (PyData.depthAll (wayL v) + 1 ≤ 64)) = true
  rw [h1, decide_eq_true (by omega)]; rfl
theorem at_last (g : Way) (y : Int × Int) : atI (wayL (g ++ [y])) (-1) = some (stD y) := by
  rw [wayL_app]
  exact atI_last _ _
theorem way_get {v : Way} {i : Nat} {d : PyData} (h : (wayL v)[i]? = some d) : ∃ x, v[i]? = some x ∧ d = stD x := by
  unfold wayL at h
  rw [List.getElem?_map] at h
  cases e : v[i]? with
  | none => rw [e] at h; cases h
  | some x => rw [e] at h; exact ⟨x, rfl, (Option.some.inj h).symm⟩
theorem fold_take {v : Way} {i : Nat} {x : Int × Int} (h : v[i]? = some x) : redW (v.take (i + 1)) = stepW (redW (v.take i)) x := by
  unfold redW
  rw [List.take_add_one, h, List.foldl_append]; rfl
theorem ex_popW {B : Bg} {ε : Eps} {L La : Own} {to : TE} {p : Addr} {k : Nat} {g : Way} {y : Int × Int} (ho : EX B to ε L (.v (.ref p)) La) (hk : La[k]? = some (.lst p (wayL (g ++ [y])))) :
    EX B (tBM0 B.K "list" rPop to) ε L (.d (.tuple [.int y.1, .int y.2])) (La.set k (.lst p (wayL g))) := by
  have hlw : (wayL (g ++ [y])).length = g.length + 1 := by rw [wayL_len, List.length_append]; rfl
  have h := ex_pop (k := k) (ds := wayL (g ++ [y])) (d := stD y) ho hk (by
    rw [hlw, Nat.add_sub_cancel, wayL_app, List.getElem?_append_right (by rw [wayL_len]; exact Nat.le_refl _), wayL_len, Nat.sub_self]; rfl)
  have e : (wayL (g ++ [y])).dropLast = wayL g := by rw [wayL_app]; exact List.dropLast_concat
  rw [e] at h
  exact h
def R_red : List PyData → PyData → Prop := fun ds d => ∃ v : Way, ds = [wayD v] ∧ v.length ≤ 5000 ∧ d = wayD (redW v)
theorem ok_reduced_way (Fn : Fun K "reduced_way" "reduced_way" s_reduced_way f fd) (T : Bt P mg base) : FnOk P w K mg base CX0 41 f fd ["way"] (spR K R_red) := by
  refine fn_data Fn sc_reduced_way (by decide) (fun ds d ⟨_, h, _⟩ => by rw [h]; rfl) fun cdv A outer s H E hr => ⟨_, (pss_cons (ps_set (i := 1) sc_reduced_way.nd rfl (.inl rfl) (pe_lst pa_nil))
      (pss_cons (ps_for PassesOwn.never rfl (pi_tup (pv 0)) (pg_tup rfl (pgs_cons (pg_name (i := 2) sc_reduced_way.nd rfl (Or.inl rfl)) (pgs_cons (pg_name (i := 3) sc_reduced_way.nd rfl (Or.inl rfl)) pgs_nil))) (pss_cons (ps_if (PW.pt (pw_and (pt_cmpR (r := rNeD K) (op_neD hr.units) (pv 1) (pe_lst pa_nil) (nomark _)) (pw_and1 (pt_cmpR op_eq (pe_ix (r := rIxT K) ix_tup (pe_ix (r := rIxL K) ix_list (pv 1) (pe_un un_neg pe_int) (fun _ _ => rfl)) pe_int (fun _ _ => rfl)) (pv 2) (nomark _))))) (pss_one (ps_set (i := 3) sc_reduced_way.nd rfl (.inl rfl) (pe_op op_add (pv 3) (pe_ix (r := rIxT K) ix_tup (pe_bm0 PySem.F.plainAttrs_list PySem.F.slot_list_pop PySem.F.type_list_pop mt_pop (pv 1)) pe_int (fun _ _ => rfl))))) pss_nil)
      (pss_one (ps_if (pt_cmpR op_ne (pv 3) pe_int (nomark _)) (pss_one (ps_expr (pe_bm PySem.F.plainAttrs_list PySem.F.slot_list_append PySem.F.type_list_append mt_append (pv 1) (pa_cons (pe_tup (pa_cons (pv 2) (pa_cons (pv 3) pa_nil))) pa_nil)))) pss_nil))))
      (pss_one (ps_ret (pe_tupleOf (by rfl) T.n_tuple (pv 1)))))), ?_⟩
  rintro B Q ds d rfl hM ⟨v, rfl, hl, rfl⟩ q
  refine x_seq (x_setN (en_lst (ds := wayL []) ea_nil (Nat.zero_le _)) fun p hp => ?_)
  refine x_sq (x_forT (ds := wayL v) (ex_v rfl) (fun u i ε L => ε = [some (.d (wayD v)), some (.v (.ref p)), none, none] ∧ L = [.lst p (wayL (redW (v.take i))), .know u (wayD v)]) (fun u => ⟨rfl, rfl⟩) (fun u i ε' L' ⟨_, h⟩ => by rw [h]; simp [wayD]) ?_ ?_)
  · rintro u i d ε' L' hd ⟨rfl, rfl⟩
    obtain ⟨x, hx, rfl⟩ := way_get hd
    have hlen : (redW (v.take i)).length ≤ 5000 := by
      have h1 := (tot_red (v.take i)).2
      have h2 : (v.take i).length ≤ v.length := by rw [List.length_take]; omega
      omega
    refine ⟨_, gt_tup2 (d := .int x.1) (e := .int x.2), ?_⟩
    rw [fold_take hx]
    generalize redW (v.take i) = f0 at *
    obtain ⟨m, n⟩ := x
    rcases snoc_cases f0 with rfl | ⟨g, y, rfl⟩
    · refine x_seq (x_if (b := false) (et_is (et_and (b := false) (c := false) (et_test (ex_neNil (ds := wayL []) (ex_v rfl) (.o (k := 0) rfl) (shaped_wayL []))) (fun h => nomatch h) (fun _ => rfl)) rfl) (fun h => nomatch h) fun _ => ?_)
      refine x_next (nxt (x_if (et_test (ex_neI (ex_v rfl) ex_cI)) (fun hc => ?_) fun hc => ?_))
      · have hn : n ≠ 0 := by simpa using hc
        refine x_app (k := 0) (d := stD (m, n)) (ex_v rfl) (ex_tup (ds := [.int m, .int n]) (ea_cons (ex_v rfl) (ea_cons (ex_v rfl) ea_nil)) (Nat.le_of_ble_eq_true rfl)) rfl ⟨0, _, rfl⟩ (by decide) ?_
        refine x_abs (ε' := [some (.d (wayD v)), some (.v (.ref p)), none, none]) ⟨rfl, ?_⟩ ⟨.inr rfl, .inr rfl, .inl rfl, .inl rfl, trivial⟩
        rw [step_nil, if_neg hn]; rfl
      · have hn : n = 0 := by simpa using hc
        refine x_next (x_abs (ε' := [some (.d (wayD v)), some (.v (.ref p)), none, none]) ⟨rfl, ?_⟩ ⟨.inr rfl, .inr rfl, .inl rfl, .inl rfl, trivial⟩)
        rw [step_nil, if_pos hn]
    · obtain ⟨m', n'⟩ := y
      have hne : (!(wayL (g ++ [(m', n')])).isEmpty) = true := by
        rw [wayL_app]
        cases wayL g <;> rfl
      have hlw : (wayL (g ++ [(m', n')])).length = g.length + 1 := by rw [wayL_len, List.length_append]; rfl
      rw [List.length_append, List.length_singleton] at hlen
      rw [step_snoc]
      refine x_seq (x_if (b := decide (m' = m)) (L1 := [.lst p (wayL (g ++ [(m', n')])), .know u (wayD v)]) (et_is (et_and (b := true) (et_is (et_test (ex_neNil (ds := wayL (g ++ [(m', n')])) (ex_v rfl) (.o (k := 0) rfl) (shaped_wayL _))) hne) (fun _ => et_test (ex_eqI (ex_ixT (ds := [.int m', .int n']) (ex_ixL (ds := wayL (g ++ [(m', n')])) (ex_v rfl) (ex_neg ex_cI) (.o (k := 0) rfl) (at_last g (m', n'))) ex_cI rfl) (ex_v rfl))) (fun h => nomatch h)) rfl) (fun hc => ?_) fun hc => ?_)
      · have hm : m' = m := of_decide_eq_true hc
        subst hm
        rw [if_pos (show (m', n').1 = (m', n).1 from rfl)]
        refine x_set (a := .d (.int (n + n'))) (ex_add (ex_v rfl) (ex_ixT (ds := [.int m', .int n']) (ex_popW (k := 0) (y := (m', n')) (ex_v rfl) rfl) ex_cI rfl)) ?_
        refine nxt (x_if (et_test (ex_neI (ex_v rfl) ex_cI)) (fun hc => ?_) fun hc => ?_)
        · have hn : n + n' ≠ 0 := by simpa using hc
          refine x_app (k := 0) (d := stD (m', n + n')) (ex_v rfl) (ex_tup (ds := [.int m', .int (n + n')]) (ea_cons (ex_v rfl) (ea_cons (ex_v rfl) ea_nil)) (Nat.le_of_ble_eq_true rfl)) rfl ⟨0, _, rfl⟩ (by rw [wayL_len]; omega) ?_
          refine x_abs (ε' := [some (.d (wayD v)), some (.v (.ref p)), none, none]) ⟨rfl, ?_⟩ ⟨.inr rfl, .inr rfl, .inl rfl, .inl rfl, trivial⟩
          rw [if_neg (show ¬ (m', n).2 + (m', n').2 = 0 from hn), show wayL (g ++ [((m', n).1, (m', n).2 + (m', n').2)]) = wayL g ++ [stD (m', n + n')] from wayL_app _ _]; rfl
        · have hn : n + n' = 0 := by simpa using hc
          refine x_next (x_abs (ε' := [some (.d (wayD v)), some (.v (.ref p)), none, none]) ⟨rfl, ?_⟩ ⟨.inr rfl, .inr rfl, .inl rfl, .inl rfl, trivial⟩)
          rw [if_pos (show (m', n).2 + (m', n').2 = 0 from hn)]; rfl
      · have hm : ¬ m' = m := of_decide_eq_false hc
        rw [if_neg (show ¬ (m', n').1 = (m, n).1 from hm)]
        refine x_next (nxt (x_if (et_test (ex_neI (ex_v rfl) ex_cI)) (fun hc => ?_) fun hc => ?_))
        · have hn : n ≠ 0 := by simpa using hc
          refine x_app (k := 0) (d := stD (m, n)) (ex_v rfl) (ex_tup (ds := [.int m, .int n]) (ea_cons (ex_v rfl) (ea_cons (ex_v rfl) ea_nil)) (Nat.le_of_ble_eq_true rfl)) rfl ⟨0, _, rfl⟩ (by rw [wayL_len, List.length_append, List.length_singleton]; omega) ?_
          refine x_abs (ε' := [some (.d (wayD v)), some (.v (.ref p)), none, none]) ⟨rfl, ?_⟩ ⟨.inr rfl, .inr rfl, .inl rfl, .inl rfl, trivial⟩
          rw [if_neg (show ¬ (m, n).2 = 0 from hn), show wayL (g ++ [(m', n')] ++ [(m, n)]) = wayL (g ++ [(m', n')]) ++ [stD (m, n)] from wayL_app _ _]; rfl
        · have hn : n = 0 := by simpa using hc
          refine x_next (x_abs (ε' := [some (.d (wayD v)), some (.v (.ref p)), none, none]) ⟨rfl, ?_⟩ ⟨.inr rfl, .inr rfl, .inl rfl, .inl rfl, trivial⟩)
          rw [if_pos (show (m, n).2 = 0 from hn)]
  · rintro u ε' L' ⟨rfl, rfl⟩
    refine nxt (x_ret (ex_is (ex_tupL (ds := wayL (redW v)) (ex_v rfl) (.o (k := 0) (by rw [wayL_len, List.take_length]; rfl))) rfl) fun v F σ H r o => q v F H (hM ▸ r.nx) o)
end K86

/-! ## B3 -/
set_option Elab.async false
set_option linter.all false
set_option maxRecDepth 100000
set_option maxHeartbeats 4000000
set_option autoImplicit false
namespace K86
open PySem L2 Fz K80 Ways
variable {P : Program} {w : World} {K : PySem.W.Frag} {mg : Str → Option Value} {base : Heap} {f : Addr} {fd : FuncData}
theorem eqv_int (a b : Int) : PyData.eqv (.int a) (.int b) = decide (a = b) := by
  show (a == b) = decide (a = b)
  by_cases h : a = b
  · subst h; simp
  · rw [decide_eq_false h, beq_eq_false_iff_ne.mpr h]
theorem eqv_ints : ∀ a b : List Int, PyData.eqvAll (a.map PyData.int) (b.map PyData.int) = decide (a = b)
  | [], [] => by simp [PyData.eqvAll]
  | [], _ :: _ => by simp [PyData.eqvAll]
  | _ :: _, [] => by simp [PyData.eqvAll]
  | x :: a, y :: b => by
    show (PyData.eqv (.int x) (.int y) && PyData.eqvAll (a.map PyData.int) (b.map PyData.int)) = _
    rw [eqv_int, eqv_ints a b]
    by_cases h1 : x = y
    · subst h1
      by_cases h2 : a = b
      · subst h2; simp
      · simp [h2]
    · simp [h1]
theorem eqv_st (x y : Int × Int) : PyData.eqv (stD x) (stD y) = decide (x = y) := by
  obtain ⟨a, b⟩ := x
  obtain ⟨c, d⟩ := y
  show PyData.eqvAll ([a, b].map PyData.int) ([c, d].map PyData.int) = _
  rw [eqv_ints]
  simp
theorem eqv_way : ∀ a b : Way, PyData.eqv (wayD a) (wayD b) = decide (a = b)
  | [], [] => by simp [wayD, wayL, PyData.eqv, PyData.eqvAll]
  | [], _ :: _ => by simp [wayD, wayL, PyData.eqv, PyData.eqvAll]
  | _ :: _, [] => by simp [wayD, wayL, PyData.eqv, PyData.eqvAll]
  | x :: a, y :: b => by
    show (PyData.eqv (stD x) (stD y) && PyData.eqv (wayD a) (wayD b)) = _
    rw [eqv_st, eqv_way a b]
    by_cases h1 : x = y
    · subst h1
      by_cases h2 : a = b
      · subst h2; simp
      · simp [h2]
    · simp [h1]
theorem eqv_fr {a b n : Int} (hn : 0 < n) : PyData.eqv (frD a n) (frD b n) = decide (a = b) := by
  show PyData.eqvAll ([a / (Int.gcd a n : Int), n / (Int.gcd a n : Int)].map PyData.int) ([b / (Int.gcd b n : Int), n / (Int.gcd b n : Int)].map PyData.int) = _
  rw [eqv_ints]
  by_cases h : a = b
  · subst h; simp
  · rw [decide_eq_false h]
    refine decide_eq_false fun z => h ?_
    injection z with z1 z2
    injection z2 with z2 _
    obtain ⟨e1, e2, p1⟩ := fr_parts a hn
    obtain ⟨e3, e4, p2⟩ := fr_parts b hn
    have hg : (Int.gcd a n : Int) = (Int.gcd b n : Int) := by
      rw [z2] at e2
      have := e2.symm.trans e4
      exact Int.eq_of_mul_eq_mul_left (by omega) this
    rw [e1, e3, z1, hg]
theorem shaped_way (v : Way) : SeqAt.shaped (wayD v) = true := by
  obtain ⟨h1, h2⟩ := lay_way v
  unfold SeqAt.shaped
  show (PyData.canLayAll0 (wayL v) && decide (PyData.depthAll (wayL v) + 1 ≤ 64)) = true
  rw [h1, decide_eq_true (by omega)]; rfl
def R_samew : List PyData → PyData → Prop := fun ds d => ∃ u v : Way, ds = [wayD u, wayD v] ∧ u.length ≤ 5000 ∧ v.length ≤ 5000 ∧ d = .bool (decide (redW u = redW v))
theorem ok_are_same_ways (Fn : Fun K "are_same_ways" "are_same_ways" s_are_same_ways f fd) (T : Bt P mg base) (C_reduced_way : Df P w K mg base 41 "reduced_way" ["way"] (spR K R_red)) : FnOk P w K mg base CX0 42 f fd ["one", "other"] (spR K R_samew) := by
  refine fn_data Fn sc_are_same_ways (by decide) (fun ds d ⟨_, _, h, _⟩ => by rw [h]; rfl) fun cdv A outer s H E hr => ⟨_, (pss_one (ps_ret (pe_cmpR (r := rEqD K) (op_eqD hr.units) (pe_callD C_reduced_way (hr.mono (by decide)) (by rfl) (pa_cons (pv 0) pa_nil)) (pe_callD C_reduced_way (hr.mono (by decide)) (by rfl) (pa_cons (pv 1) pa_nil)) (nomark _)))), ?_⟩
  rintro B Q ds d rfl hM ⟨u, v, rfl, hu, hv, rfl⟩ q
  exact x_ret (ex_boolE (ex_eqD (ex_call (ds := [wayD u]) (d := wayD (redW u)) (ea_cons (ex_v rfl) ea_nil) ⟨u, rfl, hu, rfl⟩) (ex_call (ds := [wayD v]) (d := wayD (redW v)) (ea_cons (ex_v rfl) ea_nil) ⟨v, rfl, hv, rfl⟩) (shaped_way _) (shaped_way _)) (eqv_way _ _)) fun v F σ H r o => q v F H (hM ▸ r.nx) o
/-! ### shares of a stride -/
theorem frD_one : frD 1 (fac 0 : Int) = .tuple [.int 1, .int 1] := by
  unfold frD
  have e : (Int.gcd 1 ((fac 0 : Nat) : Int) : Int) = 1 := by decide
  rw [e]; rfl
def shareL (s : Int) (n : Nat) : List PyData := (List.range n).map fun j => frD (s ^ j) (fac j : Int)
def R_shares : List PyData → PyData → Prop := fun ds d => ∃ (s : Int) (m : Nat), ds = [.int s, .int m] ∧ m ≤ 40 ∧ Bd 60 s ∧ d = .list (shareL s (m + 1))
theorem ok_stride_shares (Fn : Fun K "stride_shares" "stride_shares" s_stride_shares f fd) (T : Bt P mg base) (C_fraction_of : Df P w K mg base 42 "fraction_of" ["top", "bottom"] (spR K R_frac)) : FnOk P w K mg base CX0 43 f fd ["length", "many"] (spR K R_shares) := by
  refine fn_data Fn sc_stride_shares (by decide) (fun ds d ⟨_, _, h, _⟩ => by rw [h]; rfl) fun cdv A outer s H E hr => ⟨_, (pss_cons (ps_par3 (i := 2) (j := 3) (l := 4) (by rfl) sc_stride_shares.nd rfl rfl rfl (by decide) (by decide) (by decide) rfl rfl rfl (pa_cons (pe_lst (pa_cons (pe_tup (pa_cons pe_int (pa_cons pe_int pa_nil))) pa_nil)) (pa_cons pe_int (pa_cons pe_int pa_nil))) (by rfl))
      (pss_cons (ps_for PassesOwn.never rfl (pi_range1 (by rfl) T.n_range (pa_cons (pv 1) pa_nil)) (pg_name (i := 5) sc_stride_shares.nd rfl (Or.inl rfl)) (pss_cons (ps_par (i := 3) (j := 4) (by rfl) sc_stride_shares.nd rfl rfl (by decide) rfl rfl (pa_cons (pe_op op_mulW (pv 3) (pv 0)) (pa_cons (pe_op op_mulW (pv 4) (pe_op op_add (pv 5) pe_int)) pa_nil)) (by rfl))
      (pss_one (ps_expr (pe_bm PySem.F.plainAttrs_list PySem.F.slot_list_append PySem.F.type_list_append mt_append (pv 2) (pa_cons (pe_callD C_fraction_of (hr.mono (by decide)) (by rfl) (pa_cons (pv 3) (pa_cons (pv 4) pa_nil))) pa_nil))))))
      (pss_one (ps_ret (pv 2))))), ?_⟩
  rintro B Q ds d rfl hM ⟨s, m, rfl, hm, hs, rfl⟩ q
  refine x_seq (x_par3N (ds := shareL s 1) (en_is (en_lst (ds := [.tuple [.int 1, .int 1]]) (ea_cons (ex_tup (ds := [.int 1, .int 1]) (ea_cons ex_cI (ea_cons ex_cI ea_nil)) (Nat.le_of_ble_eq_true rfl)) ea_nil) (Nat.le_of_ble_eq_true rfl)) (by show _ = [frD (s ^ 0) (fac 0 : Int)]; rw [Int.pow_zero, frD_one])) (fun p => ex_cI) (fun p => ex_cI) fun p hp => ?_)
  refine x_sq (x_forR1 (n := m) (ea_cons (ex_v rfl) ea_nil) (by omega) (fun i ε L => ε = [iv s, iv m, some (.v (.ref p)), iv (s ^ i), iv (fac i : Int), none] ∧ L = [.lst p (shareL s (i + 1))]) ⟨by rw [Int.pow_zero]; rfl, rfl⟩ ?_ ?_)
  · rintro i ε' L' hi ⟨rfl, rfl⟩
    have hpb : Bd 2500 (s ^ i) := (hs.pow i).mono (by omega)
    refine x_seq (x_par (a := .d (.int (s ^ (i + 1)))) (b := .d (.int (fac (i + 1) : Nat))) (ea_cons (ex_int (ex_mul (ex_v rfl) (ex_v rfl) (cmul hpb hs (by decide))) (by rw [Int.pow_succ])) (ea_cons (ex_int (ex_mul (ex_v rfl) (ex_add (ex_v rfl) ex_cI) (cmul (fac_bd' (by omega)) (Bd.of (k := 7) (n := 128) (by omega) (by omega) (by decide)) (by decide))) (by rw [fac_succ, Int.natCast_mul]; rfl)) ea_nil)) ?_)
    refine nxt (x_app (k := 0) (d := frD (s ^ (i + 1)) (fac (i + 1) : Nat)) (ex_v rfl) (ex_call (ds := [.int (s ^ (i + 1)), .int (fac (i + 1) : Nat)]) (ea_cons (ex_v rfl) (ea_cons (ex_v rfl) ea_nil)) ⟨_, _, rfl, by have := fac_pos (i + 1); omega, rfl⟩) rfl ⟨0, _, rfl⟩ (by unfold shareL; rw [List.length_map, List.length_range]; omega) ?_)
    refine x_abs ⟨rfl, ?_⟩ ⟨.inr rfl, .inr rfl, .inr rfl, .inr rfl, .inr rfl, .inl rfl, trivial⟩
    show [MO.lst p _] = [MO.lst p _]
    unfold shareL
    rw [List.range_succ (n := i + 1), List.map_append]; rfl
  · rintro ε' L' ⟨rfl, rfl⟩
    refine nxt (x_ret (L1 := []) (ex_frzV (k := 0) rfl rfl hp) fun v F σ H r o => q v F H (hM ▸ r.nx) ?_)
    rw [Int.toNat_natCast] at o
    exact o
end K86

/-! ## B4 -/
set_option Elab.async false
set_option linter.all false
set_option maxRecDepth 100000
set_option maxHeartbeats 4000000
set_option autoImplicit false
namespace K86
open PySem L2 Fz K80 Ways
variable {P : Program} {w : World} {K : PySem.W.Frag} {mg : Str → Option Value} {base : Heap} {f : Addr} {fd : FuncData}
theorem en_rep {B : Bg} {ε : Eps} {L La Lb : Own} {ta tb : TE} {x : AD} {ds : List PyData} {n : Nat} (ha : EX B ta ε L x La) (hb : EX B tb ε La (.d (.int n)) Lb) (hx : IsM Lb x ds) (hl : ds.length * n ≤ 100000) (hn : n ≤ 100000) : EN B (tOp rRep ta tb) ε L (List.replicate n ds).flatten Lb := en_op ha hb fun F σ H v w rp hv hw Q q => by
  obtain ⟨p, vs, rfl, g1, g2⟩ := hx.get rp hv
  refine ⟨p, n, vs, rfl, int_inv hw, g1, by omega, by omega, Evl.sz_of (by rw [dpa_len g2, Int.toNat_natCast]; exact hl), fun p' hp' => q p' F _ (Sub.rfl' F) (rp.newM hp') (rp.alloc hp' rfl ⟨_, upd_same, ?_⟩)⟩
  rw [Int.toNat_natCast]
  have : ∀ m : Nat, DqAll B.K F (List.replicate m vs).flatten (List.replicate m ds).flatten := fun m => by
    induction m with
    | zero => exact .nil
    | succ m ih => rw [List.replicate_succ, List.replicate_succ, List.flatten_cons, List.flatten_cons]; exact dpa_app g2 ih
  exact this n
def frL (A : Nat → Int) (n : Nat) : List PyData := (List.range n).map fun p => frD (A p) (fac p : Int)
theorem frL_len (A : Nat → Int) (n : Nat) : (frL A n).length = n := by unfold frL; rw [List.length_map, List.length_range]
theorem frL_get (A : Nat → Int) {n p : Nat} (h : p < n) : (frL A n)[p]? = some (frD (A p) (fac p : Int)) := by
  unfold frL; rw [List.getElem?_map, List.getElem?_range h]; rfl
theorem frL_congr {A A' : Nat → Int} {n : Nat} (h : ∀ p, p < n → A p = A' p) : frL A n = frL A' n := by
  unfold frL
  exact List.map_congr_left fun p hp => by rw [h p (List.mem_range.mp hp)]
theorem frL_set (A : Nat → Int) {n k : Nat} (z : Int) (hk : k < n) : (frL A n).set k (frD z (fac k : Int)) = frL (fun p => if p = k then z else A p) n := by
  refine List.ext_getElem? fun i => ?_
  rw [List.getElem?_set]
  by_cases hi : i < n
  · rw [frL_get (fun p => if p = k then z else A p) hi, frL_len]
    by_cases c : k = i
    · subst c; rw [if_pos rfl, if_pos hi, if_pos rfl]
    · rw [if_neg c, frL_get A hi, if_neg (fun e => c e.symm)]
  · rw [List.getElem?_eq_none (by rw [frL_len]; omega), List.getElem?_eq_none (by rw [frL_len]; omega)]
    split
    · rw [frL_len, if_neg (by omega)]
    · rfl
theorem frD_zero {n : Int} (h : 0 < n) : frD 0 n = .tuple [.int 0, .int 1] := by
  unfold frD
  have e : (Int.gcd 0 n : Int) = n := by rw [Int.gcd_zero_left]; omega
  rw [e, Int.zero_ediv, Int.ediv_self (by omega)]
theorem frL_e0 (n : Nat) : frL e0 (n + 1) = [.tuple [.int 1, .int 1]] ++ (List.replicate n [PyData.tuple [.int 0, .int 1]]).flatten := by
  induction n with
  | zero =>
    show [frD (e0 0) (fac 0 : Int)] = _
    rw [show e0 0 = 1 from rfl, frD_one]; rfl
  | succ n ih =>
    have h1 : frL e0 (n + 1 + 1) = frL e0 (n + 1) ++ [frD (e0 (n + 1)) (fac (n + 1) : Nat)] := by unfold frL; rw [List.range_succ, List.map_append]; rfl
    have h2 : e0 (n + 1) = 0 := by unfold e0; rw [if_neg (by omega)]
    rw [h1, ih, h2, frD_zero (by have := fac_pos (n + 1); omega), List.replicate_succ', List.flatten_append, List.append_assoc]; rfl
theorem share_get (s : Int) {n j : Nat} (h : j < n) : (shareL s n)[j]? = some (frD (s ^ j) (fac j : Int)) := by
  unfold shareL; rw [List.getElem?_map, List.getElem?_range h]; rfl
theorem div_zero_iff {a b : Int} (hb : 0 < b) : a / (Int.gcd a b : Int) = 0 ↔ a = 0 := by
  obtain ⟨e1, _, _⟩ := fr_parts a hb
  constructor
  · intro h; rw [e1, h]; simp
  · intro h; rw [h]; simp
/-- a share laid on what is there -/
theorem plus_run {A x S C F1 F2 FE : Int} (h1 : 0 < F1) (h2 : 0 < F2) (hE : FE = C * (F1 * F2)) (hp : 0 < FE) : frD (A * (F1 * F2) + (x * S) * FE) (FE * (F1 * F2)) = frD (A + C * S * x) FE := by
  have h12 := Int.mul_pos h1 h2
  refine frD_ratio (Int.mul_pos hp h12) hp ?_
  subst hE
  generalize F1 * F2 = G at *
  rw [Int.add_mul, Int.add_mul]
  congr 1 <;> simp only [Int.mul_assoc, Int.mul_left_comm, Int.mul_comm]
def R_wsum : List PyData → PyData → Prop := fun ds d => ∃ (v : Way) (word : List Int), ds = [wayD v, ti word] ∧ word.length ≤ 40 ∧ v.length ≤ 5000 ∧ tot v < 2 ^ 50 ∧ d = frD (rowF word v word.length) (fac word.length : Int)
theorem tot_take (v : Way) (i : Nat) : tot (v.take i) ≤ tot v := by
  have h := tot_app (v.take i) (v.drop i)
  rw [List.take_append_drop] at h
  omega
theorem tot_mem {v : Way} {i : Nat} {x : Int × Int} (h : v[i]? = some x) : tot (v.take i) + x.2.natAbs ≤ tot v := by
  have h1 := tot_take v (i + 1)
  rw [List.take_add_one, h, tot_app] at h1
  have e : tot ((some x).toList : Way) = x.2.natAbs := by show x.2.natAbs + 0 = _; omega
  omega
theorem bd_pow {x : Int} {t p : Nat} (h : x.natAbs ≤ t ^ p) (ht : t < 2 ^ 50) (hp : p ≤ 40) : Bd 2001 x := by
  unfold Bd
  refine Nat.lt_of_le_of_lt h ?_
  have h1 : t ^ p ≤ (2 ^ 50) ^ p := Nat.pow_le_pow_left (by omega) p
  have h2 : (2 ^ 50) ^ p ≤ (2 ^ 50) ^ 40 := Nat.pow_le_pow_right (by decide) hp
  have h3 : (2 ^ 50) ^ 40 < 2 ^ 2001 := by decide +kernel
  omega
theorem rows_snoc' (word : List Int) {v : Way} {i : Nat} {x : Int × Int} (h : v[i]? = some x) : rowF word (v.take (i + 1)) = opT word x.1 x.2 (rowF word (v.take i)) := by
  unfold rowF
  rw [List.take_add_one, h, row_app]; rfl
end K86

/-! ## B5 -/
set_option Elab.async false
set_option linter.all false
set_option maxRecDepth 100000
set_option maxHeartbeats 4000000
set_option autoImplicit false
namespace K86
open PySem L2 Fz K80 Ways
variable {P : Program} {w : World} {K : PySem.W.Frag} {mg : Str → Option Value} {base : Heap} {f : Addr} {fd : FuncData}
def runT (word : List Int) (l s : Int) (r : Nat → Int) (b j p : Nat) : Int := partT word l s r b p + (if b < p ∧ p ≤ b + j then wt word l s p (p - b) * r b else 0)
theorem ok_way_sum (Fn : Fun K "way_sum" "way_sum" s_way_sum f fd) (T : Bt P mg base) (C_stride_shares : Df P w K mg base 43 "stride_shares" ["length", "many"] (spR K R_shares)) (C_fraction_plus : Df P w K mg base 43 "fraction_plus" ["one", "other"] (spR K R_plus))
    (C_fraction_times : Df P w K mg base 43 "fraction_times" ["one", "other"] (spR K R_tim)) : FnOk P w K mg base CX0 44 f fd ["way", "word"] (spR K R_wsum) := by
  refine fn_data Fn sc_way_sum (by decide) (fun ds d ⟨_, _, h, _⟩ => by rw [h]; rfl) fun cdv A outer s H E hr => ⟨_, (pss_cons (ps_set (i := 2) sc_way_sum.nd rfl (.inl rfl) (pe_op op_cat (pe_lst (pa_cons (pe_tup (pa_cons pe_int (pa_cons pe_int pa_nil))) pa_nil)) (pe_op op_rep (pe_lst (pa_cons (pe_tup (pa_cons pe_int (pa_cons pe_int pa_nil))) pa_nil)) (pe_callB (r := Evl.rLenS K) call_len_seq (by rfl) T.n_len (by decide +kernel) (pa_cons (pv 1) pa_nil)))))
      (pss_cons (ps_for PassesOwn.never rfl (pi_tup (pv 0)) (pg_tup rfl (pgs_cons (pg_name (i := 3) sc_way_sum.nd rfl (Or.inl rfl)) (pgs_cons (pg_name (i := 4) sc_way_sum.nd rfl (Or.inl rfl)) pgs_nil))) (pss_cons (ps_par (i := 5) (j := 6) (by rfl) sc_way_sum.nd rfl rfl (by decide) rfl rfl (pa_cons (pe_callD C_stride_shares (hr.mono (by decide)) (by rfl) (pa_cons (pv 4) (pa_cons (pe_callB (r := Evl.rLenS K) call_len_seq (by rfl) T.n_len (by decide +kernel) (pa_cons (pv 1) pa_nil)) pa_nil))) (pa_cons (pe_callTy (r := rListOf K) call_list_of (by rfl) T.n_list (by decide +kernel) (pa_cons (pv 2) pa_nil)) pa_nil)) (by rfl))
      (pss_cons (ps_for PassesOwn.never rfl (pi_enum (by rfl) T.n_enumerate (pa_cons (pv 2) pa_nil)) (pg_tup rfl (pgs_cons (pg_name (i := 7) sc_way_sum.nd rfl (Or.inl rfl)) (pgs_cons (pg_name (i := 8) sc_way_sum.nd rfl (Or.inl rfl)) pgs_nil))) (pss_cons (ps_set (i := 9) sc_way_sum.nd rfl (.inl rfl) (pv 7))
      (pss_one (ps_while PassesOwn.never (PW.pt (pw_and (pt_cmpR op_ne (pe_ix (r := rIxT K) ix_tup (pv 8) pe_int (fun _ _ => rfl)) pe_int (nomark _)) (pw_and (pt_cmpR op_lt (pv 9) (pe_callB (r := Evl.rLenS K) call_len_seq (by rfl) T.n_len (by decide +kernel) (pa_cons (pv 1) pa_nil)) (nomark _)) (pw_and1 (pt_cmpR op_eq (pe_ix (r := rIxT K) ix_tup (pv 1) (pv 9) (fun _ _ => rfl)) (pv 3) (nomark _)))))) (pss_cons (ps_set (i := 9) sc_way_sum.nd rfl (.inl rfl) (pe_op op_add (pv 9) pe_int))
      (pss_one (ps_asg (pe_callD C_fraction_plus (hr.mono (by decide)) (by rfl) (pa_cons (pe_ix (r := rIxL K) ix_list (pv 6) (pv 9) (fun _ _ => rfl)) (pa_cons (pe_callD C_fraction_times (hr.mono (by decide)) (by rfl) (pa_cons (pv 8) (pa_cons (pe_ix (r := rIxL K) ix_list (pv 5) (pe_op op_sub (pv 9) (pv 7)) (fun _ _ => rfl)) pa_nil))) pa_nil))) (pg_sub (pv 6) (pv 9) set_list))))))))
      (pss_one (ps_set (i := 2) sc_way_sum.nd rfl (.inl rfl) (pe_callTy (r := rListOf K) call_list_of (by rfl) T.n_list (by decide +kernel) (pa_cons (pv 6) pa_nil)))))))
      (pss_one (ps_ret (pe_ix (r := rIxL K) ix_list (pv 2) (pe_un un_neg pe_int) (fun _ _ => rfl)))))), ?_⟩
  rintro B Q ds d rfl hM ⟨v, word, rfl, hn, hvl, htot, rfl⟩ q
  generalize hwn : word.length = n at *
  have hlen : ((word.map PyData.int).length : Int) = (n : Int) := by rw [List.length_map, hwn]
  have hf : ∀ p, (0 : Int) < (fac p : Int) := fun p => by have := fac_pos p; omega
  refine x_seq (x_set (a := .d (.list (frL e0 (n + 1)))) (ex_is (ex_frz (en_cat (ds := [.tuple [.int 1, .int 1]]) (es := (List.replicate n [PyData.tuple [.int 0, .int 1]]).flatten) (ex_frz (en_lst (ds := [.tuple [.int 1, .int 1]]) (ea_cons (ex_tup (ds := [.int 1, .int 1]) (ea_cons ex_cI (ea_cons ex_cI ea_nil)) (Nat.le_of_ble_eq_true rfl)) ea_nil) (Nat.le_of_ble_eq_true rfl)))
    (ex_frz (en_rep (n := n) (ds := [.tuple [.int 0, .int 1]]) (ex_frz (en_lst (ds := [.tuple [.int 0, .int 1]]) (ea_cons (ex_tup (ds := [.int 0, .int 1]) (ea_cons ex_cI (ea_cons ex_cI ea_nil)) (Nat.le_of_ble_eq_true rfl)) ea_nil) (Nat.le_of_ble_eq_true rfl))) (ex_int (ex_lenT (ds := word.map PyData.int) (ex_v rfl) rfl) hlen) .d (by show 1 * n ≤ 100000; omega) (by omega))) .d .d ?_)) (by rw [frL_e0])) ?_)
  · rw [List.length_flatten, List.map_replicate, List.sum_replicate_nat]
    show 1 + n * 1 ≤ 100000
    omega
  refine x_sq (x_forT (ds := wayL v) (ex_v rfl) (fun u i ε L => ε = [some (.d (wayD v)), some (.d (ti word)), some (.d (.list (frL (rowF word (v.take i)) (n + 1)))), none, none, none, none, none, none, none] ∧ L = [.know u (wayD v)]) (fun u => ⟨rfl, rfl⟩) (fun u i ε' L' ⟨_, h⟩ => by rw [h]; simp [wayD]) ?_ ?_)
  · rintro u i d ε' L' hd ⟨rfl, rfl⟩
    obtain ⟨x, hx, rfl⟩ := way_get hd
    have hrow := rowF_le word (v.take i)
    have htm := tot_mem hx
    rw [rows_snoc' word hx]
    generalize rowF word (v.take i) = r at *
    obtain ⟨l, s⟩ := x
    have hts : tot (v.take i) + s.natAbs < 2 ^ 50 := by
      have : tot (v.take i) + s.natAbs ≤ tot v := htm
      omega
    have hrb : ∀ p, p ≤ 40 → Bd 2001 (r p) := fun p hp => bd_pow (hrow p) (by omega) hp
    have hpb : ∀ b p, p ≤ 40 → Bd 2001 (partT word l s r b p) := fun b p hp => bd_pow (part_le hrow b p) hts hp
    have hsb : Bd 60 s := by
      unfold Bd
      have : (2 : Nat) ^ 50 ≤ 2 ^ 60 := by decide
      omega
    refine ⟨_, gt_tup2 (d := .int l) (e := .int s), ?_⟩
    refine x_seq (x_parN (a := .d (.list (shareL s (n + 1)))) (ex_call (ds := [.int s, .int n]) (ea_cons (ex_v rfl) (ea_cons (ex_int (ex_lenT (ds := word.map PyData.int) (ex_v rfl) rfl) hlen) ea_nil)) ⟨s, n, rfl, hn, hsb, rfl⟩) (en_list (ds := frL r (n + 1)) (ex_v rfl) .d) fun pl hpl => ?_)
    refine x_sq (x_forE (ds := frL r (n + 1)) (ea_cons (ex_v rfl) ea_nil) (fun u2 b ε L => ε = [some (.d (wayD v)), some (.d (ti word)), some (.d (.list (frL r (n + 1)))), iv l, iv s, some (.d (.list (shareL s (n + 1)))), some (.v (.ref pl)), none, none, none] ∧ L = [.lst pl (frL (partT word l s r b) (n + 1)), .know u (wayD v), .know u2 (.list (frL r (n + 1)))])
      (fun u2 => ⟨rfl, by rw [frL_congr (A := partT word l s r 0) (A' := r) fun p _ => part_zero word l s r p]; rfl⟩) (fun u2 b ε' L' ⟨_, h⟩ => by rw [h]; simp) ?_ ?_)
    · rintro u2 b d ε' L' hd ⟨rfl, rfl⟩
      have hb : b < n + 1 := by
        have := (List.getElem?_eq_some_iff.mp hd).1
        rw [frL_len] at this
        exact this
      rw [frL_get r hb] at hd
      cases hd
      refine ⟨_, gt_tup2 (d := .int (b : Int)) (e := frD (r b) (fac b : Int)), ?_⟩
      refine x_seq (x_set (ex_v rfl) ?_)
      have hd0 := div_zero_iff (a := r b) (hf b)
      refine nxt (x_while (m0 := n - b) (fun m ε L => ∃ j : Nat, b + j ≤ n ∧ m = n - (b + j) ∧ runs word l (b + j) j = true ∧ (j = 0 ∨ r b ≠ 0) ∧ ε = [some (.d (wayD v)), some (.d (ti word)), some (.d (.list (frL r (n + 1)))), iv l, iv s, some (.d (.list (shareL s (n + 1)))), some (.v (.ref pl)), iv b, some (.d (frD (r b) (fac b : Int))), iv ((b + j : Nat) : Int)] ∧ L = [.lst pl (frL (runT word l s r b j) (n + 1)), .know u (wayD v), .know u2 (.list (frL r (n + 1)))])
        ⟨0, by omega, by omega, rfl, .inl rfl, rfl, ?_⟩ ?_)
      · have e : frL (runT word l s r b 0) (n + 1) = frL (partT word l s r b) (n + 1) := frL_congr fun p _ => by
          unfold runT
          rw [if_neg (by omega)]; omega
        rw [e]
      · rintro m ε' L' ⟨j, hj, rfl, hrun, hj0, rfl, rfl⟩
        refine ⟨_, _, et_and (et_test (ex_neI (ex_ixT (ds := [.int (r b / (Int.gcd (r b) (fac b : Int) : Int)), .int ((fac b : Int) / (Int.gcd (r b) (fac b : Int) : Int))]) (ex_v rfl) ex_cI rfl) ex_cI)) (fun _ => et_and (et_test (ex_lt (ex_v rfl) (ex_int (ex_lenT (ds := word.map PyData.int) (ex_v rfl) rfl) hlen))) (fun h2 => et_test (ex_eqI (ex_ixT (ds := word.map PyData.int) (d := .int (word.getD (b + j) 0)) (ex_v rfl) (ex_v rfl) (at_ints (by have := of_decide_eq_true h2; omega))) (ex_v rfl))) (fun _ => rfl)) (fun _ => rfl), fun hc => ?_, fun hc => ?_⟩
        · rw [Bool.and_eq_true, Bool.and_eq_true] at hc
          obtain ⟨c1, c2, c3⟩ := hc
          have hr0 : r b ≠ 0 := fun z => by
            rw [hd0.mpr z] at c1
            exact absurd c1 (by decide)
          have hlt : b + j < n := by have := of_decide_eq_true c2; omega
          have hlet : word.getD (b + j) 0 = l := of_decide_eq_true c3
          have hrun' := runs_grow hrun hlet
          refine x_seq (x_set (a := .d (.int ((b + (j + 1) : Nat) : Int))) (ex_int (ex_add (ex_v rfl) ex_cI) (by omega)) ?_)
          have hF : (fac (b + (j + 1)) : Int) = (ch (b + (j + 1)) (j + 1) : Int) * ((fac b : Int) * (fac (j + 1) : Int)) := by
            rw [← Int.natCast_mul, ← Int.natCast_mul, ch_fac]
          have hrunE : runT word l s r b j (b + (j + 1)) = partT word l s r b (b + (j + 1)) := by
            unfold runT
            rw [if_neg (by omega)]; omega
          have hval : frD (runT word l s r b j (b + (j + 1)) * ((fac b : Int) * (fac (j + 1) : Int)) + (r b * s ^ (j + 1)) * (fac (b + (j + 1)) : Int)) ((fac (b + (j + 1)) : Int) * ((fac b : Int) * (fac (j + 1) : Int))) = frD (runT word l s r b (j + 1) (b + (j + 1))) (fac (b + (j + 1)) : Int) := by
            rw [plus_run (hf b) (hf (j + 1)) hF (hf _), hrunE]
            congr 1
            unfold runT
            have e : b + (j + 1) - b = j + 1 := by omega
            rw [if_pos (by omega), e]
            unfold wt
            rw [if_pos hrun']
          have bf : ∀ p, p ≤ 40 → Bd 400 (fac p : Int) := fun p hp => fac_bd' (by omega)
          have bsj : Bd 2401 (s ^ (j + 1)) := (hsb.pow (j + 1)).mono (by omega)
          refine nxt (x_setIx (k := 0) (j := b + (j + 1)) (ds := frL (runT word l s r b j) (n + 1)) (d := frD (runT word l s r b (j + 1) (b + (j + 1))) (fac (b + (j + 1)) : Int)) (ex_is (ex_call (ds := [frD (runT word l s r b j (b + (j + 1))) (fac (b + (j + 1)) : Int), frD (r b * s ^ (j + 1)) ((fac b : Int) * (fac (j + 1) : Int))]) (ea_cons (ex_ixL (ds := frL (runT word l s r b j) (n + 1)) (ex_v rfl) (ex_v rfl) (.o (k := 0) rfl) (atI_nat (frL_get _ (by omega)))) (ea_cons (ex_call (ds := [frD (r b) (fac b : Int), frD (s ^ (j + 1)) (fac (j + 1) : Int)]) (ea_cons (ex_v rfl) (ea_cons (ex_ixL (ds := shareL s (n + 1)) (ex_v rfl) (ex_int (k := ((j + 1 : Nat) : Int)) (ex_sub (ex_v rfl) (ex_v rfl)) (by omega)) .d (atI_nat (share_get s (by omega)))) ea_nil))
            ⟨r b, _, s ^ (j + 1), _, rfl, hf b, hf (j + 1), (hrb b (by omega)).mono (by decide), (bf b (by omega)).mono (by decide), bsj.mono (by decide), (bf (j + 1) (by omega)).mono (by decide), rfl⟩) ea_nil)) ⟨_, _, _, _, rfl, hf _, Int.mul_pos (hf b) (hf (j + 1)), by rw [hrunE]; exact (hpb b _ (by omega)).mono (by decide), (bf _ (by omega)).mono (by decide), ?_, ((bf b (by omega)).mul (bf (j + 1) (by omega))).mono (by decide), rfl⟩) (by rw [hval])) (ex_v rfl) (ex_v rfl) rfl ?_ ?_)
          · exact ((hrb b (by omega)).mul bsj).mono (by decide)
          · rw [frL_len]
            unfold ixN
            rw [if_pos (by omega), if_pos (by omega), Int.toNat_natCast]
          · refine x_abs ⟨n - (b + (j + 1)), by omega, j + 1, by omega, rfl, hrun', .inr hr0, rfl, ?_⟩ (Wk.refl _)
            have e : (frL (runT word l s r b j) (n + 1)).set (b + (j + 1)) (frD (runT word l s r b (j + 1) (b + (j + 1))) (fac (b + (j + 1)) : Int)) = frL (runT word l s r b (j + 1)) (n + 1) := by
              rw [frL_set _ _ (by omega)]
              refine frL_congr fun p hp => ?_
              by_cases c : p = b + (j + 1)
              · rw [if_pos c, c]
              · rw [if_neg c]
                unfold runT
                by_cases c4 : b < p ∧ p ≤ b + j
                · rw [if_pos c4, if_pos (by omega)]
                · rw [if_neg c4, if_neg (by omega)]
            rw [e]; rfl
        · have efin : frL (runT word l s r b j) (n + 1) = frL (partT word l s r (b + 1)) (n + 1) := by
            refine frL_congr fun p hp => ?_
            rw [part_succ]
            unfold runT
            by_cases c4 : b < p ∧ p ≤ b + j
            · rw [if_pos c4, if_pos c4.1]
            · rw [if_neg c4]
              by_cases c5 : b < p
              · rw [if_pos c5]
                have hz : wt word l s p (p - b) * r b = 0 := by
                  by_cases c6 : r b = 0
                  · rw [c6, Int.mul_zero]
                  · have c1 : (!decide (r b / (Int.gcd (r b) (fac b : Int) : Int) = 0)) = true := by
                      rw [decide_eq_false fun z => c6 (hd0.mp z)]; rfl
                    have c2 : decide (((b + j : Nat) : Int) < (n : Int)) = true := decide_eq_true (by omega)
                    rw [c1, c2, Bool.true_and, Bool.true_and] at hc
                    have hne : word.getD (b + j) 0 ≠ l := of_decide_eq_false hc
                    unfold wt
                    rw [runs_end (e := b + j) (by omega) (by omega) hne]
                    simp
                rw [hz]
              · rw [if_neg c5]
          refine x_abs ⟨rfl, ?_⟩ ⟨.inr rfl, .inr rfl, .inr rfl, .inr rfl, .inr rfl, .inr rfl, .inr rfl, .inl rfl, .inl rfl, .inl rfl, trivial⟩
          rw [efin]
    · rintro u2 ε' L' ⟨rfl, rfl⟩
      have efin : frL (partT word l s r ((frL r (n + 1)).length)) (n + 1) = frL (opT word l s r) (n + 1) := by
        rw [frL_len]
        exact frL_congr fun p hp => part_full word l s r (by omega)
      rw [efin]
      refine x_set (a := .d (.list (frL (opT word l s r) (n + 1)))) (ex_frz (en_list (ds := frL (opT word l s r) (n + 1)) (ex_v rfl) (.o (k := 0) rfl))) ?_
      refine ho_drop (k := 0) (ho_drop (k := 1) (x_abs ⟨rfl, rfl⟩ ⟨.inr rfl, .inr rfl, .inr rfl, .inl rfl, .inl rfl, .inl rfl, .inl rfl, .inr rfl, .inr rfl, .inr rfl, trivial⟩) rfl (fun x hx => nomatch hx)) rfl (fun x hx => by rw [List.mem_singleton.mp hx]; exact hpl)
  · rintro u ε' L' ⟨rfl, rfl⟩
    have ev : v.take (wayL v).length = v := by rw [wayL_len, List.take_length]
    rw [ev]
    have el : frL (rowF word v) (n + 1) = frL (rowF word v) n ++ [frD (rowF word v n) (fac n : Int)] := by unfold frL; rw [List.range_succ, List.map_append]; rfl
    refine nxt (x_ret (ex_ixL (ds := frL (rowF word v) (n + 1)) (d := frD (rowF word v n) (fac n : Int)) (ex_v rfl) (ex_neg ex_cI) .d (by rw [el]; exact atI_last _ _)) fun v F σ H r o => q v F H (hM ▸ r.nx) o)
end K86

/-! ## B6 -/
set_option Elab.async false
set_option linter.all false
set_option maxRecDepth 100000
set_option maxHeartbeats 4000000
set_option autoImplicit false
namespace K86
open PySem L2 Fz K80 Ways
variable {P : Program} {w : World} {K : PySem.W.Frag} {mg : Str → Option Value} {base : Heap} {f : Addr} {fd : FuncData}
theorem small_div {n : Int} (h : 0 < n) (hn : n.natAbs < 2 ^ 8000) (i : Int) : CDivW i n := wide_div (b := 8000) h hn (by decide) (by decide)
theorem last_get {r : List Int} {c : Int} : (r.reverse ++ [c])[(r.reverse ++ [c]).length - 1]? = some c := by
  rw [List.length_append, List.length_singleton, Nat.add_sub_cancel, List.getElem?_append_right (Nat.le_refl _), Nat.sub_self]; rfl
theorem ok_law_draw (Fn : Fun K "_law_draw" "_law_draw" s_law_draw f fd) (T : Bt P mg base) : FnOk P w K mg base CX0 41 f fd ["bag", "below"] (spB K R_draw) := by
  refine fn_bag Fn sc_law_draw (by decide) (fun b ds d b' ⟨_, _, _, h, _⟩ => by rw [h]; rfl) fun cdv A outer s H E hr => ⟨_, (pss_cons (ps_while PassesOwn.never (PW.pt (pw_and (pt_cmpR op_eq (pe_ix (r := rIxL K) ix_list (pv 0) pe_int (fun _ _ => rfl)) pe_int (nomark _)) (pw_and1 (pt_cmpR (r := rNeD K) (op_neD hr.units) (pe_ix (r := rIxL K) ix_list (pv 0) pe_int (fun _ _ => rfl)) (pe_lst pa_nil) (nomark _))))) (pss_cons (ps_set (i := 3) sc_law_draw.nd rfl (.inl rfl) (pe_bm0 PySem.F.plainAttrs_list PySem.F.slot_list_pop PySem.F.type_list_pop mt_pop (pe_ix (r := rIxL K) ix_list (pv 0) pe_int (fun _ _ => rfl))))
      (pss_one (ps_asg (pe_ifExp (pt_cmpR op_gt (pv 3) (pe_op op_pow pe_int pe_int) (nomark _)) (pv 3) pe_int) (pg_sub (pv 0) pe_int set_list)))))
      (pss_cons (ps_if (pt_cmpR op_gt (pe_ix (r := rIxL K) ix_list (pv 0) pe_int (fun _ _ => rfl)) pe_int (nomark _)) (pss_cons (ps_set (i := 4) sc_law_draw.nd rfl (.inl rfl) (pe_op op_mod (pe_callTy call_int1 (by rfl) T.n_int (by decide +kernel) (pa_cons (pe_ix (r := rIxL K) ix_list (pv 0) pe_int (fun _ _ => rfl)) pa_nil)) (pv 1)))
      (pss_cons (ps_asg (pe_op op_fdivW (pe_ix (r := rIxL K) ix_list (pv 0) pe_int (fun _ _ => rfl)) (pv 1)) (pg_sub (pv 0) pe_int set_list))
      (pss_one (ps_ret (pv 4))))) pss_nil)
      (pss_cons (ps_asg (pe_op op_mod (pe_callTy call_int1 (by rfl) T.n_int (by decide +kernel) (pa_cons (pe_op op_add (pe_op op_mulW (pe_ix (r := rIxL K) ix_list (pv 0) pe_int (fun _ _ => rfl)) pe_int) pe_int) pa_nil)) pe_int) (pg_sub (pv 0) pe_int set_list))
      (pss_cons (ps_set (i := 2) sc_law_draw.nd rfl (.inl rfl) (pe_op op_mod (pe_callTy call_int1 (by rfl) T.n_int (by decide +kernel) (pa_cons (pe_op op_mulW (pe_ix (r := rIxL K) ix_list (pv 0) pe_int (fun _ _ => rfl)) (pe_ix (r := rIxL K) ix_list (pv 0) pe_int (fun _ _ => rfl))) pa_nil)) pe_int))
      (pss_one (ps_ret (pe_op op_mod (pe_callTy call_int1 (by rfl) T.n_int (by decide +kernel) (pa_cons (pe_op op_fdivW (pv 2) pe_int) pa_nil)) (pv 1)))))))), ?_⟩
  rintro B Q pb pc b ds d b' rfl hM ⟨n, hn, hz, rfl, rfl, rfl⟩ q
  refine x_seq (x_while (m0 := b.cells.length) (fun m ε L => ∃ (r : List Int) (u : Int), m = r.length ∧ fetchR r u = fetchR b.cells.reverse b.cur ∧ 0 ≤ u ∧ (∀ c ∈ r, 0 ≤ c) ∧ ε = [some (.v (.ref pb)), iv n, none, none, none] ∧ L = [.bag pb pc r.reverse u b.mix])
    ⟨b.cells.reverse, b.cur, by rw [List.length_reverse], rfl, b.ok.2.2.1, fun c hc => b.ok.2.2.2 c (List.mem_reverse.mp hc), rfl, by rw [List.reverse_reverse]; rfl⟩ ?_)
  rintro m ε' L' ⟨r, u, rfl, hf, hu, hr0, rfl, rfl⟩
  refine ⟨_, _, et_and (et_test (ex_eqI (ex_bag1 (k := 0) (ex_v rfl) ex_cI rfl) ex_cI)) (fun _ => et_test (ex_bagFull (k := 0) (ex_bag0 (k := 0) (ex_v rfl) ex_cI rfl) rfl)) (fun _ => rfl), fun hb => ?_, fun hb => ?_⟩
  · rw [Bool.and_eq_true] at hb
    have hu0 : u = 0 := of_decide_eq_true hb.1
    match r, hf, hr0, hb with
    | [], _, _, hb => exact absurd hb.2 (by decide)
    | c :: r, hf, hr0, hb =>
      have hc0 := hr0 c List.mem_cons_self
      refine x_seq (x_set (a := .d (.int c)) (ex_popBag (k := 0) (ex_bag0 (k := 0) (ex_v rfl) ex_cI rfl) rfl (by rw [List.reverse_cons]; exact last_get)) ?_)
      refine nxt (x_bag1 (k := 0) (ex_ifI (et_test (ex_gt (ex_v rfl) (ex_int (k := 1000000000) (ex_pow ex_cI ex_cI ⟨by decide, by decide, by decide⟩) (by decide +kernel)))) (fun _ => ex_v rfl) (fun _ => ex_cI)) (ex_v rfl) ex_cI rfl ?_)
      refine x_abs (ε' := [some (.v (.ref pb)), iv n, none, none, none]) ⟨r.length, Nat.lt_succ_self _, r, (if 1000000000 < c then c else 0), rfl, ?_, ?_, fun x hx => hr0 x (List.mem_cons_of_mem _ hx), rfl, ?_⟩ ⟨.inr rfl, .inr rfl, .inr rfl, .inl rfl, .inr rfl, trivial⟩
      · rw [← hf, hu0]
        show _ = if (0 : Int) = 0 then _ else _
        rw [if_pos rfl]
      · split
        · exact hc0
        · exact Int.le_refl 0
      · show [MO.bag pb pc _ _ _] = [MO.bag pb pc _ _ _]
        rw [List.reverse_cons, List.dropLast_concat]
        simp only [decide_eq_true_eq]
  · have hdone : fetchR r u = (r, u) := by
      match r, hb with
      | [], _ => rfl
      | c :: r, hb =>
        have hu1 : u ≠ 0 := fun e => by
          subst e
          rw [List.reverse_cons] at hb
          simp at hb
        show (if u = 0 then _ else _) = _
        rw [if_neg hu1]
    rw [hdone] at hf
    have e1 : fetchC b = r := by unfold fetchC; rw [← hf]
    have e2 : fetchU b = u := by unfold fetchU; rw [← hf]
    refine nxt (x_seq (x_if (et_test (ex_gt (ex_bag1 (k := 0) (ex_v rfl) ex_cI rfl) ex_cI)) (fun hc => ?_) fun hc => ?_))
    · have hu1 : 0 < u := of_decide_eq_true hc
      obtain ⟨d1, d2, d3⟩ := drawB_pos hn (b := b) (by rw [e2]; exact hu1)
      refine x_seq (x_set (ex_mod (ex_int1 (ex_bag1 (k := 0) (ex_v rfl) ex_cI rfl)) (ex_v rfl) hn) ?_)
      refine x_sq (x_bag1 (k := 0) (ex_fdiv (ex_bag1 (k := 0) (ex_v rfl) ex_cI rfl) (ex_v rfl) (small_div hn hz u)) (ex_v rfl) ex_cI rfl ?_)
      refine nxt (x_ret (ex_v rfl) fun v F σ H rp o => q v F H (hM ▸ rp.nx) ?_ ?_)
      · rw [d1, d2, d3, e1, e2]; exact rp.bag List.mem_cons_self
      · unfold drawV; rw [e2, if_pos hu1]; exact o
    · have hu1 : ¬ 0 < u := of_decide_eq_false hc
      obtain ⟨d1, d2, d3⟩ := drawB_zero hn (b := b) (by rw [e2]; exact hu1)
      have m1 := b.ok.1
      have m2 := b.ok.2.1
      have n1 := nextM_ok b.mix
      refine x_next (x_sq (x_bag2 (k := 0) (ex_mod (ex_int1 (ex_add (ex_mul (ex_bag2 (k := 0) (ex_v rfl) ex_cI rfl) ex_cI (cmul (Bd.of (k := 32) (n := 2147483648) (by omega) (by omega) (by decide)) (Bd.of (k := 16) (n := 48272) (by decide) (by decide) (by decide)) (by decide))) ex_cI)) ex_cI (by decide)) (ex_v rfl) ex_cI rfl ?_))
      refine x_sq (x_set (ex_mod (ex_int1 (ex_mul (ex_bag2 (k := 0) (ex_v rfl) ex_cI rfl) (ex_bag2 (k := 0) (ex_v rfl) ex_cI rfl) ?_)) ex_cI (by decide)) ?_)
      rotate_left
      · refine nxt (x_ret (ex_mod (ex_int1 (ex_fdiv (ex_v rfl) ex_cI (cdiv (b := 3) (by decide) (by unfold Bd; decide) (by decide)))) (ex_v rfl) hn) fun v F σ H rp o => q v F H (hM ▸ rp.nx) ?_ ?_)
        · rw [d1, d2, d3, e1, e2]; exact rp.bag List.mem_cons_self
        · unfold drawV; rw [e2, if_neg hu1]; exact o
      · have hb : Bd 32 (nextM b.mix) := Bd.of (k := 32) (n := 2147483648) (by omega) (by omega) (by decide)
        exact cmul hb hb (by decide)
theorem ok_law_pick (Fn : Fun K "_law_pick" "_law_pick" s_law_pick f fd) (T : Bt P mg base) (C_law_draw : Df P w K mg base 41 "_law_draw" ["bag", "below"] (spB K R_draw)) : FnOk P w K mg base CX0 42 f fd ["bag", "some"] (spB K R_pick) := by
  refine fn_bag Fn sc_law_pick (by decide) (fun b ds d b' ⟨_, _, _, h, _⟩ => by rw [h]; rfl) fun cdv A outer s H E hr => ⟨_, (pss_one (ps_ret (pe_ix (r := rIxL K) ix_list (pv 1) (pe_callD C_law_draw (hr.mono (by decide)) (by rfl) (pa_cons (pv 0) (pa_cons (pe_callB (r := Evl.rLenS K) call_len_seq (by rfl) T.n_len (by decide +kernel) (pa_cons (pv 1) pa_nil)) pa_nil))) (fun _ _ => rfl)))), ?_⟩
  rintro B Q pb pc b ds d b' rfl hM ⟨xs, hx, hz, rfl, rfl, rfl⟩ q
  have hl : 0 < (xs.length : Int) := by
    have := List.length_pos_iff.mpr hx
    omega
  have hv := drawV_ok b hl
  refine x_ret (ex_ixL (ds := xs) (ex_v rfl) (ex_callB (k := 0) (ds := [.int (xs.length : Int)]) (ea_cons (ex_v rfl) (ea_cons (ex_lenL (ex_v rfl) .d rfl) ea_nil)) rfl ⟨xs.length, hl, ?_, rfl, rfl, rfl⟩) .d ?_) fun v F σ H rp o => q v F H (hM ▸ rp.nx) (rp.bag List.mem_cons_self) o
  · have e : (xs.length : Int).natAbs < 2 ^ 20 := by omega
    exact Nat.lt_of_lt_of_le e (Nat.pow_le_pow_right (by decide) (by decide))
  · have e : drawV b xs.length = (((drawV b xs.length).toNat : Nat) : Int) := by omega
    rw [e]
    refine atI_nat ?_
    have hlt : (drawV b xs.length).toNat < xs.length := by omega
    rw [Int.toNat_natCast, List.getElem?_eq_getElem hlt, List.getD_eq_getElem?_getD, List.getElem?_eq_getElem hlt]; rfl
theorem ok_law_least (Fn : Fun K "_law_least" "_law_least" s_law_least f fd) (T : Bt P mg base) : FnOk P w K mg base CX0 41 f fd ["upper", "lower"] (spR K R_frac) := by
  refine fn_data Fn sc_law_least (by decide) (fun ds d ⟨a, b, h, _⟩ => by rw [h]; rfl) fun cdv A outer s H E hr => ⟨_, (pss_cons (ps_par (i := 2) (j := 3) (by rfl) sc_law_least.nd rfl rfl (by decide) rfl rfl (pa_cons (pe_callB call_abs (by rfl) T.n_abs (by decide +kernel) (pa_cons (pv 0) pa_nil)) (pa_cons (pv 1) pa_nil)) (by rfl))
      (pss_cons (ps_while PassesOwn.never (pt_cmpR op_gt (pv 3) pe_int (nomark _)) (pss_one (ps_par (i := 2) (j := 3) (by rfl) sc_law_least.nd rfl rfl (by decide) rfl rfl (pa_cons (pv 3) (pa_cons (pe_op op_mod (pe_callTy call_int1 (by rfl) T.n_int (by decide +kernel) (pa_cons (pv 2) pa_nil)) (pv 3)) pa_nil)) (by rfl))))
      (pss_one (ps_ret (pe_tup (pa_cons (pe_op (op_fdivP hr T.hpl) (pv 0) (pv 2)) (pa_cons (pe_op (op_fdivP hr T.hpl) (pv 1) (pv 2)) pa_nil))))))), ?_⟩
  rintro B Q ds d rfl hM ⟨a, b, rfl, hb0, rfl⟩ q
  refine x_seq (x_par (ea_cons (ex_abs (ex_v rfl)) (ea_cons (ex_v rfl) ea_nil)) ?_)
  rw [abs_if]
  refine x_sq (x_while (m0 := b.toNat) (fun m ε L => ∃ x y : Int, 0 ≤ x ∧ 0 ≤ y ∧ Int.gcd x y = Int.gcd a b ∧ m = y.toNat ∧ ε = [iv a, iv b, iv x, iv y] ∧ L = []) ⟨a.natAbs, b, by omega, by omega, by show Nat.gcd _ _ = _; simp [Int.gcd], rfl, rfl, rfl⟩ ?_)
  rintro m ε' L' ⟨x, y, hx, hy, hg, rfl, rfl, rfl⟩
  refine ⟨_, _, et_test (ex_gt (ex_v rfl) ex_cI), fun hb => ?_, fun hb => ?_⟩
  · have hy0 : 0 < y := of_decide_eq_true hb
    refine x_par (ea_cons (ex_v rfl) (ea_cons (ex_mod (ex_int1 (ex_v rfl)) (ex_v rfl) hy0) ea_nil)) ?_
    have h1 := Int.emod_lt_of_pos x hy0
    have h2 := Int.emod_nonneg x (show y ≠ 0 by omega)
    exact x_abs ⟨(x % y).toNat, by omega, y, x % y, hy, h2, by rw [gcd_step hx hy0, hg], rfl, rfl, rfl⟩ (Wk.refl _)
  · have hy0 : y = 0 := by have := of_decide_eq_false hb; omega
    subst hy0
    have hgp := gcd_pos (t := a) hb0
    have hxg : x = (Int.gcd a b : Int) := by
      rw [← hg, Int.gcd_zero_right]; omega
    subst hxg
    exact nxt (x_ret (ex_tup (ds := [.int _, .int _]) (ea_cons (ex_fdivP (ex_v rfl) (ex_v rfl) hgp) (ea_cons (ex_fdivP (ex_v rfl) (ex_v rfl) hgp) ea_nil)) (Nat.le_of_ble_eq_true rfl)) fun v F σ H r o => q v F H (hM ▸ r.nx) o)
def R_fact : List PyData → PyData → Prop := fun ds d => ∃ n : Nat, ds = [.int n] ∧ n ≤ 60 ∧ d = .int (fac n : Int)
theorem ok_law_factorial (Fn : Fun K "_law_factorial" "_law_factorial" s_law_factorial f fd) (T : Bt P mg base) : FnOk P w K mg base CX0 41 f fd ["many"] (spR K R_fact) := by
  refine fn_data Fn sc_law_factorial (by decide) (fun ds d ⟨_, h, _⟩ => by rw [h]; rfl) fun cdv A outer s H E hr => ⟨_, (pss_cons (ps_set (i := 1) sc_law_factorial.nd rfl (.inl rfl) pe_int)
      (pss_cons (ps_for PassesOwn.never rfl (pi_range1 (by rfl) T.n_range (pa_cons (pv 0) pa_nil)) (pg_name (i := 2) sc_law_factorial.nd rfl (Or.inl rfl)) (pss_one (ps_set (i := 1) sc_law_factorial.nd rfl (.inl rfl) (pe_op op_mulW (pv 1) (pe_op op_add (pv 2) pe_int)))))
      (pss_one (ps_ret (pv 1))))), ?_⟩
  rintro B Q ds d rfl hM ⟨n, rfl, hn, rfl⟩ q
  refine x_seq (x_set ex_cI ?_)
  refine x_sq (x_forR1 (n := n) (ea_cons (ex_v rfl) ea_nil) (by omega) (fun i ε L => ε = [iv n, iv (fac i : Int), none] ∧ L = []) ⟨rfl, rfl⟩ ?_ ?_)
  · rintro i ε' L' hi ⟨rfl, rfl⟩
    refine x_set (a := .d (.int (fac (i + 1) : Nat))) (ex_int (ex_mul (ex_v rfl) (ex_add (ex_v rfl) ex_cI) (cmul (fac_bd' (by omega)) (Bd.of (k := 7) (n := 128) (by omega) (by omega) (by decide)) (by decide))) (by rw [fac_succ, Int.natCast_mul]; rfl)) ?_
    exact x_abs ⟨rfl, rfl⟩ ⟨.inr rfl, .inr rfl, .inl rfl, trivial⟩
  · rintro ε' L' ⟨rfl, rfl⟩
    refine nxt (x_ret (ex_v rfl) fun v F σ H r o => q v F H (hM ▸ r.nx) o)
end K86

/-! ## B7 -/
set_option Elab.async false
set_option linter.all false
set_option maxRecDepth 100000
set_option maxHeartbeats 4000000
set_option autoImplicit false
namespace K86
open PySem L2 Fz K80 Ways
variable {P : Program} {w : World} {K : PySem.W.Frag} {mg : Str → Option Value} {base : Heap} {f : Addr} {fd : FuncData}
theorem ch_le_fac (a b : Nat) : ch (a + b) b ≤ fac (a + b) := by
  rw [← ch_fac a b]
  exact Nat.le_mul_of_pos_right _ (Nat.mul_pos (fac_pos a) (fac_pos b))
theorem ch_down {p J : Nat} (h : J + 1 ≤ p) : ch p (J + 1) * (J + 1) = ch p J * (p - J) := by
  obtain ⟨q, rfl⟩ : ∃ q, p = q + 1 := ⟨p - 1, by omega⟩
  rw [ch_absorb, ch_left q J (by omega)]
theorem runs_stop {word : List Int} {l : Int} {p J : Nat} (h : runs word l p (J + 1) = false) {j : Nat} (hj : J + 1 ≤ j) : runs word l p j = false := by
  have e := runs_add word l p (J + 1) (j - (J + 1))
  have e1 : J + 1 + (j - (J + 1)) = j := by omega
  rw [e1, h] at e
  rw [e]; rfl
def rowL (A : Nat → Int) (n : Nat) : List Int := (List.range n).map A
theorem rowL_len (A : Nat → Int) (n : Nat) : (rowL A n).length = n := by unfold rowL; rw [List.length_map, List.length_range]
theorem rowL_get (A : Nat → Int) {n p : Nat} (h : p < n) : (rowL A n).getD p 0 = A p := getD_map_range h
theorem rowL_e0 (n : Nat) : (rowL e0 (n + 1)).map PyData.int = [.int 1] ++ (List.replicate n [PyData.int 0]).flatten := by
  induction n with
  | zero => rfl
  | succ n ih =>
    have h1 : rowL e0 (n + 1 + 1) = rowL e0 (n + 1) ++ [e0 (n + 1)] := by unfold rowL; rw [List.range_succ, List.map_append]; rfl
    have h2 : e0 (n + 1) = 0 := by unfold e0; rw [if_neg (by omega)]
    rw [h1, List.map_append, ih, h2, List.replicate_succ', List.flatten_append, List.append_assoc]; rfl
def R_row : List PyData → PyData → Prop := fun ds d => ∃ (v : Way) (word : List Int), ds = [wayD v, ti word] ∧ word.length ≤ 40 ∧ v.length ≤ 5000 ∧ tot v < 2 ^ 50 ∧ d = li (rowL (rowF word v) (word.length + 1))
theorem ok_law_row (Fn : Fun K "_law_row" "_law_row" s_law_row f fd) (T : Bt P mg base) : FnOk P w K mg base CX0 41 f fd ["way", "word"] (spR K R_row) := by
  refine fn_data Fn sc_law_row (by decide) (fun ds d ⟨_, _, h, _⟩ => by rw [h]; rfl) fun cdv A outer s H E hr => ⟨_, (pss_cons (ps_set (i := 2) sc_law_row.nd rfl (.inl rfl) (pe_op op_cat (pe_lst (pa_cons pe_int pa_nil)) (pe_op op_rep (pe_lst (pa_cons pe_int pa_nil)) (pe_callB (r := Evl.rLenS K) call_len_seq (by rfl) T.n_len (by decide +kernel) (pa_cons (pv 1) pa_nil)))))
      (pss_cons (ps_for PassesOwn.never rfl (pi_tup (pv 0)) (pg_tup rfl (pgs_cons (pg_name (i := 3) sc_law_row.nd rfl (Or.inl rfl)) (pgs_cons (pg_name (i := 4) sc_law_row.nd rfl (Or.inl rfl)) pgs_nil))) (pss_cons (ps_set (i := 5) sc_law_row.nd rfl (.inl rfl) (pe_lst pa_nil))
      (pss_cons (ps_for PassesOwn.never rfl (pi_range1 (by rfl) T.n_range (pa_cons (pe_op op_add (pe_callB (r := Evl.rLenS K) call_len_seq (by rfl) T.n_len (by decide +kernel) (pa_cons (pv 1) pa_nil)) pe_int) pa_nil)) (pg_name (i := 6) sc_law_row.nd rfl (Or.inl rfl)) (pss_cons (ps_par3 (i := 7) (j := 8) (l := 9) (by rfl) sc_law_row.nd rfl rfl rfl (by decide) (by decide) (by decide) rfl rfl rfl (pa_cons (pe_ix (r := rIxL K) ix_list (pv 2) (pv 6) (fun _ _ => rfl)) (pa_cons pe_int (pa_cons pe_int pa_nil))) (by rfl))
      (pss_cons (ps_while PassesOwn.never (PW.pt (pw_and (pt_cmpR op_le (pv 9) (pv 6) (nomark _)) (pw_and1 (pt_cmpR op_eq (pe_ix (r := rIxT K) ix_tup (pv 1) (pe_op op_sub (pv 6) (pv 9)) (fun _ _ => rfl)) (pv 3) (nomark _))))) (pss_cons (ps_set (i := 8) sc_law_row.nd rfl (.inl rfl) (pe_op op_fdivW (pe_op op_mulW (pe_op op_mulW (pv 8) (pv 4)) (pe_op op_add (pe_op op_sub (pv 6) (pv 9)) pe_int)) (pv 9)))
      (pss_one (ps_par (i := 7) (j := 9) (by rfl) sc_law_row.nd rfl rfl (by decide) rfl rfl (pa_cons (pe_op op_add (pv 7) (pe_op op_mulW (pv 8) (pe_ix (r := rIxL K) ix_list (pv 2) (pe_op op_sub (pv 6) (pv 9)) (fun _ _ => rfl)))) (pa_cons (pe_op op_add (pv 9) pe_int) pa_nil)) (by rfl)))))
      (pss_one (ps_expr (pe_bm PySem.F.plainAttrs_list PySem.F.slot_list_append PySem.F.type_list_append mt_append (pv 5) (pa_cons (pv 7) pa_nil)))))))
      (pss_one (ps_set (i := 2) sc_law_row.nd rfl (.inl rfl) (pe_callTy (r := rListOf K) call_list_of (by rfl) T.n_list (by decide +kernel) (pa_cons (pv 5) pa_nil)))))))
      (pss_one (ps_ret (pv 2))))), ?_⟩
  rintro B Q ds d rfl hM ⟨v, word, rfl, hn, hvl, htot, rfl⟩ q
  generalize hwn : word.length = n at *
  have hlen : ((word.map PyData.int).length : Int) = (n : Int) := by rw [List.length_map, hwn]
  refine x_seq (x_set (a := .d (li (rowL e0 (n + 1)))) (ex_is (ex_frz (en_cat (ds := [.int 1]) (es := (List.replicate n [PyData.int 0]).flatten) (ex_frz (en_lst (ds := [.int 1]) (ea_cons ex_cI ea_nil) (Nat.le_of_ble_eq_true rfl)))
    (ex_frz (en_rep (n := n) (ds := [.int 0]) (ex_frz (en_lst (ds := [.int 0]) (ea_cons ex_cI ea_nil) (Nat.le_of_ble_eq_true rfl))) (ex_int (ex_lenT (ds := word.map PyData.int) (ex_v rfl) rfl) hlen) .d (by show 1 * n ≤ 100000; omega) (by omega))) .d .d ?_)) (by unfold li; rw [rowL_e0])) ?_)
  · rw [List.length_flatten, List.map_replicate, List.sum_replicate_nat]
    show 1 + n * 1 ≤ 100000
    omega
  refine x_sq (x_forT (ds := wayL v) (ex_v rfl) (fun u i ε L => ε = [some (.d (wayD v)), some (.d (ti word)), some (.d (li (rowL (rowF word (v.take i)) (n + 1)))), none, none, none, none, none, none, none] ∧ L = [.know u (wayD v)]) (fun u => ⟨rfl, rfl⟩) (fun u i ε' L' ⟨_, h⟩ => by rw [h]; simp [wayD]) ?_ ?_)
  · rintro u i d ε' L' hd ⟨rfl, rfl⟩
    obtain ⟨x, hx, rfl⟩ := way_get hd
    have hrow := rowF_le word (v.take i)
    have htm := tot_mem hx
    rw [rows_snoc' word hx]
    generalize rowF word (v.take i) = r at *
    obtain ⟨l, s⟩ := x
    have htm : tot (v.take i) + s.natAbs ≤ tot v := htm
    have hrb : ∀ p, p ≤ 40 → Bd 2001 (r p) := fun p hp => bd_pow (hrow p) (by omega) hp
    have hsb : Bd 60 s := by
      unfold Bd
      have : (2 : Nat) ^ 50 ≤ 2 ^ 60 := by decide
      omega
    refine ⟨_, gt_tup2 (d := .int l) (e := .int s), ?_⟩
    refine x_seq (x_setN (en_lst (ds := []) ea_nil (Nat.zero_le _)) fun pl hpl => ?_)
    refine x_sq (x_forR1 (n := (n : Int) + 1) (ea_cons (ex_add (ex_int (ex_lenT (ds := word.map PyData.int) (ex_v rfl) rfl) hlen) ex_cI) ea_nil) (by omega) (fun p ε L => ε = [some (.d (wayD v)), some (.d (ti word)), some (.d (li (rowL r (n + 1)))), iv l, iv s, some (.v (.ref pl)), none, none, none, none] ∧ L = [.lst pl ((rowL (opT word l s r) p).map PyData.int), .know u (wayD v)]) ⟨rfl, rfl⟩ ?_ ?_)
    · rintro p ε' L' hp ⟨rfl, rfl⟩
      have hpn : p < n + 1 := by omega
      refine x_seq (x_par3 (a := .d (.int (r p))) (ea_cons (ex_ixL (ds := (rowL r (n + 1)).map PyData.int) (ex_v rfl) (ex_v rfl) .d (by rw [at_ints (by rw [rowL_len]; exact hpn), rowL_get r hpn])) (ea_cons ex_cI (ea_cons ex_cI ea_nil))) ?_)
      refine x_sq (x_while (m0 := p) (fun m ε L => ∃ J : Nat, J ≤ p ∧ m = p - J ∧ runs word l p J = true ∧ ε = [some (.d (wayD v)), some (.d (ti word)), some (.d (li (rowL r (n + 1)))), iv l, iv s, some (.v (.ref pl)), iv p, iv (sm (fun j => wt word l s p j * r (p - j)) (J + 1)), iv ((ch p J : Int) * s ^ J), iv ((J + 1 : Nat) : Int)] ∧ L = [.lst pl ((rowL (opT word l s r) p).map PyData.int), .know u (wayD v)])
        ⟨0, Nat.zero_le _, rfl, rfl, ?_, rfl⟩ ?_)
      · have e : sm (fun j => wt word l s p j * r (p - j)) (0 + 1) = r p := by
          show 0 + wt word l s p 0 * r (p - 0) = r p
          rw [wt_zero]; simp
        have e2 : (ch p 0 : Int) * s ^ 0 = 1 := by rw [ch_n0]; simp
        rw [e, e2]; rfl
      · rintro m ε' L' ⟨J, hJ, rfl, hrun, rfl, rfl⟩
        refine ⟨_, _, et_and (et_test (ex_le (ex_v rfl) (ex_v rfl))) (fun h1 => et_test (ex_eqI (ex_ixT (ds := word.map PyData.int) (d := .int (word.getD (p - (J + 1)) 0)) (ex_v rfl) (ex_int (k := ((p - (J + 1) : Nat) : Int)) (ex_sub (ex_v rfl) (ex_v rfl)) (by have := of_decide_eq_true h1; omega)) (at_ints (by have := of_decide_eq_true h1; omega))) (ex_v rfl))) (fun _ => rfl), fun hc => ?_, fun hc => ?_⟩
        · rw [Bool.and_eq_true] at hc
          have hJp : J + 1 ≤ p := by have := of_decide_eq_true hc.1; omega
          have hlet : word.getD (p - (J + 1)) 0 = l := of_decide_eq_true hc.2
          have hrun' : runs word l p (J + 1) = true := by
            show (runs word l p J && decide (word.getD (p - (J + 1)) 0 = l)) = true
            rw [hrun, decide_eq_true hlet]; rfl
          have hch : Bd 400 (ch p J : Int) := by
            have h1 := ch_le_fac (p - J) J
            have e : p - J + J = p := by omega
            rw [e] at h1
            exact (fac_bd' (n := p) (by omega)).le (by omega) (by omega)
          have hsJ : Bd 2401 (s ^ J) := (hsb.pow J).mono (by omega)
          have hts : (ch p J : Int) * s ^ J * s * ((p : Int) - ((J + 1 : Nat) : Int) + 1) / ((J + 1 : Nat) : Int) = (ch p (J + 1) : Int) * s ^ (J + 1) := by
            have e1 : (p : Int) - ((J + 1 : Nat) : Int) + 1 = ((p - J : Nat) : Int) := by omega
            have e2 : (ch p J : Int) * ((p - J : Nat) : Int) = (ch p (J + 1) : Int) * ((J + 1 : Nat) : Int) := by rw [← Int.natCast_mul, ← Int.natCast_mul, ch_down hJp]
            have e3 : (ch p J : Int) * s ^ J * s * ((p - J : Nat) : Int) = (ch p (J + 1) : Int) * s ^ (J + 1) * ((J + 1 : Nat) : Int) := by
              rw [Int.pow_succ]
              calc (ch p J : Int) * s ^ J * s * ((p - J : Nat) : Int) = ((ch p J : Int) * ((p - J : Nat) : Int)) * (s ^ J * s) := by simp only [Int.mul_assoc, Int.mul_left_comm, Int.mul_comm]
                _ = _ := by rw [e2]; simp only [Int.mul_assoc, Int.mul_left_comm, Int.mul_comm]
            rw [e1, e3]
            exact Int.mul_ediv_cancel _ (by omega)
          refine x_seq (x_set (a := .d (.int ((ch p (J + 1) : Int) * s ^ (J + 1)))) (ex_int (ex_fdiv (ex_mul (ex_mul (ex_v rfl) (ex_v rfl) (cmul (hch.mul hsJ) hsb (by decide))) (ex_add (ex_sub (ex_v rfl) (ex_v rfl)) ex_cI) (cmul ((hch.mul hsJ).mul hsb) (Bd.of (k := 7) (n := 128) (by omega) (by omega) (by decide)) (by decide))) (ex_v rfl) (cdiv (b := 7) (by omega) (Bd.of (k := 7) (n := 128) (by omega) (by omega) (by decide)) (by decide))) hts) ?_)
          have hch' : Bd 400 (ch p (J + 1) : Int) := by
            have h1 := ch_le_fac (p - (J + 1)) (J + 1)
            have e : p - (J + 1) + (J + 1) = p := by omega
            rw [e] at h1
            exact (fac_bd' (n := p) (by omega)).le (by omega) (by omega)
          have hsJ' : Bd 2401 (s ^ (J + 1)) := (hsb.pow (J + 1)).mono (by omega)
          have hwt : (ch p (J + 1) : Int) * s ^ (J + 1) = wt word l s p (J + 1) := by unfold wt; rw [if_pos hrun']
          refine nxt (x_par (b := .d (.int ((J + 1 + 1 : Nat) : Int))) (ea_cons (ex_add (ex_v rfl) (ex_mul (ex_v rfl) (ex_ixL (ds := (rowL r (n + 1)).map PyData.int) (d := .int (r (p - (J + 1)))) (ex_v rfl) (ex_int (k := ((p - (J + 1) : Nat) : Int)) (ex_sub (ex_v rfl) (ex_v rfl)) (by omega)) .d (by rw [at_ints (by rw [rowL_len]; omega), rowL_get r (by omega)])) (cmul (hch'.mul hsJ') (hrb _ (by omega)) (by decide)))) (ea_cons (ex_int (ex_add (ex_v rfl) ex_cI) (by omega)) ea_nil)) ?_)
          refine x_abs ⟨p - (J + 1), by omega, J + 1, hJp, rfl, hrun', rfl, rfl⟩ ⟨.inr rfl, .inr rfl, .inr rfl, .inr rfl, .inr rfl, .inr rfl, .inr rfl, .inr ?_, .inr rfl, .inr rfl, trivial⟩
          rw [hwt]; rfl
        · have hfull : sm (fun j => wt word l s p j * r (p - j)) (J + 1) = opT word l s r p := by
            unfold opT
            by_cases c : J + 1 ≤ p
            · have c1 : decide (((J + 1 : Nat) : Int) ≤ (p : Int)) = true := decide_eq_true (by omega)
              rw [c1, Bool.true_and] at hc
              have hno : runs word l p (J + 1) = false := by
                show (runs word l p J && decide (word.getD (p - (J + 1)) 0 = l)) = false
                rw [hc, Bool.and_false]
              have e : p + 1 = (J + 1) + (p - J) := by omega
              have hz : ∀ j, J + 1 ≤ j → wt word l s p j * r (p - j) = 0 := fun j hj => by
                unfold wt
                rw [runs_stop hno hj]
                simp
              rw [e, sm_stop hz]
            · have e : J = p := by omega
              rw [e]
          refine nxt (x_app (k := 0) (d := .int (opT word l s r p)) (ex_v rfl) (ex_int (ex_v rfl) hfull) rfl ⟨0, _, rfl⟩ (by rw [List.length_map, rowL_len]; omega) ?_)
          refine x_abs (ε' := [some (.d (wayD v)), some (.d (ti word)), some (.d (li (rowL r (n + 1)))), iv l, iv s, some (.v (.ref pl)), none, none, none, none]) ⟨rfl, ?_⟩ ⟨.inr rfl, .inr rfl, .inr rfl, .inr rfl, .inr rfl, .inr rfl, .inl rfl, .inl rfl, .inl rfl, .inl rfl, trivial⟩
          have e : rowL (opT word l s r) (p + 1) = rowL (opT word l s r) p ++ [opT word l s r p] := by unfold rowL; rw [List.range_succ, List.map_append]; rfl
          rw [e, List.map_append]; rfl
    · rintro ε' L' ⟨rfl, rfl⟩
      have e : ((n : Int) + 1).toNat = n + 1 := by omega
      rw [e]
      refine nxt (x_set (a := .d (li (rowL (opT word l s r) (n + 1)))) (ex_frz (en_list (ex_v rfl) (.o (k := 0) rfl))) ?_)
      refine ho_drop (k := 0) (x_abs ⟨rfl, rfl⟩ ⟨.inr rfl, .inr rfl, .inr rfl, .inl rfl, .inl rfl, .inl rfl, .inr rfl, .inr rfl, .inr rfl, .inr rfl, trivial⟩) rfl (fun x hx => by rw [List.mem_singleton.mp hx]; exact hpl)
  · rintro u ε' L' ⟨rfl, rfl⟩
    have ev : v.take (wayL v).length = v := by rw [wayL_len, List.take_length]
    rw [ev]
    refine nxt (x_ret (ex_v rfl) fun v F σ H r o => q v F H (hM ▸ r.nx) o)
end K86

/-! ## B8 -/
set_option Elab.async false
set_option linter.all false
set_option maxRecDepth 100000
set_option maxHeartbeats 4000000
set_option autoImplicit false
namespace K86
open PySem L2 Fz K80 Ways
variable {P : Program} {w : World} {K : PySem.W.Frag} {mg : Str → Option Value} {base : Heap} {f : Addr} {fd : FuncData}
theorem wipe_set {j : Nat} : ∀ {vs : List Nat}, j ∈ vs → ∀ (σ : St) (x : Option V), wipe (σ.set j x) vs = wipe σ vs
  | [], h, _, _ => by simp at h
  | k :: ks, h, σ, x => by
    show (wipe (σ.set j x) ks).set k none = (wipe σ ks).set k none
    by_cases hk : j ∈ ks
    · rw [wipe_set hk]
    · have ejk : j = k := (List.mem_cons.mp h).resolve_right hk
      subst ejk
      have : ∀ (ws : List Nat) (σ : St), j ∉ ws → wipe (σ.set j x) ws = (wipe σ ws).set j x := fun ws => by
        induction ws with
        | nil => exact fun σ _ => rfl
        | cons a ws ih =>
          intro σ hn
          show (wipe (σ.set j x) ws).set a none = ((wipe σ ws).set a none).set j x
          rw [ih σ (fun z => hn (List.mem_cons_of_mem _ z)), List.set_comm _ _ (fun z => hn (by rw [z]; exact List.mem_cons_self))]
      rw [this ks σ hk, List.set_set]
theorem gw_tup2 {K : PySem.W.Frag} {i j : Nat} {vs : List Nat} (hi : i ∈ vs) (hj : j ∈ vs) : ∀ (v : V) (σ : St) (H : Hp) (P : St → Hp → Prop), (gTup K 2 (gCons (gName i) (gCons (gName j) gNil)) v (wipe σ vs) H P ↔ gTup K 2 (gCons (gName i) (gCons (gName j) gNil)) v (wipe σ vs) H fun σ2 H2 => wipe σ2 vs = wipe σ vs ∧ P σ2 H2) := fun v σ H P => by
  have hw : wipe (wipe σ vs) vs = wipe σ vs := by
    have h1 := (gw_name (vs := vs) hi (.int 0) σ H (fun σ2 _ => True)).mp trivial
    have h2 : wipe ((wipe σ vs).set i (some (V.int 0))) vs = wipe σ vs := h1.1
    rw [wipe_set hi] at h2
    exact h2
  constructor
  · rintro ⟨a, xs, e, hq, hl, x, r, e1, y, r2, e2, e3, h⟩
    exact ⟨a, xs, e, hq, hl, x, r, e1, y, r2, e2, e3, by rw [wipe_set hj, wipe_set hi, hw], h⟩
  · rintro ⟨a, xs, e, hq, hl, x, r, e1, y, r2, e2, e3, _, h⟩
    exact ⟨a, xs, e, hq, hl, x, r, e1, y, r2, e2, e3, h⟩
theorem filter_yes {α : Type} (l : List α) : l.filter (fun _ => true) = l := List.filter_eq_self.mpr fun _ _ => rfl
def fst1 : PyData → PyData
  | .tuple (x :: _) => x
  | d => d
end K86

/-! ## C1 -/
set_option Elab.async false
set_option linter.all false
set_option maxRecDepth 100000
set_option maxHeartbeats 4000000
set_option autoImplicit false
namespace K86
open PySem L2 Fz K80 Ways
variable {P : Program} {w : World} {K : PySem.W.Frag} {mg : Str → Option Value} {base : Heap} {f : Addr} {fd : FuncData}
theorem ps_dead {X : Cx} {st : Stmt} : PS X st (fun _ _ _ => False) := ⟨fun _ _ _ _ _ _ h => h.elim⟩
def R_join : List PyData → PyData → Prop := fun ds d => ∃ a b : Way, ds = [wayD a, wayD b] ∧ a.length + b.length ≤ 16 ∧ d = wayD (a ++ b)
theorem ex_catW {B : Bg} {ε : Eps} {L La Lb : Own} {ta tb : TE} {a b : Way} (h : EX B ta ε L (.d (wayD a)) La) (h2 : EX B tb ε La (.d (wayD b)) Lb) (hl : a.length + b.length ≤ 100000) : EX B (tOp (rCatA B.K) ta tb) ε L (.d (wayD (a ++ b))) Lb := by
  refine ex_is (ex_catT (ds := wayL a) (es := wayL b) h h2 (by rw [wayL_len, wayL_len]; exact hl)) ?_
  unfold wayD; rw [wayL_app]
theorem ex_lenW {B : Bg} {ε : Eps} {L La : Own} {te : TE} {a : Way} {r : List V → Hp → VK → Prop} (h : EX B te ε L (.d (wayD a)) La) (hr : r = fun xs H Q => ∃ p ys, xs = [.ref p] ∧ (SqL B.K H p ys ∨ SqT B.K H p ys) ∧ Q (.int ys.length) H) : EX B (tCB r (tCons te tNil)) ε L (.d (.int (a.length : Int))) La :=
  ex_int (ex_lenT (ds := wayL a) h hr) (by rw [wayL_len])
theorem ok_joined_ways (Fn : Fun K "joined_ways" "joined_ways" s_joined_ways f fd) (T : Bt P mg base) : FnOk P w K mg base CX0 41 f fd ["one", "other"] (spR K R_join) := by
  refine fn_data Fn sc_joined_ways (by decide) (fun ds d ⟨_, _, h, _⟩ => by rw [h]; rfl) fun cdv A outer s H E hr => ⟨_, (pss_cons (ps_if (pt_cmpR op_gt (pe_op op_add (pe_callB (r := Evl.rLenS K) call_len_seq (by rfl) T.n_len (by decide +kernel) (pa_cons (pv 0) pa_nil)) (pe_callB (r := Evl.rLenS K) call_len_seq (by rfl) T.n_len (by decide +kernel) (pa_cons (pv 1) pa_nil))) (pe_glob (v := .int 16) rfl T.c_MAX_GREAT_WAY.choose_spec ⟨_, rfl⟩) (nomark _)) (pss_one ps_dead) pss_nil)
      (pss_one (ps_ret (pe_op (r := rCatA K) op_catA (pv 0) (pv 1))))), ?_⟩
  rintro B Q ds d rfl hM ⟨a, b, rfl, hl, rfl⟩ q
  refine x_seq (x_if (b := false) (et_is (et_test (ex_gt (ex_add (ex_lenW (ex_v rfl) rfl) (ex_lenW (ex_v rfl) rfl)) ex_cI)) (decide_eq_false (by omega))) (fun h => nomatch h) fun _ => ?_)
  exact x_next (nxt (x_ret (ex_catW (ex_v rfl) (ex_v rfl) (by omega)) fun v F σ H r o => q v F H (hM ▸ r.nx) o))
end K86

/-! ## C4 -/
set_option Elab.async false
set_option linter.all false
set_option maxRecDepth 100000
set_option maxHeartbeats 4000000
set_option autoImplicit false
namespace K86
open PySem L2 Fz K80 Ways
variable {P : Program} {w : World} {K : PySem.W.Frag} {mg : Str → Option Value} {base : Heap} {f : Addr} {fd : FuncData}
def cellF (c : Int) : Int := if c < 0 then -c else c
def cellD : PyData → PyData
  | .int c => .int (cellF c)
  | d => d
theorem ints_at {l : List Int} {i : Nat} {d : PyData} (h : (l.map PyData.int)[i]? = some d) : i < l.length ∧ d = .int (l.getD i 0) := by
  rw [List.getElem?_map] at h
  have hi : i < l.length := by
    by_cases c : i < l.length
    · exact c
    · rw [List.getElem?_eq_none (by omega)] at h; cases h
  rw [List.getElem?_eq_getElem hi] at h
  refine ⟨hi, ?_⟩
  rw [List.getD_eq_getElem?_getD, List.getElem?_eq_getElem hi]
  cases h; rfl
theorem ok_law_bag (Fn : Fun K "_law_bag" "_law_bag" s_law_bag f fd) (T : Bt P mg base) : FnOk P w K mg base CX0 41 f fd ["script"] (spOwn K) := by
  refine Fn.ok sc_law_bag (fun vs H Q E ⟨_, _, h, _⟩ => by rw [h]; rfl) fun cdv A outer s H vs Q E hr h => ?_
  obtain ⟨a, ns, rfl, hS, hl, q⟩ := h
  refine ⟨_, (pss_cons (ps_setLc (i := 1) (own := [("cell", 3)]) rfl sc_law_bag.nd rfl rfl (sw_true rfl rfl rfl (by decide +kernel)) (pi_list (pe_slice (r := rSlL K) sl_list (pv 0) po_none (po_some pe_int))) (blkOk_by (own := [("cell", 3)]) (N := ["script", "cells", "mixed", "cell"]) (sc := defScope s_law_bag) (by decide +kernel)) (fun _ _ _ _ _ => (pg_name (i := 3) sc_law_bag.nd rfl (Or.inl rfl))) (fun _ _ _ _ _ => pts_nil) (fun _ _ _ _ _ => (pe_callB call_abs (by rfl) T.n_abs (by decide +kernel) (pa_cons (pe_callTy call_int1 (by rfl) T.n_int (by decide +kernel) (pa_cons (pv 3) pa_nil)) pa_nil))))
      (pss_cons (ps_set (i := 2) sc_law_bag.nd rfl (.inl rfl) (pe_op op_add pe_int (pe_callB (r := Evl.rLenS K) call_len_seq (by rfl) T.n_len (by decide +kernel) (pa_cons (pv 1) pa_nil))))
      (pss_cons (ps_for PassesOwn.never rfl (pi_list (pv 1)) (pg_name (i := 3) sc_law_bag.nd rfl (Or.inl rfl)) (pss_one (ps_set (i := 2) sc_law_bag.nd rfl (.inl rfl) (pe_op op_mod (pe_callTy call_int1 (by rfl) T.n_int (by decide +kernel) (pa_cons (pe_op op_add (pe_op op_add (pe_op op_mulW (pv 2) pe_int) (pe_op op_mod (pe_callTy call_int1 (by rfl) T.n_int (by decide +kernel) (pa_cons (pv 3) pa_nil)) pe_int)) pe_int) pa_nil)) pe_int))))
      (pss_one (ps_ret (pe_lst (pa_cons (pe_listRev rfl (by rfl) T.n_list (by rfl) T.n_reversed (pe_callTy (r := rListOf K) call_list_of (by rfl) T.n_list (by decide +kernel) (pa_cons (pv 1) pa_nil))) (pa_cons pe_int (pa_cons (pv 2) pa_nil))))))))), ?_⟩
  refine (?_ : Ho ⟨K, H, H, []⟩ _ (some (.v (.ref a)) :: List.replicate (4 - 1) none) [.seq a (ns.map PyData.int)]) H _ H (rep_startS (N := ["script", "cells", "mixed", "cell"]) hS (by decide))
  obtain ⟨ms, hms, hml⟩ := cut_map PyData.int ns none (some 63)
  refine x_seq (x_set (a := .d (li (ms.map cellF))) (ex_is (ex_frz (en_lcLP (xs := ms.map PyData.int) (fun _ => true) cellD (fun d => [some (.v (.ref a)), none, none, some (.d d)]) (ex_frz (en_is (en_slL (ds := ns.map PyData.int) (ex_v rfl) eo_n (eo_s ex_cI) (.r (k := 0) rfl)) hms)) (by rw [List.length_map]; omega) (gw_name (by simp))
    (fun d hd => gt_name) (fun d hd m => et_yes) ?_)) ?_) ?_)
  · rintro d hd _ m
    obtain ⟨c, _, rfl⟩ := List.mem_map.mp hd
    exact ex_abs (ex_int1 (ex_v rfl))
  · rw [filter_yes, List.map_map]
    unfold li
    rw [List.map_map]; rfl
  · refine x_sq (x_set (a := .d (.int (8621 + (ms.length : Int)))) (ex_add ex_cI (ex_int (ex_lenL (ds := (ms.map cellF).map PyData.int) (ex_v rfl) .d rfl) (by rw [List.length_map, List.length_map]))) ?_)
    refine x_sq (x_forL (ds := (ms.map cellF).map PyData.int) (ex_v rfl) (fun v i ε L => ∃ m : Int, (0 ≤ m ∧ m < 2147483647) ∧ ε = [some (.v (.ref a)), some (.d (li (ms.map cellF))), iv m, none] ∧ L = [.seq a (ns.map PyData.int), .know v (li (ms.map cellF))]) (fun v => ⟨_, ⟨by omega, by omega⟩, rfl, rfl⟩)
      (fun v i ε' L' ⟨_, _, _, h⟩ => by rw [h]; exact List.mem_cons_of_mem _ (List.mem_singleton_self _)) ?_ ?_)
    · rintro v i d ε' L' hd ⟨m, hm, rfl, rfl⟩
      obtain ⟨_, rfl⟩ := ints_at hd
      refine ⟨_, gt_name, x_set (ex_mod (ex_int1 (ex_add (ex_add (ex_mul (ex_v rfl) ex_cI (cmul (Bd.of (k := 32) (n := 2147483648) (by omega) (by omega) (by decide)) (Bd.of (k := 16) (n := 48272) (by decide) (by decide) (by decide)) (by decide))) (ex_mod (ex_int1 (ex_v rfl)) ex_cI (by decide))) ex_cI)) ex_cI (by decide)) ?_⟩
      exact x_abs ⟨_, ⟨Int.emod_nonneg _ (by decide), Int.emod_lt_of_pos _ (by decide)⟩, rfl, rfl⟩ ⟨.inr rfl, .inr rfl, .inr rfl, .inl rfl, trivial⟩
    · rintro v ε' L' ⟨m, hm, rfl, rfl⟩
      refine nxt (x_retBag (c := (ms.map cellF).reverse) (u := 0) (mx := m) (en_is (en_listRevN (en_list (ds := (ms.map cellF).map PyData.int) (ex_v rfl) .d)) List.map_reverse.symm) (fun _ => ex_cI) (fun _ => ex_v rfl) fun pb pc F σ H' r n1 n2 ne => ?_)
      refine q pb pc ⟨(ms.map cellF).reverse, 0, m, hm.1, hm.2, Int.le_refl 0, fun c hc => ?_⟩ H' (fun b o e => r.h0 b o List.not_mem_nil e) n1 n2 ne (r.bag List.mem_cons_self)
      obtain ⟨z, _, rfl⟩ := List.mem_map.mp (List.mem_reverse.mp hc)
      unfold cellF; split <;> omega
end K86

/-! ## D0 -/
set_option Elab.async false
set_option linter.all false
set_option maxRecDepth 100000
set_option maxHeartbeats 4000000
set_option autoImplicit false
namespace K86
open PySem L2 Fz K80 Ways
variable {P : Program} {w : World} {K : PySem.W.Frag} {mg : Str → Option Value} {base : Heap} {f : Addr} {fd : FuncData}
abbrev bagv (p : Addr) : Option AD := some (.v (.ref p))
abbrev dv (d : PyData) : Option AD := some (.d d)
abbrev wv (v : Way) : Option AD := some (.d (wayD v))
theorem wayD_eT (v : Way) : wayD v = eT (eP PyData.int PyData.int) v := rfl
theorem eq_way : Eq' wayD := eq_eT (eq_eP eq_int eq_int)
abbrev S_law_draw (K : PySem.W.Frag) : Sp := S_draw K
abbrev S_law_pick (K : PySem.W.Frag) : Sp := S_pick K
abbrev S_reduced_way (K : PySem.W.Frag) : Sp := spD K (fun v : Way => [wayD v]) (fun v => v.length ≤ 5000) wayD (fun v x => x = redW v)
abbrev S_are_same_ways (K : PySem.W.Frag) : Sp := spD K (fun y : Way × Way => [wayD y.1, wayD y.2]) (fun y => y.1.length ≤ 5000 ∧ y.2.length ≤ 5000) PyData.bool (fun y x => x = decide (redW y.1 = redW y.2))
def WsOk (y : Way × List Int) : Prop := y.2.length ≤ 40 ∧ y.1.length ≤ 5000 ∧ tot y.1 < 2 ^ 50
def wsD (y : Way × List Int) : PyData := frD (rowF y.2 y.1 y.2.length) (fac y.2.length : Int)
abbrev S_way_sum (K : PySem.W.Frag) : Sp := spD K (fun y : Way × List Int => [wayD y.1, ti y.2]) WsOk eD (fun y x => x = wsD y)
abbrev S_law_row (K : PySem.W.Frag) : Sp := spD K (fun y : Way × List Int => [wayD y.1, ti y.2]) WsOk li (fun y x => x = rowL (rowF y.2 y.1) (y.2.length + 1))
abbrev S_joined_ways (K : PySem.W.Frag) : Sp := spD K (fun y : Way × Way => [wayD y.1, wayD y.2]) (fun y => y.1.length + y.2.length ≤ 16) wayD (fun y x => x = y.1 ++ y.2)
theorem okd_law_draw (Fn : Fun K "_law_draw" "_law_draw" s_law_draw f fd) (T : Bt P mg base) : FnOk P w K mg base CX0 41 f fd ["bag", "below"] (S_law_draw K) := draw_wk (ok_law_draw Fn T)
theorem okd_law_pick (Fn : Fun K "_law_pick" "_law_pick" s_law_pick f fd) (T : Bt P mg base) (C_law_draw : Df P w K mg base 41 "_law_draw" ["bag", "below"] (spB K R_draw)) : FnOk P w K mg base CX0 42 f fd ["bag", "some"] (S_law_pick K) := pick_wk (ok_law_pick Fn T C_law_draw)
theorem okd_reduced_way (Fn : Fun K "reduced_way" "reduced_way" s_reduced_way f fd) (T : Bt P mg base) : FnOk P w K mg base CX0 41 f fd ["way"] (S_reduced_way K) := fn_wk (ok_reduced_way Fn T) (spD_of fun v h => ⟨_, ⟨v, rfl, h, rfl⟩, rfl⟩)
theorem okd_are_same_ways (Fn : Fun K "are_same_ways" "are_same_ways" s_are_same_ways f fd) (T : Bt P mg base) (C_reduced_way : Df P w K mg base 41 "reduced_way" ["way"] (spR K R_red)) : FnOk P w K mg base CX0 42 f fd ["one", "other"] (S_are_same_ways K) := fn_wk (ok_are_same_ways Fn T C_reduced_way) (spD_of fun y h => ⟨_, ⟨y.1, y.2, rfl, h.1, h.2, rfl⟩, rfl⟩)
theorem ws_wk {x : Str} {ps : List Str} {k : Nat} (h : FnOk P w K mg base CX0 k f fd ps (spR K R_wsum)) : FnOk P w K mg base CX0 k f fd ps (S_way_sum K) := fn_wk h (spD_of fun y h => ⟨_, ⟨y.1, y.2, rfl, h.1, h.2.1, h.2.2, rfl⟩, rfl⟩)
theorem row_wk {x : Str} {ps : List Str} {k : Nat} (h : FnOk P w K mg base CX0 k f fd ps (spR K R_row)) : FnOk P w K mg base CX0 k f fd ps (S_law_row K) := fn_wk h (spD_of fun y h => ⟨_, ⟨y.1, y.2, rfl, h.1, h.2.1, h.2.2, rfl⟩, rfl⟩)
theorem okd_law_row (Fn : Fun K "_law_row" "_law_row" s_law_row f fd) (T : Bt P mg base) : FnOk P w K mg base CX0 41 f fd ["way", "word"] (S_law_row K) := row_wk (x := "") (ok_law_row Fn T)
theorem okd_joined_ways (Fn : Fun K "joined_ways" "joined_ways" s_joined_ways f fd) (T : Bt P mg base) : FnOk P w K mg base CX0 41 f fd ["one", "other"] (S_joined_ways K) := fn_wk (ok_joined_ways Fn T) (spD_of fun y h => ⟨_, ⟨y.1, y.2, rfl, h, rfl⟩, rfl⟩)
/-! ### like things -/
abbrev S_law_same (K : PySem.W.Frag) : Sp := spD K (fun d : PyData => [d, d]) Fz.SameOk PyData.bool (fun _ x => x = true)
theorem okd_law_same (Fn : Fun K "_law_same" "_law_same" s_law_same f fd) (T : Bt P mg base)  : GOk P w K mg base 41 f fd ["told", "due"] (S_law_same K) := by
  refine g_D Fn sc_law_same (by decide) (fun _ => rfl) fun cdv A outer s H hr hG => ⟨_, (pss_one (ps_ret (pe_and (pe_cmpR op_eq (pe_callB (r := rReprD K) (call_reprD hr hG) (by rfl) T.n_repr (by decide +kernel) (pa_cons (pv 0) pa_nil)) (pe_callB (r := rReprD K) (call_reprD hr hG) (by rfl) T.n_repr (by decide +kernel) (pa_cons (pv 1) pa_nil)) (nomark _)) (pe_one (pe_cmpR (r := rEqD K) (op_eqD hr.units) (pv 0) (pv 1) (nomark _)))))), ?_⟩
  rintro B Q d rfl ⟨s1, s2, s3⟩ q
  exact x_retD q (wv_of (e := PyData.bool) (ex_andV (b := true) (c := true) (ex_boolE (ex_eqS (ex_rep s1 (ex_v rfl)) (ex_rep s1 (ex_v rfl))) (decide_eq_true rfl)) (fun _ => ex_boolE (ex_eqD (ex_v rfl) (ex_v rfl) s2 s2) s3) (fun h => nomatch h)) rfl)
/-! ### strides -/
abbrev S_law_stride (K : PySem.W.Frag) : Sp := spG K (fun _ : Unit => []) (fun _ => True) PyData.int (fun _ x => x ≠ 0 ∧ x.natAbs ≤ 100)
theorem okd_law_stride (Fn : Fun K "_law_stride" "_law_stride" s_law_stride f fd) (T : Bt P mg base) (D_law_pick : Df P w K mg base 42 "_law_pick" ["bag", "some"] (S_law_pick K)) (D_law_draw : Df P w K mg base 41 "_law_draw" ["bag", "below"] (S_law_draw K)) : FnOk P w K mg base CX0 43 f fd ["bag"] (S_law_stride K) := by
  refine fn_G Fn sc_law_stride (by decide) (fun _ => rfl) fun cdv A outer s H E hr => ⟨_, (pss_cons (ps_set (i := 1) sc_law_stride.nd rfl (.inl rfl) (pe_callD D_law_pick (hr.mono (by decide)) (by rfl) (pa_cons (pv 0) (pa_cons (pe_lst (pa_cons pe_int (pa_cons pe_int (pa_cons pe_int (pa_cons pe_int (pa_cons pe_int pa_nil)))))) pa_nil))))
      (pss_cons (ps_set (i := 2) sc_law_stride.nd rfl (.inl rfl) (pe_ifExp (pt_cmpR op_eq (pe_callD D_law_draw (hr.mono (by decide)) (by rfl) (pa_cons (pv 0) (pa_cons pe_int pa_nil))) pe_int (nomark _)) pe_int (pe_op op_add pe_int (pe_callD D_law_draw (hr.mono (by decide)) (by rfl) (pa_cons (pv 0) (pa_cons (pv 1) pa_nil))))))
      (pss_one (ps_ret (pe_ifExp (pt_cmpR op_eq (pe_callD D_law_draw (hr.mono (by decide)) (by rfl) (pa_cons (pv 0) (pa_cons pe_int pa_nil))) pe_int (nomark _)) (pv 2) (pe_un un_neg (pv 2))))))), ?_⟩
  rintro B Q pb pc b _ rfl _ q
  refine x_seq (x_setV (w_pck (e := PyData.int) (xs := [1, 2, 5, 100, 100]) rfl (ex_frz (en_lst (ds := [.int 1, .int 2, .int 5, .int 100, .int 100]) (ea_cons ex_cI (ea_cons ex_cI (ea_cons ex_cI (ea_cons ex_cI (ea_cons ex_cI ea_nil))))) (Nat.le_of_ble_eq_true rfl))) (fun b' => .z) (by decide) (by decide) fun x b' hx => ?_) (fun x => .s .z))
  have hr : 1 ≤ x ∧ x ≤ 100 := by
    simp only [List.mem_cons, List.not_mem_nil, or_false] at hx
    omega
  refine x_sq (x_setV (w_if (e := PyData.int) (wt_test (w_eq (w_drw rfl ex_cI (fun b' => .z) (by decide) fun y b1 h0 h1 => wv_of ex_cI ⟨fun _ => wv_of ex_cI ?_, fun _ => w_add (wv_of ex_cI (w_drw rfl (ex_v rfl) (fun b' => .z) (by omega) fun z b2 h2 h3 => ?_))⟩)))) (fun x => .s (.s .z)))
  · refine nxt (x_retG q (w_if (wt_test (w_eq (w_drw rfl ex_cI (fun b' => .z) (by decide) fun y b1 h0 h1 => wv_of ex_cI ⟨fun _ => wv_of (ex_v rfl) ⟨by omega, _, List.mem_cons_self⟩, fun _ => wv_of (ex_neg (ex_v rfl)) ⟨by omega, _, List.mem_cons_self⟩⟩)))))
  · refine nxt (x_retG q (w_if (wt_test (w_eq (w_drw rfl ex_cI (fun b' => .z) (by decide) fun y b1 h0 h1 => wv_of ex_cI ⟨fun _ => wv_of (ex_v rfl) ⟨by omega, _, List.mem_cons_self⟩, fun _ => wv_of (ex_neg (ex_v rfl)) ⟨by omega, _, List.mem_cons_self⟩⟩)))))
end K86

/-! ## E1 -/
set_option Elab.async false
set_option linter.all false
set_option maxRecDepth 100000
set_option maxHeartbeats 4000000
set_option autoImplicit false
namespace K86
open PySem L2 Fz K80 Ways
variable {P : Program} {w : World} {K : PySem.W.Frag} {mg : Str → Option Value} {base : Heap} {f : Addr} {fd : FuncData}
/-! ### ways within bounds -/
def StW (c : Nat) (x : Int × Int) : Prop := 0 ≤ x.1 ∧ x.1 < 4 ∧ x.2.natAbs ≤ c ∧ x.2 ≠ 0
def GW (n c : Nat) (v : Way) : Prop := v.length ≤ n ∧ ∀ x ∈ v, StW c x
theorem StW.mono {c d : Nat} {x : Int × Int} (h : StW c x) (hd : c ≤ d) : StW d x := ⟨h.1, h.2.1, Nat.le_trans h.2.2.1 hd, h.2.2.2⟩
theorem gw_nil {n c : Nat} : GW n c [] := ⟨Nat.zero_le _, fun _ h => nomatch h⟩
theorem GW.mono {n m c d : Nat} {v : Way} (h : GW n c v) (hn : n ≤ m) (hc : c ≤ d) : GW m d v := ⟨Nat.le_trans h.1 hn, fun x hx => (h.2 x hx).mono hc⟩
theorem GW.app {n m c : Nat} {a b : Way} (h : GW n c a) (h2 : GW m c b) : GW (n + m) c (a ++ b) := ⟨by rw [List.length_append]; exact Nat.add_le_add h.1 h2.1, fun x hx => (List.mem_append.mp hx).elim (h.2 x) (h2.2 x)⟩
theorem gw_one {c : Nat} {x : Int × Int} (h : StW c x) : GW 1 c [x] := ⟨Nat.le_refl _, fun y hy => by rw [List.mem_singleton.mp hy]; exact h⟩
theorem gw_two {c : Nat} {x y : Int × Int} (h : StW c x) (h2 : StW c y) : GW 2 c [x, y] := (gw_one h).app (gw_one h2)
theorem GW.len {n m c : Nat} {v : Way} (h : GW n c v) (hm : v.length ≤ m) : GW m c v := ⟨hm, h.2⟩
theorem GW.take {n c : Nat} {v : Way} (h : GW n c v) (k : Nat) : GW n c (v.take k) := ⟨by have := h.1; rw [List.length_take]; omega, fun x hx => h.2 x (List.mem_of_mem_take hx)⟩
theorem GW.drop {n c : Nat} {v : Way} (h : GW n c v) (k : Nat) : GW n c (v.drop k) := ⟨by have := h.1; rw [List.length_drop]; omega, fun x hx => h.2 x (List.mem_of_mem_drop hx)⟩
theorem GW.rev {n c : Nat} {v : Way} (h : GW n c v) : GW n c v.reverse := ⟨by rw [List.length_reverse]; exact h.1, fun x hx => h.2 x (List.mem_reverse.mp hx)⟩
theorem GW.back {n c : Nat} {v : Way} (h : GW n c v) : GW n c (backW v) := ⟨by unfold backW; rw [List.length_reverse, List.length_map]; exact h.1, fun x hx => by
  unfold backW at hx
  obtain ⟨y, hy, rfl⟩ := List.mem_map.mp (List.mem_reverse.mp hx)
  have := h.2 y hy
  exact ⟨this.1, this.2.1, by show (-y.2).natAbs ≤ c; rw [Int.natAbs_neg]; exact this.2.2.1, by show -y.2 ≠ 0; have := this.2.2.2; omega⟩⟩
theorem GW.at {n c k : Nat} {v : Way} {x : Int × Int} (h : GW n c v) (hk : v[k]? = some x) : StW c x := h.2 x (List.mem_of_getElem? hk)
theorem tot_le {c : Nat} : ∀ {v : Way}, (∀ x ∈ v, StW c x) → tot v ≤ v.length * c
  | [], _ => Nat.zero_le _
  | x :: v, h => by
    have h1 := tot_le (v := v) fun y hy => h y (List.mem_cons_of_mem _ hy)
    have h2 := (h x List.mem_cons_self).2.2.1
    show x.2.natAbs + tot v ≤ (v.length + 1) * c
    rw [Nat.add_mul, Nat.one_mul]
    omega
theorem GW.tot {n c : Nat} {v : Way} (h : GW n c v) : tot v ≤ n * c := Nat.le_trans (tot_le h.2) (Nat.mul_le_mul_right _ h.1)
theorem step_from (S : Int × Int → Prop) {f : Way} (hf : ∀ x ∈ f, ∃ y, S y ∧ y.1 = x.1) {x : Int × Int} (hx : S x) : ∀ z ∈ stepW f x, ∃ y, S y ∧ y.1 = z.1 := by
  rcases snoc_cases f with rfl | ⟨g, y, rfl⟩
  · rw [step_nil]
    intro z hz
    split at hz
    · exact nomatch hz
    · rw [List.mem_singleton.mp hz]; exact ⟨x, hx, rfl⟩
  · rw [step_snoc]
    have hg : ∀ z ∈ g, ∃ y, S y ∧ y.1 = z.1 := fun z hz => hf z (List.mem_append_left _ hz)
    intro z hz
    split at hz
    · split at hz
      · exact hg z hz
      · rcases List.mem_append.mp hz with h | h
        · exact hg z h
        · rw [List.mem_singleton.mp h]; exact ⟨x, hx, rfl⟩
    · split at hz
      · exact hf z hz
      · rcases List.mem_append.mp hz with h | h
        · exact hf z h
        · rw [List.mem_singleton.mp h]; exact ⟨x, hx, rfl⟩
theorem red_from (v : Way) : ∀ z ∈ redW v, ∃ y ∈ v, y.1 = z.1 := by
  have : ∀ (u f : Way), (∀ x ∈ u, x ∈ v) → (∀ x ∈ f, ∃ y, y ∈ v ∧ y.1 = x.1) → ∀ z ∈ u.foldl stepW f, ∃ y, y ∈ v ∧ y.1 = z.1 := fun u => by
    induction u with
    | nil => exact fun f _ h => h
    | cons x u ih => exact fun f hu h => ih _ (fun y hy => hu y (List.mem_cons_of_mem _ hy)) (step_from (· ∈ v) h (hu x List.mem_cons_self))
  exact this v [] (fun _ h => h) (fun _ h => nomatch h)
theorem tot_ge {v : Way} {x : Int × Int} (h : x ∈ v) : x.2.natAbs ≤ tot v := by
  obtain ⟨i, hi⟩ := List.mem_iff_getElem?.mp h
  have := tot_mem hi
  omega
theorem _root_.Ways.Red.nz {f : Way} (h : Red f) : ∀ {z : Int × Int}, z ∈ f → z.2 ≠ 0 := by
  induction h with
  | nil => exact fun h => nomatch h
  | one h => intro z hz; rw [List.mem_singleton.mp hz]; exact h
  | snoc _ h2 _ ih =>
    intro z hz
    rcases List.mem_append.mp hz with q | q
    · exact ih q
    · rw [List.mem_singleton.mp q]; exact h2
theorem GW.red {n c : Nat} {v : Way} (h : GW n c v) : GW n (n * c) (redW v) := by
  have h1 := tot_red v
  refine ⟨Nat.le_trans h1.2 h.1, fun z hz => ?_⟩
  obtain ⟨y, hy, e⟩ := red_from v z hz
  have h2 := h.2 y hy
  exact ⟨by rw [← e]; exact h2.1, by rw [← e]; exact h2.2.1, Nat.le_trans (tot_ge hz) (Nat.le_trans h1.1 h.tot), (red_red v).nz hz⟩
theorem GW.nice {n c : Nat} {v : Way} (h : GW n c v) (hc : c ≤ 2 ^ 60) : Nice 2 (n * 3) (wayD v) := by
  refine nice_eT (e := stD) (k := 1) (m := 2) (fun x hx => ?_) h.1
  obtain ⟨h1, h2, h3, _⟩ := h.2 x hx
  refine nice_ints (l := [x.1, x.2]) (fun z hz => ?_) (by show 2 ≤ 2; exact Nat.le_refl _)
  have big : (2 : Nat) ^ 61 ≤ 2 ^ 1920 := Nat.pow_le_pow_right (by decide) (by decide)
  simp only [List.mem_cons, List.not_mem_nil, or_false] at hz
  unfold Bd
  rcases hz with e | e <;> rw [e] <;> omega
/-! ### turned about -/
abbrev S_turned_way (K : PySem.W.Frag) : Sp := spD K (fun v : Way => [wayD v]) (fun v => v.length ≤ 5000) wayD (fun v x => x = backW v)
abbrev S_law_back (K : PySem.W.Frag) : Sp := S_turned_way K
def negD : PyData → PyData
  | .tuple [.int x, .int y] => .tuple [.int x, .int (-y)]
  | d => d
theorem map_negD (v : Way) : (wayL v).map negD = wayL (v.map negW) := by
  unfold wayL
  rw [List.map_map, List.map_map]; rfl
theorem okd_turned_way (Fn : Fun K "turned_way" "turned_way" s_turned_way f fd) (T : Bt P mg base)  : FnOk P w K mg base CX0 41 f fd ["way"] (S_turned_way K) := by
  refine fn_D Fn sc_turned_way (by decide) (fun _ => rfl) fun cdv A outer s H E hr => ⟨_, (pss_one (ps_ret (pe_tupleOf (by rfl) T.n_tuple (pe_lc (g := gTup K 2 (gCons (gName 1) (gCons (gName 2) gNil))) (own := [("letter", 1), ("length", 2)]) rfl sc_turned_way.nd (pi_tup (pe_revT0 (pv 0))) (blkOk_by (own := [("letter", 1), ("length", 2)]) (N := ["way", "letter", "length"]) (sc := defScope s_turned_way) (by decide +kernel)) (fun _ _ _ _ _ => (pg_tup rfl (pgs_cons (pg_name (i := 1) sc_turned_way.nd rfl (Or.inl rfl)) (pgs_cons (pg_name (i := 2) sc_turned_way.nd rfl (Or.inl rfl)) pgs_nil)))) (fun _ _ _ _ _ => pts_nil) (fun _ _ _ _ _ => (pe_tup (pa_cons (pv 1) (pa_cons (pe_un un_neg (pv 2)) pa_nil)))))))), ?_⟩
  rintro B Q v rfl hv q
  refine x_retD q (wv_of (x := backW v) (ex_is (ex_tupL (ds := (wayL v).reverse.map negD) (ex_is (ex_frz (en_lcTP (xs := (wayL v).reverse) (fun _ => true) negD (fun d => match d with | .tuple [x, y] => [some (.d (wayD v)), some (.d x), some (.d y)] | _ => []) (ex_revT0 (ds := wayL v) (ex_v rfl)) (by rw [List.length_reverse, wayL_len]; omega) (gw_tup2 (by simp) (by simp)) (fun d hd => ?_) (fun d hd m => et_yes) (fun d hd _ m => ?_))) (by rw [filter_yes])) .d) ?_) rfl)
  · obtain ⟨x, _, rfl⟩ := List.mem_map.mp (List.mem_reverse.mp hd)
    exact gt_tup2 (d := .int x.1) (e := .int x.2)
  · obtain ⟨x, _, rfl⟩ := List.mem_map.mp (List.mem_reverse.mp hd)
    exact ex_tup (ds := [.int x.1, .int (-x.2)]) (ea_cons (ex_v rfl) (ea_cons (ex_neg (ex_v rfl)) ea_nil)) (Nat.le_of_ble_eq_true rfl)
  · rw [List.map_reverse, map_negD]
    unfold wayD backW wayL
    rw [List.map_reverse]
theorem okd_law_back (Fn : Fun K "_law_back" "_law_back" s_law_back f fd) (T : Bt P mg base)  : FnOk P w K mg base CX0 41 f fd ["way"] (S_law_back K) := by
  refine fn_D Fn sc_law_back (by decide) (fun _ => rfl) fun cdv A outer s H E hr => ⟨_, (pss_one (ps_ret (RT.pe_tupRev rfl (by rfl) T.n_tuple (by rfl) T.n_reversed (pe_callTy (r := rListOf K) call_list_of (by rfl) T.n_list (by decide +kernel) (pa_cons (pe_lc (g := gTup K 2 (gCons (gName 1) (gCons (gName 2) gNil))) (own := [("letter", 1), ("stride", 2)]) rfl sc_law_back.nd (pi_tup (pv 0)) (blkOk_by (own := [("letter", 1), ("stride", 2)]) (N := ["way", "letter", "stride"]) (sc := defScope s_law_back) (by decide +kernel)) (fun _ _ _ _ _ => (pg_tup rfl (pgs_cons (pg_name (i := 1) sc_law_back.nd rfl (Or.inl rfl)) (pgs_cons (pg_name (i := 2) sc_law_back.nd rfl (Or.inl rfl)) pgs_nil)))) (fun _ _ _ _ _ => pts_nil) (fun _ _ _ _ _ => (pe_tup (pa_cons (pv 1) (pa_cons (pe_un un_neg (pv 2)) pa_nil))))) pa_nil))))), ?_⟩
  rintro B Q v rfl hv q
  refine x_retD q (wv_of (x := backW v) (ex_is (ex_tupRev (ds := (wayL v).map negD) (ex_frz (en_list (ds := (wayL v).map negD) (ex_is (ex_frz (en_lcTP (xs := wayL v) (fun _ => true) negD (fun d => match d with | .tuple [x, y] => [some (.d (wayD v)), some (.d x), some (.d y)] | _ => []) (ex_v rfl) (by rw [wayL_len]; omega) (gw_tup2 (by simp) (by simp)) (fun d hd => ?_) (fun d hd m => et_yes) (fun d hd _ m => ?_))) (by rw [filter_yes])) .d)) .d) ?_) rfl)
  · obtain ⟨x, _, rfl⟩ := List.mem_map.mp hd
    exact gt_tup2 (d := .int x.1) (e := .int x.2)
  · obtain ⟨x, _, rfl⟩ := List.mem_map.mp hd
    exact ex_tup (ds := [.int x.1, .int (-x.2)]) (ea_cons (ex_v rfl) (ea_cons (ex_neg (ex_v rfl)) ea_nil)) (Nat.le_of_ble_eq_true rfl)
  · rw [map_negD]
    unfold wayD backW wayL
    rw [List.map_reverse]
/-! ### drawn ways -/
abbrev S_law_own_way (K : PySem.W.Frag) : Sp := spG K (fun y : Int × Int => [.int y.1, .int y.2]) (fun y => (1 ≤ y.1 ∧ y.1 ≤ 4) ∧ 0 ≤ y.2 ∧ y.2 ≤ 100) wayD (fun y v => GW y.2.toNat 100 v)
theorem w_stride {B : Bg} {ε : Eps} {L : Own} {E : XK} {pb pc : Addr} {i : Nat} {b : Bag} {L2 : Bag → Own} {κ : Int → Own → Prop} (hb : ε[i]? = some (some (.v (.ref pb)))) (hup : ∀ b', Up L (b.at pb pc) (b'.at pb pc) (L2 b')) (k : ∀ (x : Int) b', x ≠ 0 → x.natAbs ≤ 100 → κ x (L2 b')) : WV B PyData.int (tCall (S_law_stride B.K) [] E (tCons (tVar i) tNil)) ε L κ :=
  w_callG (pb := pb) (pc := pc) (wa_x (ex_v hb) (wa_nil ⟨(), b, L2, rfl, hup, trivial, fun x b' hx => k x b' hx.1 hx.2⟩))
theorem okd_law_own_way (Fn : Fun K "_law_own_way" "_law_own_way" s_law_own_way f fd) (T : Bt P mg base) (D_law_pick : Df P w K mg base 42 "_law_pick" ["bag", "some"] (S_law_pick K)) (D_law_draw : Df P w K mg base 41 "_law_draw" ["bag", "below"] (S_law_draw K)) (D_law_stride : Df P w K mg base 43 "_law_stride" ["bag"] (S_law_stride K)) : FnOk P w K mg base CX0 44 f fd ["bag", "k", "most"] (S_law_own_way K) := by
  refine fn_G Fn sc_law_own_way (by decide) (fun _ => rfl) fun cdv A outer s H E hr => ⟨_, (pss_cons (ps_par3 (i := 3) (j := 4) (l := 5) (by rfl) sc_law_own_way.nd rfl rfl rfl (by decide) (by decide) (by decide) rfl rfl rfl (pa_cons (pe_callD D_law_pick (hr.mono (by decide)) (by rfl) (pa_cons (pv 0) (pa_cons (pe_lst (pa_cons (pv 2) (pa_cons (pe_callD D_law_draw (hr.mono (by decide)) (by rfl) (pa_cons (pv 0) (pa_cons (pe_op op_add (pv 2) pe_int) pa_nil))) pa_nil))) pa_nil))) (pa_cons (pe_lst pa_nil) (pa_cons (pe_callD D_law_draw (hr.mono (by decide)) (by rfl) (pa_cons (pv 0) (pa_cons pe_int pa_nil))) pa_nil))) (by rfl))
      (pss_cons (ps_for PassesOwn.never rfl (pi_range1 (by rfl) T.n_range (pa_cons (pv 3) pa_nil)) (pg_name (i := 6) sc_law_own_way.nd rfl (Or.inl rfl)) (pss_one (ps_if (PW.pt (pw_and (pt_cmpR (r := rNeD K) (op_neD hr.units) (pv 4) (pe_lst pa_nil) (nomark _)) (pw_and1 (pt_cmpR op_lt (pe_callD D_law_draw (hr.mono (by decide)) (by rfl) (pa_cons (pv 0) (pa_cons pe_int pa_nil))) (pv 5) (nomark _))))) (pss_one (ps_expr (pe_bm PySem.F.plainAttrs_list PySem.F.slot_list_append PySem.F.type_list_append mt_append (pv 4) (pa_cons (pe_tup (pa_cons (pe_ix (r := rIxT K) ix_tup (pe_ix (r := rIxL K) ix_list (pv 4) (pe_un un_neg pe_int) (fun _ _ => rfl)) pe_int (fun _ _ => rfl)) (pa_cons (pe_callD D_law_pick (hr.mono (by decide)) (by rfl) (pa_cons (pv 0) (pa_cons (pe_lst (pa_cons (pe_un un_neg (pe_ix (r := rIxT K) ix_tup (pe_ix (r := rIxL K) ix_list (pv 4) (pe_un un_neg pe_int) (fun _ _ => rfl)) pe_int (fun _ _ => rfl))) (pa_cons (pe_callD D_law_stride (hr.mono (by decide)) (by rfl) (pa_cons (pv 0) pa_nil)) pa_nil))) pa_nil))) pa_nil))) pa_nil)))) (pss_one (ps_expr (pe_bm PySem.F.plainAttrs_list PySem.F.slot_list_append PySem.F.type_list_append mt_append (pv 4) (pa_cons (pe_tup (pa_cons (pe_callD D_law_draw (hr.mono (by decide)) (by rfl) (pa_cons (pv 0) (pa_cons (pv 1) pa_nil))) (pa_cons (pe_callD D_law_stride (hr.mono (by decide)) (by rfl) (pa_cons (pv 0) pa_nil)) pa_nil))) pa_nil)))))))
      (pss_one (ps_ret (pe_tupleOf (by rfl) T.n_tuple (pv 4)))))), ?_⟩
  rintro B Q pb pc b ⟨k, most⟩ rfl ⟨⟨hk1, hk4⟩, hm0, hm1⟩ q
  dsimp only at hk1 hk4 hm0 hm1
  refine x_seq (x_par3W (wa_v (e := PyData.int) (w_pick (pb := pb) (pc := pc) (wa_x (ex_v rfl) (wa_v (w_dispL (e := PyData.int) (wa_x (ex_v rfl) (wa_v (e := PyData.int) (w_drw (pb := pb) (pc := pc) rfl (ex_add (ex_v rfl) ex_cI) (fun b' => .z) (by omega) fun x b1 h0 h1 => wa_nil ⟨[most, x], rfl, by show 2 ≤ 100000; decide, wa_nil ⟨_, b1, _, rfl, fun b' => .z, List.cons_ne_nil _ _, by show 2 ≤ 100000; decide, fun many b2 hmany => ?_⟩⟩)))))))))
  have hm : 0 ≤ many ∧ many ≤ most := by
    simp only [List.mem_cons, List.not_mem_nil, or_false] at hmany
    omega
  clear hmany
  refine wa_cons (wx_r (wr_of (ds := []) (en_lst ea_nil (Nat.zero_le _)) fun p hp => wa_v (e := PyData.int) (w_drw (pb := pb) (pc := pc) rfl ex_cI (fun b' => .s .z) (by decide) fun near b3 h2 h3 => wa_nil ⟨_, _, _, rfl, ?_⟩)))
  refine x_sq (x_forR1 (n := many) (ea_cons (ex_v rfl) ea_nil) (by omega) (fun i ε L => ∃ (v : Way) (b : Bag), GW i 100 v ∧ v.length = i ∧ ε = [bagv pb, iv k, iv most, iv many, bagv p, iv near, none] ∧ L = [.lst p (wayL v), b.at pb pc]) ⟨[], b3, gw_nil, rfl, rfl, rfl⟩ ?_ ?_)
  · rintro i ε' L' hi ⟨v, b, hv, hvl, rfl, rfl⟩
    refine x_ifJ (J := fun L1 => ∃ b : Bag, L1 = [.lst p (wayL v), b.at pb pc]) (wt_and (wt_of (et_test (ex_neNil (ds := wayL v) (ex_v rfl) (.o (k := 0) rfl) (shaped_wayL v))) ⟨fun hne => ?_, fun _ => ⟨(fun h => nomatch h), fun _ => ⟨b, rfl⟩⟩⟩)) ?_
    · refine wt_test (w_lt (w_drw (pb := pb) (pc := pc) rfl ex_cI (fun b' => .s .z) (by decide) fun x b1 h0 h1 => wv_of (ex_v rfl) ⟨fun _ => ?_, fun _ => ⟨b1, rfl⟩⟩))
      rcases snoc_cases v with rfl | ⟨g, y, rfl⟩
      · exact nomatch hne
      have hy := hv.2 y (List.mem_append_right _ List.mem_cons_self)
      have lasty : ∀ {L : Own}, L[0]? = some (.lst p (wayL (g ++ [y]))) → EX B (tOp (rIxL B.K) (tVar 4) (tUn (rU fun i => .int (-i)) (tC (.int 1)))) [bagv pb, iv k, iv most, iv many, bagv p, iv near, iv i] L (.d (.tuple [.int y.1, .int y.2])) L := fun h => ex_ixL (ds := wayL (g ++ [y])) (ex_v rfl) (ex_neg ex_cI) (.o (k := 0) h) (at_last g y)
      refine x_appW (e := stD) (ex_v rfl) ⟨_, _, .z⟩ (w_pair (e := PyData.int) (f := PyData.int) (wv_of (ex_ixT (lasty rfl) ex_cI rfl) (w_pick (pb := pb) (pc := pc) (wa_x (ex_v rfl) (wa_v (w_dispL (e := PyData.int) (wa_x (ex_neg (ex_ixT (lasty rfl) ex_cI rfl)) (wa_v (e := PyData.int) (w_stride (pb := pb) (pc := pc) rfl (fun b' => .s .z) fun s b4 h4 h5 => wa_nil ⟨[-y.2, s], rfl, by show 2 ≤ 100000; decide, wa_nil ⟨_, b4, _, rfl, fun b' => .s .z, List.cons_ne_nil _ _, by show 2 ≤ 100000; decide, fun z b5 hz => ⟨_, _, .z, by rw [wayL_len]; omega, nxt (x_end ⟨(g ++ [y]) ++ [(y.1, z)], b5, hv.app (gw_one ⟨hy.1, hy.2.1, ?_⟩), by rw [List.length_append, hvl]; rfl, rfl, by rw [wayL_app (g ++ [y])]; rfl⟩)⟩⟩⟩)))))))))
      have := hy.2.2
      simp only [List.mem_cons, List.not_mem_nil, or_false] at hz
      show z.natAbs ≤ 100 ∧ z ≠ 0
      omega
    · rintro L1 ⟨b1, rfl⟩
      refine x_appW (e := stD) (ex_v rfl) ⟨_, _, .z⟩ (w_pair (e := PyData.int) (f := PyData.int) (w_drw (pb := pb) (pc := pc) rfl (ex_v rfl) (fun b' => .s .z) (by omega) fun x b2 h0 h1 => w_stride (pb := pb) (pc := pc) rfl (fun b' => .s .z) fun s b4 h4 h5 => ⟨_, _, .z, by rw [wayL_len]; omega, nxt (x_end ⟨v ++ [(x, s)], b4, hv.app (gw_one ⟨h0, by show x < 4; omega, h5, h4⟩), by rw [List.length_append, hvl]; rfl, rfl, by rw [wayL_app v]; rfl⟩)⟩))
  · rintro ε' L' ⟨v, b, hv, hvl, rfl, rfl⟩
    exact nxt (x_retG q (wv_of (x := v) (ex_tupL (ds := wayL v) (ex_v rfl) (.o (k := 0) rfl)) ⟨hv.mono (by show many.toNat ≤ most.toNat; omega) (Nat.le_refl _), b, by simp⟩))
end K86

/-! ## E2 -/
set_option Elab.async false
set_option linter.all false
set_option maxRecDepth 100000
set_option maxHeartbeats 4000000
set_option autoImplicit false
namespace K86
open PySem L2 Fz K80 Ways
variable {P : Program} {w : World} {K : PySem.W.Frag} {mg : Str → Option Value} {base : Heap} {f : Addr} {fd : FuncData}
theorem step_two {f : Way} (h : Red f) (l a b : Int) : stepW (stepW f (l, a)) (l, b) = stepW f (l, a + b) := by
  rcases snoc_cases f with rfl | ⟨g, y, rfl⟩
  · rw [step_nil, step_nil]
    by_cases ca : a = 0
    · rw [if_pos (show (l, a).2 = 0 from ca), step_nil, ca, Int.zero_add]
    · rw [if_neg (show ¬ (l, a).2 = 0 from ca)]
      have := step_snoc [] (l, a) (l, b)
      rw [List.nil_append] at this
      rw [this, if_pos rfl, Int.add_comm a b]; rfl
  · obtain ⟨m, k⟩ := y
    by_cases e : m = l
    · subst e
      have last : ∀ b : Int, stepW g (m, b) = if b = 0 then g else g ++ [(m, b)] := fun b => by
        rcases snoc_cases g with rfl | ⟨g', z, rfl⟩
        · rw [step_nil]; rfl
        · rw [step_snoc, if_neg (show ¬ z.1 = (m, b).1 from h.apart)]
      rw [step_snoc, step_snoc, if_pos rfl, if_pos rfl]
      by_cases c : a + k = 0
      · rw [if_pos (show (m, a).2 + (m, k).2 = 0 from c), last]
        have e2 : (m, a + b).2 + (m, k).2 = b := by show a + b + k = b; omega
        rw [e2]
      · rw [if_neg (show ¬ (m, a).2 + (m, k).2 = 0 from c), step_snoc, if_pos rfl]
        have e2 : (m, b).2 + ((m, a).1, (m, a).2 + (m, k).2).2 = (m, a + b).2 + (m, k).2 := by show b + (a + k) = a + b + k; omega
        rw [e2]
    · rw [step_snoc, step_snoc, if_neg (show ¬ (m, k).1 = (l, a).1 from e), if_neg (show ¬ (m, k).1 = (l, a + b).1 from e)]
      by_cases ca : a = 0
      · rw [if_pos (show (l, a).2 = 0 from ca), step_snoc, if_neg (show ¬ (m, k).1 = (l, b).1 from e), ca, Int.zero_add]
      · rw [if_neg (show ¬ (l, a).2 = 0 from ca), step_snoc, if_pos rfl]
        have e2 : (l, b).2 + (l, a).2 = (l, a + b).2 := by show b + a = a + b; omega
        rw [e2]
theorem red_put (a b : Way) (l s : Int) : redW (a ++ [(l, s), (l, -s)] ++ b) = redW (a ++ b) := by
  rw [red_app, red_app, red_app]
  congr 1
  show stepW (stepW (redW a) (l, s)) (l, -s) = redW a
  have := step_back (red_red a) (l, -s)
  have e : negW (l, -s) = (l, s) := by unfold negW; simp
  rw [e] at this
  exact this
theorem red_part (a b : Way) (l s t : Int) : redW (a ++ [(l, t), (l, s - t)] ++ b) = redW (a ++ [(l, s)] ++ b) := by
  rw [red_app, red_app, red_app, red_app]
  congr 1
  show stepW (stepW (redW a) (l, t)) (l, s - t) = stepW (redW a) (l, s)
  rw [step_two (red_red a)]
  have e : t + (s - t) = s := by omega
  rw [e]
theorem split_at {v : Way} {n : Nat} {x : Int × Int} (h : v[n]? = some x) : v = v.take n ++ [x] ++ v.drop (n + 1) := by
  have h1 : v.take (n + 1) = v.take n ++ [x] := by rw [List.take_add_one, h]; rfl
  rw [← h1, List.take_append_drop]
abbrev S_law_longer (K : PySem.W.Frag) : Sp := spG K (fun y : Int × Way × Int => [.int y.1, wayD y.2.1, .int y.2.2]) (fun y => (1 ≤ y.1 ∧ y.1 ≤ 4) ∧ y.2.2 ≤ 100 ∧ GW 100 100 y.2.1) wayD (fun y v => GW (max y.2.2.toNat y.2.1.length) 100 v ∧ redW v = redW y.2.1)
theorem okd_law_longer (Fn : Fun K "_law_longer" "_law_longer" s_law_longer f fd) (T : Bt P mg base) (D_law_draw : Df P w K mg base 41 "_law_draw" ["bag", "below"] (S_law_draw K)) (D_law_stride : Df P w K mg base 43 "_law_stride" ["bag"] (S_law_stride K)) : FnOk P w K mg base CX0 44 f fd ["bag", "k", "way", "most"] (S_law_longer K) := by
  refine fn_G Fn sc_law_longer (by decide) (fun _ => rfl) fun cdv A outer s H E hr => ⟨_, (pss_cons (ps_set (i := 4) sc_law_longer.nd rfl (.inl rfl) (pv 2))
      (pss_cons (ps_for PassesOwn.never rfl (pi_range1 (by rfl) T.n_range (pa_cons pe_int pa_nil)) (pg_name (i := 5) sc_law_longer.nd rfl (Or.inl rfl)) (pss_cons (ps_set (i := 6) sc_law_longer.nd rfl (.inl rfl) (pe_callD D_law_draw (hr.mono (by decide)) (by rfl) (pa_cons (pv 0) (pa_cons (pe_op op_add (pe_callB (r := Evl.rLenS K) call_len_seq (by rfl) T.n_len (by decide +kernel) (pa_cons (pv 4) pa_nil)) pe_int) pa_nil))))
      (pss_one (ps_if (PW.pt (pw_and (pt_cmpR op_le (pe_op op_add (pe_callB (r := Evl.rLenS K) call_len_seq (by rfl) T.n_len (by decide +kernel) (pa_cons (pv 4) pa_nil)) pe_int) (pv 3) (nomark _)) (pw_and1 (pt_cmpR op_eq (pe_callD D_law_draw (hr.mono (by decide)) (by rfl) (pa_cons (pv 0) (pa_cons pe_int pa_nil))) pe_int (nomark _))))) (pss_cons (ps_par (i := 7) (j := 8) (by rfl) sc_law_longer.nd rfl rfl (by decide) rfl rfl (pa_cons (pe_callD D_law_draw (hr.mono (by decide)) (by rfl) (pa_cons (pv 0) (pa_cons (pv 1) pa_nil))) (pa_cons (pe_callD D_law_stride (hr.mono (by decide)) (by rfl) (pa_cons (pv 0) pa_nil)) pa_nil)) (by rfl))
      (pss_one (ps_set (i := 4) sc_law_longer.nd rfl (.inl rfl) (pe_op (r := rCatA K) op_catA (pe_op (r := rCatA K) op_catA (pe_slice (r := rSlA K) sl_tupA (pv 4) po_none (po_some (pv 6))) (pe_tup (pa_cons (pe_tup (pa_cons (pv 7) (pa_cons (pv 8) pa_nil))) (pa_cons (pe_tup (pa_cons (pv 7) (pa_cons (pe_un un_neg (pv 8)) pa_nil))) pa_nil)))) (pe_slice (r := rSlA K) sl_tupA (pv 4) (po_some (pv 6)) po_none))))) (pss_one (ps_if (PW.pt (pw_and (pt_chain op_lt op_lt (pv 6) (pe_callB (r := Evl.rLenS K) call_len_seq (by rfl) T.n_len (by decide +kernel) (pa_cons (pv 4) pa_nil)) (pv 3)) (pw_and1 (pt_cmpR op_le (pe_callB call_abs (by rfl) T.n_abs (by decide +kernel) (pa_cons (pe_ix (r := rIxT K) ix_tup (pe_ix (r := rIxT K) ix_tup (pv 4) (pv 6) (fun _ _ => rfl)) pe_int (fun _ _ => rfl)) pa_nil)) pe_int (nomark _))))) (pss_cons (ps_asg (pe_ix (r := rIxT K) ix_tup (pv 4) (pv 6) (fun _ _ => rfl)) (pg_tup rfl (pgs_cons (pg_name (i := 7) sc_law_longer.nd rfl (Or.inl rfl)) (pgs_cons (pg_name (i := 8) sc_law_longer.nd rfl (Or.inl rfl)) pgs_nil))))
      (pss_cons (ps_set (i := 9) sc_law_longer.nd rfl (.inl rfl) (pe_callD D_law_stride (hr.mono (by decide)) (by rfl) (pa_cons (pv 0) pa_nil)))
      (pss_one (ps_if (PW.pt (pw_and (pt_cmpR op_ne (pv 9) (pv 8) (nomark _)) (pw_and1 (pt_cmpR op_le (pe_callB call_abs (by rfl) T.n_abs (by decide +kernel) (pa_cons (pe_op op_sub (pv 8) (pv 9)) pa_nil)) pe_int (nomark _))))) (pss_one (ps_set (i := 4) sc_law_longer.nd rfl (.inl rfl) (pe_op (r := rCatA K) op_catA (pe_op (r := rCatA K) op_catA (pe_slice (r := rSlA K) sl_tupA (pv 4) po_none (po_some (pv 6))) (pe_tup (pa_cons (pe_tup (pa_cons (pv 7) (pa_cons (pv 9) pa_nil))) (pa_cons (pe_tup (pa_cons (pv 7) (pa_cons (pe_op op_sub (pv 8) (pv 9)) pa_nil))) pa_nil)))) (pe_slice (r := rSlA K) sl_tupA (pv 4) (po_some (pe_op op_add (pv 6) pe_int)) po_none)))) pss_nil)))) pss_nil))))))
      (pss_one (ps_ret (pv 4))))), ?_⟩
  rintro B Q pb pc b ⟨k, v0, most⟩ rfl ⟨⟨hk1, hk4⟩, hm1, hg0⟩ q
  dsimp only at hk1 hk4 hm1 hg0 q
  have hl0 : v0.length ≤ max most.toNat v0.length := Nat.le_max_right _ _
  have hmM : most.toNat ≤ max most.toNat v0.length := Nat.le_max_left _ _
  have hM100 : max most.toNat v0.length ≤ 100 := Nat.max_le.mpr ⟨by omega, hg0.1⟩
  generalize max most.toNat v0.length = M at *
  refine x_seq (x_set (a := .d (wayD v0)) (ex_v rfl) ?_)
  refine x_sq (x_forR1 (n := 8) (ea_cons ex_cI ea_nil) (by decide) (fun i ε L => ∃ (v : Way) (b : Bag), v.length ≤ M ∧ GW 100 100 v ∧ redW v = redW v0 ∧ ε = [bagv pb, iv k, wv v0, iv most, wv v, none, none, none, none, none] ∧ L = [b.at pb pc]) ⟨v0, b, hl0, hg0, rfl, rfl, rfl⟩ ?_ ?_)
  · rintro i ε' L' hi ⟨v, b, hl, hv, hr, rfl, rfl⟩
    refine x_seq (x_setV (w_drw (pb := pb) (pc := pc) rfl (ex_add (ex_lenW (ex_v rfl) rfl) ex_cI) (fun b' => .z) (by omega) fun at0 b1 h0 h1 => ?_) (fun x => .s (.s (.s (.s (.s (.s .z)))))))
    have ht : (v.take at0.toNat).length = at0.toNat := by rw [List.length_take]; omega
    have hd : (v.drop at0.toNat).length = v.length - at0.toNat := by rw [List.length_drop]
    refine nxt (x_ifJ (J := fun L1 => ∃ b : Bag, L1 = [b.at pb pc]) (wt_and (wt_of (et_test (ex_le (ex_add (ex_lenW (ex_v rfl) rfl) ex_cI) (ex_v rfl))) ⟨fun hc => ?_, fun _ => ⟨(fun h => nomatch h), fun _ => ⟨b1, rfl⟩⟩⟩)) ?_)
    · have hc : (v.length : Int) + 2 ≤ most := of_decide_eq_true hc
      refine wt_test (w_eq (w_drw (pb := pb) (pc := pc) rfl ex_cI (fun b' => .z) (by decide) fun x b2 h2 h3 => wv_of ex_cI ⟨fun _ => ?_, fun _ => ⟨b2, rfl⟩⟩))
      refine x_seq (x_parW (wa_v (w_drw (pb := pb) (pc := pc) rfl (ex_v rfl) (fun b' => .z) (by omega) fun l b3 h4 h5 => wa_v (w_stride (pb := pb) (pc := pc) rfl (fun b' => .z) fun s b4 h6 h7 => wa_nil ⟨_, _, rfl, ?_⟩))))
      refine nxt (x_set (a := .d (wayD (v.take at0.toNat ++ [(l, s), (l, -s)] ++ v.drop at0.toNat))) (ex_is (ex_cat (e := stD) (ex_cat (e := stD) (ex_take (e := stD) (xs := v) (ex_v rfl) (ex_v rfl) h0) (ex_tup (ds := [stD (l, s), stD (l, -s)]) (ea_cons (ex_tup (ds := [.int l, .int s]) (ea_cons (ex_v rfl) (ea_cons (ex_v rfl) ea_nil)) (Nat.le_of_ble_eq_true rfl)) (ea_cons (ex_tup (ds := [.int l, .int (-s)]) (ea_cons (ex_v rfl) (ea_cons (ex_neg (ex_v rfl)) ea_nil)) (Nat.le_of_ble_eq_true rfl)) ea_nil)) (Nat.le_of_ble_eq_true rfl)) ?_) (ex_from (e := stD) (xs := v) (ex_v rfl) (ex_v rfl) h0) ?_) rfl) ?_)
      · show _ + 2 ≤ 100000
        omega
      · rw [List.length_append]
        show _ + 2 + _ ≤ 100000
        omega
      · have hs : StW 100 (l, s) := ⟨h4, by show l < 4; omega, h7, h6⟩
        have hs2 : StW 100 (l, -s) := ⟨h4, by show l < 4; omega, by show (-s).natAbs ≤ 100; rw [Int.natAbs_neg]; exact h7, by show -s ≠ 0; omega⟩
        have hlen : (v.take at0.toNat ++ [(l, s), (l, -s)] ++ v.drop at0.toNat).length = v.length + 2 := by
          rw [List.length_append, List.length_append, ht, hd]
          show _ + 2 + _ = _
          omega
        exact nxt (x_end ⟨_, b4, by rw [hlen]; omega, (((hv.take _).app (gw_two hs hs2)).app (hv.drop _)).len (by rw [hlen]; omega), by rw [red_put, List.take_append_drop]; exact hr, rfl, rfl⟩)
    · rintro L1 ⟨b2, rfl⟩
      refine x_if (L1 := [b2.at pb pc]) (et_and (b := decide (at0 < v.length) && decide ((v.length : Int) < most)) (c := decide (((v.getD at0.toNat (0, 0)).2.natAbs : Int) ≤ 100)) (et_test (ex_chain (p := fun i j => decide (i < j)) (q := fun i j => decide (i < j)) (ex_v rfl) (ex_lenW (ex_v rfl) rfl) (ex_v rfl))) (fun hb => ?_) (fun _ => rfl)) (fun hb => ?_) fun _ => x_next (nxt (x_end ⟨v, b2, hl, hv, hr, rfl, rfl⟩))
      · rw [Bool.and_eq_true] at hb
        have hlt : at0 < v.length := of_decide_eq_true hb.1
        have hx : v[at0.toNat]? = some (v.getD at0.toNat (0, 0)) := by
          rw [List.getD_eq_getElem?_getD, List.getElem?_eq_getElem (by omega)]; rfl
        refine et_test (ex_le (ex_int (ex_abs (ex_ixT (ds := [.int (v.getD at0.toNat (0, 0)).1, .int (v.getD at0.toNat (0, 0)).2]) (ex_at (e := stD) (xs := v) (n := at0.toNat) (a := v.getD at0.toNat (0, 0)) (ex_v rfl) (ex_v rfl) (by omega) hx) ex_cI rfl)) (abs_if _)) ex_cI)
      · rw [Bool.and_eq_true, Bool.and_eq_true] at hb
        have hlt : at0 < v.length := of_decide_eq_true hb.1.1
        have hlm : (v.length : Int) < most := of_decide_eq_true hb.1.2
        have hx : v[at0.toNat]? = some (v.getD at0.toNat (0, 0)) := by
          rw [List.getD_eq_getElem?_getD, List.getElem?_eq_getElem (by omega)]; rfl
        generalize v.getD at0.toNat (0, 0) = x at *
        obtain ⟨l, s⟩ := x
        have hxs := hv.at hx
        refine x_seq (x_asg (a := .d (stD (l, s))) (ex_at (e := stD) (xs := v) (n := at0.toNat) (a := (l, s)) (ex_v rfl) (ex_v rfl) (by omega) hx) (gt_tup2 (d := .int l) (e := .int s)) ?_)
        refine x_sq (x_setV (w_stride (pb := pb) (pc := pc) rfl (fun b' => .z) fun m b3 h6 h7 => ?_) (fun x => .s (.s (.s (.s (.s (.s (.s (.s (.s .z))))))))))
        refine nxt (x_if (et_and (et_test (ex_neI (ex_v rfl) (ex_v rfl))) (fun _ => et_test (ex_le (ex_int (ex_abs (ex_sub (ex_v rfl) (ex_v rfl))) (abs_if _)) ex_cI)) (fun _ => rfl)) (fun hb => ?_) fun _ => x_next (nxt (x_end ⟨v, b3, hl, hv, hr, rfl, rfl⟩)))
        rw [Bool.and_eq_true] at hb
        have hsm : ((s - m).natAbs : Int) ≤ 100 := of_decide_eq_true hb.2
        refine x_set (a := .d (wayD (v.take at0.toNat ++ [(l, m), (l, s - m)] ++ v.drop (at0.toNat + 1)))) (ex_is (ex_cat (e := stD) (ex_cat (e := stD) (ys := [(l, m), (l, s - m)]) (ex_take (e := stD) (xs := v) (ex_v rfl) (ex_v rfl) h0) (ex_tup (ds := [stD (l, m), stD (l, s - m)]) (ea_cons (ex_tup (ds := [.int l, .int m]) (ea_cons (ex_v rfl) (ea_cons (ex_v rfl) ea_nil)) (Nat.le_of_ble_eq_true rfl)) (ea_cons (ex_tup (ds := [.int l, .int (s - m)]) (ea_cons (ex_v rfl) (ea_cons (ex_sub (ex_v rfl) (ex_v rfl)) ea_nil)) (Nat.le_of_ble_eq_true rfl)) ea_nil)) (Nat.le_of_ble_eq_true rfl)) ?_) (ex_from (e := stD) (xs := v) (ex_v rfl) (ex_add (ex_v rfl) ex_cI) (by omega)) ?_) ?_) ?_
        · show _ + 2 ≤ 100000
          omega
        · rw [List.length_append, List.length_drop]
          show _ + 2 + _ ≤ 100000
          omega
        · have e : (at0 + 1).toNat = at0.toNat + 1 := by omega
          rw [e]; rfl
        · have hs : StW 100 (l, m) := ⟨hxs.1, hxs.2.1, h7, h6⟩
          have hs2 : StW 100 (l, s - m) := ⟨hxs.1, hxs.2.1, by show (s - m).natAbs ≤ 100; omega, by show s - m ≠ 0; have := hb.1; simp at this; omega⟩
          have hlen : (v.take at0.toNat ++ [(l, m), (l, s - m)] ++ v.drop (at0.toNat + 1)).length = v.length + 1 := by
            rw [List.length_append, List.length_append, ht, List.length_drop]
            show _ + 2 + _ = _
            omega
          exact nxt (x_end ⟨_, b3, by rw [hlen]; omega, (((hv.take _).app (gw_two hs hs2)).app (hv.drop _)).len (by rw [hlen]; omega), by rw [red_part, ← split_at hx]; exact hr, rfl, rfl⟩)
  · rintro ε' L' ⟨v, b, hl, hv, hr, rfl, rfl⟩
    exact nxt (x_retG q (wv_of (x := v) (ex_v rfl) ⟨⟨hv.len hl, hr⟩, b, by simp⟩))
end K86

/-! ## E3 -/
set_option Elab.async false
set_option linter.all false
set_option maxRecDepth 100000
set_option maxHeartbeats 4000000
set_option autoImplicit false
namespace K86
open PySem L2 Fz K80 Ways
variable {P : Program} {w : World} {K : PySem.W.Frag} {mg : Str → Option Value} {base : Heap} {f : Addr} {fd : FuncData}
abbrev S_law_otherwise (K : PySem.W.Frag) : Sp := spG K (fun y : Int × Way × Int => [.int y.1, wayD y.2.1, .int y.2.2]) (fun y => (1 ≤ y.1 ∧ y.1 ≤ 4) ∧ GW 100 100 y.2.1) wayD (fun y v => GW (max 1 y.2.1.length) 100 v)
theorem ex_wayNil {B : Bg} {ε : Eps} {L La : Own} {te : TE} {v : Way} (h : EX B te ε L (.d (wayD v)) La) : EX B (tOp (rEqD B.K) te (tTup tNil)) ε L (.d (.bool (decide (v = [])))) La :=
  ex_boolE (ex_eqD h (ex_tup (ds := []) ea_nil (Nat.zero_le _)) (shaped_way v) rfl) (eqv_way v [])
theorem ex_wayNe {B : Bg} {ε : Eps} {L La : Own} {te : TE} {v : Way} (h : EX B te ε L (.d (wayD v)) La) : EX B (tOp (rNeD B.K) te (tTup tNil)) ε L (.d (.bool (!decide (v = [])))) La :=
  ex_boolE (ex_neD h (ex_tup (ds := []) ea_nil (Nat.zero_le _)) (shaped_way v) rfl) (by rw [show PyData.eqv (wayD v) (.tuple []) = decide (v = []) from eqv_way v []])
theorem okd_law_otherwise (Fn : Fun K "_law_otherwise" "_law_otherwise" s_law_otherwise f fd) (T : Bt P mg base) (D_law_draw : Df P w K mg base 41 "_law_draw" ["bag", "below"] (S_law_draw K)) (D_law_stride : Df P w K mg base 43 "_law_stride" ["bag"] (S_law_stride K)) : FnOk P w K mg base CX0 44 f fd ["bag", "k", "way", "kind"] (S_law_otherwise K) := by
  refine fn_G Fn sc_law_otherwise (by decide) (fun _ => rfl) fun cdv A outer s H E hr => ⟨_, (pss_cons (ps_if (pt_cmpR (r := rEqD K) (op_eqD hr.units) (pv 2) (pe_tup pa_nil) (nomark _)) (pss_one (ps_ret (pe_tup (pa_cons (pe_tup (pa_cons (pe_callD D_law_draw (hr.mono (by decide)) (by rfl) (pa_cons (pv 0) (pa_cons (pv 1) pa_nil))) (pa_cons (pe_callD D_law_stride (hr.mono (by decide)) (by rfl) (pa_cons (pv 0) pa_nil)) pa_nil))) pa_nil)))) pss_nil)
      (pss_cons (ps_set (i := 4) sc_law_otherwise.nd rfl (.inl rfl) (pe_callD D_law_draw (hr.mono (by decide)) (by rfl) (pa_cons (pv 0) (pa_cons (pe_callB (r := Evl.rLenS K) call_len_seq (by rfl) T.n_len (by decide +kernel) (pa_cons (pv 2) pa_nil)) pa_nil))))
      (pss_cons (ps_asg (pe_ix (r := rIxT K) ix_tup (pv 2) (pv 4) (fun _ _ => rfl)) (pg_tup rfl (pgs_cons (pg_name (i := 5) sc_law_otherwise.nd rfl (Or.inl rfl)) (pgs_cons (pg_name (i := 6) sc_law_otherwise.nd rfl (Or.inl rfl)) pgs_nil))))
      (pss_cons (ps_if (pt_cmpR op_eq (pv 3) pe_int (nomark _)) (pss_cons (ps_set (i := 7) sc_law_otherwise.nd rfl (.inl rfl) (pe_ifExp (PW.pt (pw_or (pt_cmpR op_gt (pv 6) pe_int (nomark _)) (pw_or1 (pt_cmpR op_eq (pv 6) (pe_un un_neg pe_int) (nomark _))))) (pe_op op_sub (pv 6) pe_int) (pe_op op_add (pv 6) pe_int)))
      (pss_cons (ps_set (i := 7) sc_law_otherwise.nd rfl (.inl rfl) (pe_ifExp (pt_chain op_le op_le (pe_un un_neg pe_int) (pv 7) pe_int) (pv 7) (pe_op op_fdivW (pv 6) pe_int)))
      (pss_one (ps_ret (pe_op (r := rCatA K) op_catA (pe_op (r := rCatA K) op_catA (pe_slice (r := rSlA K) sl_tupA (pv 2) po_none (po_some (pv 4))) (pe_tup (pa_cons (pe_tup (pa_cons (pv 5) (pa_cons (pv 7) pa_nil))) pa_nil))) (pe_slice (r := rSlA K) sl_tupA (pv 2) (po_some (pe_op op_add (pv 4) pe_int)) po_none)))))) pss_nil)
      (pss_cons (ps_if (pt_cmpR op_eq (pv 3) pe_int (nomark _)) (pss_one (ps_ret (pe_op (r := rCatA K) op_catA (pe_op (r := rCatA K) op_catA (pe_slice (r := rSlA K) sl_tupA (pv 2) po_none (po_some (pv 4))) (pe_tup (pa_cons (pe_tup (pa_cons (pv 5) (pa_cons (pe_un un_neg (pv 6)) pa_nil))) pa_nil))) (pe_slice (r := rSlA K) sl_tupA (pv 2) (po_some (pe_op op_add (pv 4) pe_int)) po_none)))) pss_nil)
      (pss_cons (ps_if (pt_cmpR op_eq (pv 3) pe_int (nomark _)) (pss_one (ps_ret (pe_op (r := rCatA K) op_catA (pe_op (r := rCatA K) op_catA (pe_slice (r := rSlA K) sl_tupA (pv 2) po_none (po_some (pv 4))) (pe_tup (pa_cons (pe_tup (pa_cons (pe_op op_mod (pe_callTy call_int1 (by rfl) T.n_int (by decide +kernel) (pa_cons (pe_op op_add (pv 5) pe_int) pa_nil)) (pv 1)) (pa_cons (pv 6) pa_nil))) pa_nil))) (pe_slice (r := rSlA K) sl_tupA (pv 2) (po_some (pe_op op_add (pv 4) pe_int)) po_none)))) pss_nil)
      (pss_cons (ps_if (pt_cmpR op_eq (pv 3) pe_int (nomark _)) (pss_one (ps_ret (pe_op (r := rCatA K) op_catA (pe_slice (r := rSlA K) sl_tupA (pv 2) po_none (po_some (pv 4))) (pe_slice (r := rSlA K) sl_tupA (pv 2) (po_some (pe_op op_add (pv 4) pe_int)) po_none)))) pss_nil)
      (pss_cons (ps_if (pt_cmpR op_eq (pv 3) pe_int (nomark _)) (pss_one (ps_ret (pe_op (r := rCatA K) op_catA (pe_op (r := rCatA K) op_catA (pe_slice (r := rSlA K) sl_tupA (pv 2) po_none (po_some (pv 4))) (RT.pe_tupRev rfl (by rfl) T.n_tuple (by rfl) T.n_reversed (pe_callTy (r := rListOf K) call_list_of (by rfl) T.n_list (by decide +kernel) (pa_cons (pe_slice (r := rSlA K) sl_tupA (pv 2) (po_some (pv 4)) (po_some (pe_op op_add (pv 4) pe_int))) pa_nil)))) (pe_slice (r := rSlA K) sl_tupA (pv 2) (po_some (pe_op op_add (pv 4) pe_int)) po_none)))) pss_nil)
      (pss_one (ps_ret (pe_op (r := rCatA K) op_catA (pe_op (r := rCatA K) op_catA (pe_slice (r := rSlA K) sl_tupA (pv 2) po_none (po_some (pv 4))) (pe_slice (r := rSlA K) sl_tupA (pv 2) (po_some (pe_op op_add (pv 4) pe_int)) po_none)) (pe_slice (r := rSlA K) sl_tupA (pv 2) (po_some (pv 4)) (po_some (pe_op op_add (pv 4) pe_int)))))))))))))), ?_⟩
  rintro B Q pb pc b ⟨k, v, kind⟩ rfl ⟨⟨hk1, hk4⟩, hv⟩ q
  dsimp only at hk1 hk4 hv q
  show Ho B _ [bagv pb, iv k, wv v, iv kind, none, none, none, none] [b.at pb pc]
  refine x_seq (x_if (et_test (ex_wayNil (ex_v rfl))) (fun hc => ?_) fun hc => ?_)
  · have e : v = [] := of_decide_eq_true hc
    subst e
    refine x_retG q (wv_as (e := eT stD) (w_dispT (wa_v (w_pair (e := PyData.int) (f := PyData.int) (w_drw (pb := pb) (pc := pc) rfl (ex_v rfl) (fun b' => .z) (by omega) fun l b1 h0 h1 => w_stride (pb := pb) (pc := pc) rfl (fun b' => .z) fun s b2 h2 h3 => wa_nil ⟨[(l, s)], rfl, by show 1 ≤ 100000; decide, [(l, s)], rfl, gw_one ⟨h0, by show l < 4; omega, h3, h2⟩, b2, by simp⟩)))))
  · have hne : v ≠ [] := of_decide_eq_false hc
    have hpos := List.length_pos_iff.mpr hne
    have hlen := hv.1
    refine x_next (nxt (x_seq (x_setV (w_drw (pb := pb) (pc := pc) rfl (ex_lenW (ex_v rfl) rfl) (fun b' => .z) (by omega) fun at0 b1 h0 h1 => ?_) (fun x => .s (.s (.s (.s .z)))))))
    have hx : v[at0.toNat]? = some (v.getD at0.toNat (0, 0)) := by
      rw [List.getD_eq_getElem?_getD, List.getElem?_eq_getElem (by omega)]; rfl
    generalize v.getD at0.toNat (0, 0) = x at *
    obtain ⟨l, s⟩ := x
    have hxs := hv.at hx
    have ht : (v.take at0.toNat).length = at0.toNat := by rw [List.length_take]; omega
    have hd : (v.drop (at0.toNat + 1)).length = v.length - at0.toNat - 1 := by rw [List.length_drop]; omega
    have e1 : (at0 + 1).toNat = at0.toNat + 1 := by omega
    have e2 : (at0 + 2).toNat = at0.toNat + 2 := by omega
    have hmax : v.length ≤ max 1 v.length := Nat.le_max_right _ _
    -- the way with one step put otherwise
    have put : ∀ {l' s' : Int}, StW 100 (l', s') → GW (max 1 v.length) 100 (v.take at0.toNat ++ [(l', s')] ++ v.drop (at0.toNat + 1)) := fun h => (((hv.take _).app (gw_one h)).app (hv.drop _)).len (by
      rw [List.length_append, List.length_append, ht, hd]
      show _ + 1 + _ ≤ _
      omega)
    have exput : ∀ {ε : Eps} {te : TE} {l' s' : Int}, ε[2]? = some (wv v) → ε[4]? = some (iv at0) → EX B te ε [b1.at pb pc] (.d (eT stD [(l', s')])) [b1.at pb pc] → EX B (tOp (rCatA B.K) (tOp (rCatA B.K) (tSl (rSlA B.K) (tVar 2) tNoPart (tPart (tVar 4))) te) (tSl (rSlA B.K) (tVar 2) (tPart (tOp (rI0 fun i j => .int (i + j)) (tVar 4) (tC (.int 1)))) tNoPart)) ε [b1.at pb pc] (.d (wayD (v.take at0.toNat ++ [(l', s')] ++ v.drop (at0.toNat + 1)))) [b1.at pb pc] := fun hv hat h => by
      refine ex_is (ex_cat (e := stD) (ex_cat (e := stD) (ex_take (e := stD) (xs := v) (ex_v hv) (ex_v hat) h0) h ?_) (ex_from (e := stD) (xs := v) (ex_v hv) (ex_add (ex_v hat) ex_cI) (by omega)) ?_) ?_
      · show _ + 1 ≤ 100000
        omega
      · rw [List.length_append, e1]
        show _ + 1 + _ ≤ 100000
        omega
      · rw [e1]; rfl
    refine x_sq (x_asg (a := .d (stD (l, s))) (ex_at (e := stD) (xs := v) (n := at0.toNat) (a := (l, s)) (ex_v rfl) (ex_v rfl) (by omega) hx) (gt_tup2 (d := .int l) (e := .int s)) ?_)
    refine x_sq (x_if (et_test (ex_eqI (ex_v rfl) ex_cI)) (fun hc => ?_) fun hc => x_next (nxt (x_seq (x_if (et_test (ex_eqI (ex_v rfl) ex_cI)) (fun hc => ?_) fun hc => x_next (nxt (x_seq (x_if (et_test (ex_eqI (ex_v rfl) ex_cI)) (fun hc => ?_) fun hc => x_next (nxt (x_seq (x_if (et_test (ex_eqI (ex_v rfl) ex_cI)) (fun hc => ?_) fun hc => x_next (nxt (x_seq (x_if (et_test (ex_eqI (ex_v rfl) ex_cI)) (fun hc => ?_) fun hc => x_next (nxt ?_))))))))))))))
    · refine x_seq (x_set (a := .d (.int (if (decide (1 < s) || decide (s = -1)) = true then s - 1 else s + 1))) (ex_ifI (et_or (et_test (ex_gt (ex_v rfl) ex_cI)) (fun _ => et_test (ex_eqI (ex_v rfl) (ex_neg ex_cI))) (fun _ => rfl)) (fun _ => ex_sub (ex_v rfl) ex_cI) (fun _ => ex_add (ex_v rfl) ex_cI)) ?_)
      have hm : (if (decide (1 < s) || decide (s = -1)) = true then s - 1 else s + 1).natAbs ≤ 100 ∧ (if (decide (1 < s) || decide (s = -1)) = true then s - 1 else s + 1) ≠ 0 := by
        have : s.natAbs ≤ 100 := hxs.2.2.1
        have : s ≠ 0 := hxs.2.2.2
        split
        · rename_i h
          rw [Bool.or_eq_true, decide_eq_true_eq, decide_eq_true_eq] at h
          omega
        · rename_i h
          rw [Bool.or_eq_true, decide_eq_true_eq, decide_eq_true_eq] at h
          omega
      generalize (if (decide (1 < s) || decide (s = -1)) = true then s - 1 else s + 1) = m at *
      refine x_sq (x_set (a := .d (.int (if (decide (-100 ≤ m) && decide (m ≤ 100)) = true then m else s / 2))) (ex_ifI (et_test (ex_chain (p := fun i j => decide (i ≤ j)) (q := fun i j => decide (i ≤ j)) (ex_neg ex_cI) (ex_v rfl) ex_cI)) (fun _ => ex_v rfl) (fun _ => ex_fdiv (ex_v rfl) ex_cI (cdiv (b := 2) (by decide) (by unfold Bd; decide) (by decide)))) ?_)
      have hm2 : (if (decide (-100 ≤ m) && decide (m ≤ 100)) = true then m else s / 2).natAbs ≤ 100 ∧ (if (decide (-100 ≤ m) && decide (m ≤ 100)) = true then m else s / 2) ≠ 0 := by
        have e : (decide (-100 ≤ m) && decide (m ≤ 100)) = true := by
          rw [Bool.and_eq_true, decide_eq_true_eq, decide_eq_true_eq]
          omega
        rw [if_pos e]
        exact hm
      generalize (if (decide (-100 ≤ m) && decide (m ≤ 100)) = true then m else s / 2) = m2 at *
      refine nxt (x_retG q (wv_of (exput rfl rfl (ex_tup (ds := [stD (l, m2)]) (ea_cons (ex_tup (ds := [.int l, .int m2]) (ea_cons (ex_v rfl) (ea_cons (ex_v rfl) ea_nil)) (Nat.le_of_ble_eq_true rfl)) ea_nil) (Nat.le_of_ble_eq_true rfl))) ⟨put ⟨hxs.1, hxs.2.1, hm2⟩, b1, by simp⟩))
    · refine x_retG q (wv_of (exput rfl rfl (ex_tup (ds := [stD (l, -s)]) (ea_cons (ex_tup (ds := [.int l, .int (-s)]) (ea_cons (ex_v rfl) (ea_cons (ex_neg (ex_v rfl)) ea_nil)) (Nat.le_of_ble_eq_true rfl)) ea_nil) (Nat.le_of_ble_eq_true rfl))) ⟨put ⟨hxs.1, hxs.2.1, by show (-s).natAbs ≤ 100; rw [Int.natAbs_neg]; exact hxs.2.2.1, by show -s ≠ 0; have : s ≠ 0 := hxs.2.2.2; omega⟩, b1, by simp⟩)
    · have h1 := Int.emod_nonneg (l + 1) (show k ≠ 0 by omega)
      have h2 := Int.emod_lt_of_pos (l + 1) (show 0 < k by omega)
      refine x_retG q (wv_of (exput rfl rfl (ex_tup (ds := [stD ((l + 1) % k, s)]) (ea_cons (ex_tup (ds := [.int ((l + 1) % k), .int s]) (ea_cons (ex_mod (ex_int1 (ex_add (ex_v rfl) ex_cI)) (ex_v rfl) (by omega)) (ea_cons (ex_v rfl) ea_nil)) (Nat.le_of_ble_eq_true rfl)) ea_nil) (Nat.le_of_ble_eq_true rfl))) ⟨put ⟨h1, by show (l + 1) % k < 4; omega, hxs.2.2⟩, b1, by simp⟩)
    · refine x_retG q (wv_of (x := v.take at0.toNat ++ v.drop (at0.toNat + 1)) (ex_is (ex_cat (e := stD) (ex_take (e := stD) (xs := v) (ex_v rfl) (ex_v rfl) h0) (ex_from (e := stD) (xs := v) (ex_v rfl) (ex_add (ex_v rfl) ex_cI) (by omega)) (by rw [ht, e1, hd]; omega)) (by rw [e1]; rfl)) ⟨((hv.take _).app (hv.drop _)).len (by rw [List.length_append, ht, hd]; omega), b1, by simp⟩)
    · have hmid : ((v.drop at0.toNat).take 2).length ≤ v.length - at0.toNat := by rw [List.length_take, List.length_drop]; omega
      have hsum : at0.toNat + ((v.drop at0.toNat).take 2).length + (v.drop (at0.toNat + 2)).length ≤ v.length := by
        rw [List.length_take, List.length_drop, List.length_drop]; omega
      refine x_retG q (wv_of (x := v.take at0.toNat ++ ((v.drop at0.toNat).take 2).reverse ++ v.drop (at0.toNat + 2)) (ex_is (ex_cat (e := stD) (ex_cat (e := stD) (ys := ((v.drop at0.toNat).take 2).reverse) (ex_take (e := stD) (xs := v) (ex_v rfl) (ex_v rfl) h0) (ex_is (ex_tupRev (ds := ((v.drop at0.toNat).take 2).map stD) (ex_frz (en_listT (ds := ((v.drop at0.toNat).take 2).map stD) (ex_is (ex_mid (e := stD) (xs := v) (ex_v rfl) (ex_v rfl) (ex_add (ex_v rfl) ex_cI) h0 (by omega)) ?_))) .d) ?_) ?_) (ex_from (e := stD) (xs := v) (ex_v rfl) (ex_add (ex_v rfl) ex_cI) (by omega)) ?_) ?_) ⟨(((hv.take _).app ((hv.drop _).take 2).rev).app (hv.drop _)).len ?_, b1, by simp⟩)
      · have e3 : (at0 + 2).toNat - at0.toNat = 2 := by omega
        rw [e3]; rfl
      · unfold eT; rw [List.map_reverse]
      · rw [List.length_reverse]; omega
      · rw [List.length_append, List.length_reverse, ht, e2]; omega
      · rw [e2]; rfl
      · rw [List.length_append, List.length_append, List.length_reverse, ht]; omega
    · have hmid : ((v.drop at0.toNat).take 1).length = 1 := by rw [List.length_take, List.length_drop]; omega
      refine x_retG q (wv_of (x := v.take at0.toNat ++ v.drop (at0.toNat + 1) ++ (v.drop at0.toNat).take 1) (ex_is (ex_cat (e := stD) (ex_cat (e := stD) (ex_take (e := stD) (xs := v) (ex_v rfl) (ex_v rfl) h0) (ex_from (e := stD) (xs := v) (ex_v rfl) (ex_add (ex_v rfl) ex_cI) (by omega)) ?_) (ex_mid (e := stD) (xs := v) (ex_v rfl) (ex_v rfl) (ex_add (ex_v rfl) ex_cI) h0 (by omega)) ?_) ?_) ⟨(((hv.take _).app (hv.drop _)).app ((hv.drop _).take 1)).len ?_, b1, by simp⟩)
      · rw [ht, e1, hd]; omega
      · have e3 : at0.toNat + 1 - at0.toNat = 1 := by omega
        rw [List.length_append, ht, e1, hd, e3, hmid]; omega
      · have e3 : at0.toNat + 1 - at0.toNat = 1 := by omega
        rw [e1, e3]; rfl
      · rw [List.length_append, List.length_append, ht, hd, hmid]; omega
end K86

/-! ## G1 -/
set_option Elab.async false
set_option linter.all false
set_option maxRecDepth 100000
set_option maxHeartbeats 4000000
set_option autoImplicit false
namespace K86
open PySem L2 Fz K80 Ways
variable {P : Program} {w : World} {K : PySem.W.Frag} {mg : Str → Option Value} {base : Heap} {f : Addr} {fd : FuncData}
/-! ### orders of putting together -/
def pl (v : Way) : List Int := (placesW v).map fun (i : Nat) => (i : Int)
abbrev S_law_places (K : PySem.W.Frag) : Sp := spD K (fun v : Way => [wayD v]) (fun v => v.length ≤ 5000) li (fun v x => x = pl v)
theorem get_at {v : Way} {i : Nat} (h : i < v.length) : v[i]? = some (v.getD i (0, 0)) := by
  rw [List.getD_eq_getElem?_getD, List.getElem?_eq_getElem h]; rfl
theorem okd_law_places (Fn : Fun K "_law_places" "_law_places" s_law_places f fd) (T : Bt P mg base)  : FnOk P w K mg base CX0 41 f fd ["way"] (S_law_places K) := by
  refine fn_D Fn sc_law_places (by decide) (fun _ => rfl) fun cdv A outer s H E hr => ⟨_, (pss_one (ps_ret (pe_lc (own := [("i", 1)]) rfl sc_law_places.nd (pi_range1 (by rfl) T.n_range (pa_cons (pe_op op_sub (pe_callB (r := Evl.rLenS K) call_len_seq (by rfl) T.n_len (by decide +kernel) (pa_cons (pv 0) pa_nil)) pe_int) pa_nil)) (blkOk_by (own := [("i", 1)]) (N := ["way", "i"]) (sc := defScope s_law_places) (by decide +kernel)) (fun _ _ _ _ _ => (pg_name (i := 1) sc_law_places.nd rfl (Or.inl rfl))) (fun _ _ _ _ _ => (pts_one (pt_cmpR op_eq (pe_ix (r := rIxT K) ix_tup (pe_ix (r := rIxT K) ix_tup (pv 0) (pv 1) (fun _ _ => rfl)) pe_int (fun _ _ => rfl)) (pe_ix (r := rIxT K) ix_tup (pe_ix (r := rIxT K) ix_tup (pv 0) (pe_op op_add (pv 1) pe_int) (fun _ _ => rfl)) pe_int (fun _ _ => rfl)) (nomark _)))) (fun _ _ _ _ _ => (pv 1))))), ?_⟩
  rintro B Q v rfl hv q
  show Ho B _ [wv v, none] []
  refine x_retD q (wv_of (x := pl v) (ex_is (ex_frz (en_lcR1P (n := (v.length : Int) - 1) (nb v) (fun i => .int (i : Int)) (ea_cons (ex_sub (ex_lenW (ex_v rfl) rfl) ex_cI) ea_nil) (by omega) (by simp) (fun i m hi => ?_) (fun i m hi _ => ex_v rfl))) ?_) rfl)
  · have h1 := get_at (v := v) (i := i) (by omega)
    have h2 := get_at (v := v) (i := i + 1) (by omega)
    exact et_test (ex_eqI (ex_ixT (ds := [.int (v.getD i (0, 0)).1, .int (v.getD i (0, 0)).2]) (ex_at (e := stD) (xs := v) (ex_v rfl) (ex_v rfl) rfl h1) ex_cI rfl) (ex_ixT (ds := [.int (v.getD (i + 1) (0, 0)).1, .int (v.getD (i + 1) (0, 0)).2]) (ex_at (e := stD) (xs := v) (n := i + 1) (ex_v rfl) (ex_add (ex_v rfl) ex_cI) rfl h2) ex_cI rfl))
  · have e : ((v.length : Int) - 1).toNat = v.length - 1 := by omega
    rw [e]
    unfold li pl placesW
    rw [List.map_map]; rfl
abbrev S_law_put (K : PySem.W.Frag) : Sp := spD K (fun y : Way × Nat => [wayD y.1, .int (y.2 : Int)]) (fun y => y.1.length ≤ 5000 ∧ y.2 + 1 < y.1.length) wayD (fun y x => x = putW y.1 y.2)
theorem okd_law_put (Fn : Fun K "_law_put" "_law_put" s_law_put f fd) (T : Bt P mg base)  : FnOk P w K mg base CX0 41 f fd ["way", "at"] (S_law_put K) := by
  refine fn_D Fn sc_law_put (by decide) (fun _ => rfl) fun cdv A outer s H E hr => ⟨_, (pss_cons (ps_set (i := 2) sc_law_put.nd rfl (.inl rfl) (pe_op op_add (pe_ix (r := rIxT K) ix_tup (pe_ix (r := rIxT K) ix_tup (pv 0) (pv 1) (fun _ _ => rfl)) pe_int (fun _ _ => rfl)) (pe_ix (r := rIxT K) ix_tup (pe_ix (r := rIxT K) ix_tup (pv 0) (pe_op op_add (pv 1) pe_int) (fun _ _ => rfl)) pe_int (fun _ _ => rfl))))
      (pss_one (ps_ret (pe_op (r := rCatA K) op_catA (pe_op (r := rCatA K) op_catA (pe_slice (r := rSlA K) sl_tupA (pv 0) po_none (po_some (pv 1))) (pe_ifExp (pt_cmpR op_ne (pv 2) pe_int (nomark _)) (pe_tup (pa_cons (pe_tup (pa_cons (pe_ix (r := rIxT K) ix_tup (pe_ix (r := rIxT K) ix_tup (pv 0) (pv 1) (fun _ _ => rfl)) pe_int (fun _ _ => rfl)) (pa_cons (pv 2) pa_nil))) pa_nil)) (pe_tup pa_nil))) (pe_slice (r := rSlA K) sl_tupA (pv 0) (po_some (pe_op op_add (pv 1) pe_int)) po_none))))), ?_⟩
  rintro B Q ⟨v, i⟩ rfl ⟨hv, hi⟩ q
  dsimp only at hv hi q
  show Ho B _ [wv v, iv (i : Int), none] []
  have h1 := get_at (v := v) (i := i) (by omega)
  have h2 := get_at (v := v) (i := i + 1) (by omega)
  have one : ∀ {ε : Eps}, ε[0]? = some (wv v) → ε[1]? = some (iv (i : Int)) → EX B (tOp (rIxT B.K) (tVar 0) (tVar 1)) ε [] (.d (stD (v.getD i (0, 0)))) [] := fun hv hi => ex_at (e := stD) (xs := v) (ex_v hv) (ex_v hi) rfl h1
  refine x_seq (x_set (a := .d (.int (bothW v i))) (ex_add (ex_ixT (ds := [.int (v.getD i (0, 0)).1, .int (v.getD i (0, 0)).2]) (one rfl rfl) ex_cI rfl) (ex_ixT (ds := [.int (v.getD (i + 1) (0, 0)).1, .int (v.getD (i + 1) (0, 0)).2]) (ex_at (e := stD) (xs := v) (n := i + 1) (ex_v rfl) (ex_add (ex_v rfl) ex_cI) rfl h2) ex_cI rfl)) ?_)
  refine nxt (x_retD q (wv_of (x := putW v i) (ex_cat (e := stD) (ex_cat (e := stD) (Lb := []) (ys := if bothW v i = 0 then [] else [((v.getD i (0, 0)).1, bothW v i)]) (ex_take (e := stD) (xs := v) (i := (i : Int)) (ex_v rfl) (ex_v rfl) (Int.natCast_nonneg i)) ?_ ?_) (ex_is (ex_from (e := stD) (xs := v) (ex_v rfl) (ex_add (ex_v rfl) ex_cI) (by omega)) ?_) ?_) rfl))
  · refine ex_if (b := !decide (bothW v i = 0)) (et_test (ex_neI (ex_v rfl) ex_cI)) (fun hb => ?_) (fun hb => ?_)
    · have c : ¬ bothW v i = 0 := by simpa using hb
      rw [if_neg c]
      exact ex_tup (ds := [stD ((v.getD i (0, 0)).1, bothW v i)]) (ea_cons (ex_tup (ds := [.int (v.getD i (0, 0)).1, .int (bothW v i)]) (ea_cons (ex_ixT (ds := [.int (v.getD i (0, 0)).1, .int (v.getD i (0, 0)).2]) (one rfl rfl) ex_cI rfl) (ea_cons (ex_v rfl) ea_nil)) (Nat.le_of_ble_eq_true rfl)) ea_nil) (Nat.le_of_ble_eq_true rfl)
    · have c : bothW v i = 0 := by simpa using hb
      rw [if_pos c]
      exact ex_tup (ds := []) ea_nil (Nat.zero_le _)
  · rw [List.length_take]
    have : (if bothW v i = 0 then ([] : Way) else [((v.getD i (0, 0)).1, bothW v i)]).length ≤ 1 := by split <;> simp
    omega
  · have e : ((i : Int) + 2).toNat = i + 2 := by omega
    rw [e]
  · rw [List.length_append, List.length_take, List.length_drop]
    have : (if bothW v i = 0 then ([] : Way) else [((v.getD i (0, 0)).1, bothW v i)]).length ≤ 1 := by split <;> simp
    omega
end K86

/-! ## G2 -/
set_option Elab.async false
set_option linter.all false
set_option maxRecDepth 100000
set_option maxHeartbeats 4000000
set_option autoImplicit false
namespace K86
open PySem L2 Fz K80 Ways
variable {P : Program} {w : World} {K : PySem.W.Frag} {mg : Str → Option Value} {base : Heap} {f : Addr} {fd : FuncData}
def StN (x : Int × Int) : Prop := 0 ≤ x.1 ∧ x.1 < 4 ∧ x.2 ≠ 0
theorem StW.n {c : Nat} {x : Int × Int} (h : StW c x) : StN x := ⟨h.1, h.2.1, h.2.2.2⟩
/-- u comes of v by putting together -/
structure LW (v u : Way) : Prop where
  len : u.length ≤ v.length
  tot : Ways.tot u ≤ Ways.tot v
  st : ∀ x ∈ u, StN x
  red : redW u = redW v
theorem LW.gw {v u : Way} (h : LW v u) {n c : Nat} (hn : v.length ≤ n) (hc : Ways.tot v ≤ c) : GW n c u :=
  ⟨Nat.le_trans h.len hn, fun x hx => ⟨(h.st x hx).1, (h.st x hx).2.1, Nat.le_trans (tot_ge hx) (Nat.le_trans h.tot hc), (h.st x hx).2.2⟩⟩
theorem LW.put {v u : Way} (h : LW v u) {i : Nat} (hi : i ∈ placesW u) : LW v (putW u i) := by
  obtain ⟨h1, h2⟩ := mem_places hi
  have s := split2 h1
  have hl := put_len h1
  refine ⟨by have := h.len; omega, Nat.le_trans ?_ h.tot, fun x hx => ?_, by rw [red_putW h1 h2]; exact h.red⟩
  · conv => rhs; rw [s]
    unfold putW
    rw [tot_app, tot_app, tot_app, tot_app]
    have e : Ways.tot [u.getD i (0, 0), u.getD (i + 1) (0, 0)] = (u.getD i (0, 0)).2.natAbs + ((u.getD (i + 1) (0, 0)).2.natAbs + 0) := rfl
    have e2 : Ways.tot (if bothW u i = 0 then ([] : Way) else [((u.getD i (0, 0)).1, bothW u i)]) ≤ (bothW u i).natAbs := by
      split
      · exact Nat.zero_le _
      · exact Nat.le_refl _
    have e3 : (bothW u i).natAbs ≤ (u.getD i (0, 0)).2.natAbs + (u.getD (i + 1) (0, 0)).2.natAbs := by unfold bothW; omega
    omega
  · have nz := put_nz (i := i) (fun x hx => (h.st x hx).2.2) x hx
    unfold putW at hx
    rcases List.mem_append.mp hx with q | q
    · rcases List.mem_append.mp q with q | q
      · exact h.st x (List.mem_of_mem_take q)
      · split at q
        · exact nomatch q
        · have hm : u.getD i (0, 0) ∈ u := by
            rw [List.getD_eq_getElem?_getD, List.getElem?_eq_getElem (by omega)]
            exact List.getElem_mem _
          have := h.st _ hm
          rw [List.mem_singleton.mp q] at nz ⊢
          exact ⟨this.1, this.2.1, nz⟩
    · exact h.st x (List.mem_of_mem_drop q)
structure OrdOk (v : Way) (us : List Way) : Prop where
  all : ∀ u ∈ us, LW v u
  head : us.head? = some v
  last : us.getLast? = some (redW v)
  len : us.length ≤ v.length + 1
abbrev S_law_orderly (K : PySem.W.Frag) : Sp := spG K (fun v : Way => [wayD v]) (fun v => v.length ≤ 5000 ∧ ∀ x ∈ v, StN x) (eL wayD) OrdOk
theorem ex_places {B : Bg} {ε : Eps} {L La : Own} {te : TE} {E : XK} {v : Way} (h : EX B te ε L (.d (wayD v)) La) (hl : v.length ≤ 5000) : EX B (tCall (S_law_places B.K) [] E (tCons te tNil)) ε L (.d (li (pl v))) La :=
  ex_of (e := li) fun κ k => w_callD (wa_x h (wa_nil ⟨v, rfl, hl, fun x hx => hx ▸ k⟩))
theorem mem_pl {v : Way} {i : Int} (h : i ∈ pl v) : ∃ n : Nat, i = (n : Int) ∧ n ∈ placesW v := by
  obtain ⟨n, hn, rfl⟩ := List.mem_map.mp h
  exact ⟨n, rfl, hn⟩
theorem pl_len {v : Way} : (pl v).length ≤ v.length := by
  unfold pl placesW
  rw [List.length_map]
  exact Nat.le_trans (List.length_filter_le _ _) (by rw [List.length_range]; omega)
theorem wr_var {B : Bg} {ε : Eps} {L : Own} {i : Nat} {p : Addr} {κ : Addr → Own → Prop} (hs : ε[i]? = some (some (.v (.ref p)))) (k : κ p L) : WR B (tVar i) ε L κ := fun F σ H r Q q => by
  obtain ⟨s, h1, y, rfl, h2⟩ := r.sl i _ hs
  have e : y = .ref p := h2
  subst e
  exact ⟨_, h1, q p L F H k (Sub.rfl' F) r⟩
theorem okd_law_orderly (Fn : Fun K "_law_orderly" "_law_orderly" s_law_orderly f fd) (T : Bt P mg base) (D_law_places : Df P w K mg base 41 "_law_places" ["way"] (S_law_places K)) (D_law_put : Df P w K mg base 41 "_law_put" ["way", "at"] (S_law_put K)) (D_law_pick : Df P w K mg base 42 "_law_pick" ["bag", "some"] (S_law_pick K)) : FnOk P w K mg base CX0 43 f fd ["bag", "way"] (S_law_orderly K) := by
  refine fn_G Fn sc_law_orderly (by decide) (fun _ => rfl) fun cdv A outer s H E hr => ⟨_, (pss_cons (ps_par (i := 2) (j := 3) (by rfl) sc_law_orderly.nd rfl rfl (by decide) rfl rfl (pa_cons (pe_lst (pa_cons (pv 1) pa_nil)) (pa_cons (pe_callD D_law_places (hr.mono (by decide)) (by rfl) (pa_cons (pv 1) pa_nil)) pa_nil)) (by rfl))
      (pss_cons (ps_while PassesOwn.never (pt_cmpR (r := rNeD K) (op_neD hr.units) (pv 3) (pe_lst pa_nil) (nomark _)) (pss_cons (ps_expr (pe_bm PySem.F.plainAttrs_list PySem.F.slot_list_append PySem.F.type_list_append mt_append (pv 2) (pa_cons (pe_callD D_law_put (hr.mono (by decide)) (by rfl) (pa_cons (pe_ix (r := rIxL K) ix_list (pv 2) (pe_un un_neg pe_int) (fun _ _ => rfl)) (pa_cons (pe_callD D_law_pick (hr.mono (by decide)) (by rfl) (pa_cons (pv 0) (pa_cons (pv 3) pa_nil))) pa_nil))) pa_nil)))
      (pss_one (ps_set (i := 3) sc_law_orderly.nd rfl (.inl rfl) (pe_callD D_law_places (hr.mono (by decide)) (by rfl) (pa_cons (pe_ix (r := rIxL K) ix_list (pv 2) (pe_un un_neg pe_int) (fun _ _ => rfl)) pa_nil))))))
      (pss_one (ps_ret (pv 2))))), ?_⟩
  rintro B Q pb pc b v rfl ⟨hv, hst⟩ q
  show Ho B _ [bagv pb, wv v, none, none] [b.at pb pc]
  refine x_seq (x_parW (wa_cons (wx_r (wr_of (ds := [wayD v]) (en_lst (ds := [wayD v]) (ea_cons (ex_v rfl) ea_nil) (Nat.le_of_ble_eq_true rfl)) fun p hp => wa_v (e := li) (wv_of (x := pl v) (ex_places (ex_v rfl) hv) (wa_nil ⟨_, _, rfl, ?_⟩))))))
  refine nxt (x_seq (x_while' (fun m ε L => ∃ (us : List Way) (u : Way) (b : Bag), u.length = m ∧ (∀ z ∈ us ++ [u], LW v z) ∧ (us ++ [u]).head? = some v ∧ (us ++ [u]).length + u.length ≤ v.length + 1 ∧ ε = [bagv pb, wv v, bagv p, dv (li (pl u))] ∧ L = [.lst p ((us ++ [u]).map wayD), b.at pb pc]) (m0 := v.length) ⟨[], v, b, rfl, fun z hz => by rw [List.mem_singleton.mp hz]; exact ⟨Nat.le_refl _, Nat.le_refl _, hst, rfl⟩, rfl, by show 1 + v.length ≤ v.length + 1; omega, rfl, rfl⟩ ?_))
  rintro m ε' L' ⟨us, u, b, rfl, hall, hhd, hlen, rfl, rfl⟩
  have hu := hall u (List.mem_append_right _ List.mem_cons_self)
  have hul := hu.len
  have lastu : ∀ {ε : Eps} {L : Own}, ε[2]? = some (bagv p) → L[0]? = some (.lst p ((us ++ [u]).map wayD)) → EX B (tOp (rIxL B.K) (tVar 2) (tUn (rU fun i => .int (-i)) (tC (.int 1)))) ε L (.d (wayD u)) L := fun h1 h2 => ex_ixL (ds := (us ++ [u]).map wayD) (ex_v h1) (ex_neg ex_cI) (.o (k := 0) h2) at_end
  refine wt_of (et_test (ex_neNil (ds := (pl u).map PyData.int) (ex_v rfl) .d (shaped_ints _))) ⟨fun hb => ?_, fun hb => ?_⟩
  · have hne : pl u ≠ [] := fun z => by rw [z] at hb; exact nomatch hb
    have hpl := pl_len (v := u)
    refine x_seq (x_appW (e := wayD) (ex_v rfl) ⟨_, _, .z⟩ (w_callD (wa_x (lastu rfl rfl) (wa_v (e := PyData.int) (w_pck (pb := pb) (pc := pc) (e := PyData.int) (xs := pl u) rfl (ex_v rfl) (fun b' => .s .z) hne (by omega) fun i b1 hi => ?_)))))
    obtain ⟨n, rfl, hn⟩ := mem_pl hi
    have hm := mem_places hn
    refine wa_nil ⟨(u, n), rfl, ⟨by show u.length ≤ 5000; omega, hm.1⟩, fun x hx => ?_⟩
    have hx : x = putW u n := hx
    subst hx
    have hz := hu.put hn
    have hzl := put_len hm.1
    rw [List.length_append, List.length_singleton] at hlen
    refine ⟨_, _, .z, by rw [List.length_map, List.length_append, List.length_singleton]; omega, ?_⟩
    have e : (us ++ [u]).map wayD ++ [wayD (putW u n)] = (us ++ [u] ++ [putW u n]).map wayD := by rw [List.map_append (l₁ := us ++ [u])]; rfl
    rw [e]
    refine nxt (x_set (a := .d (li (pl (putW u n)))) (ex_places (ex_ixL (ds := (us ++ [u] ++ [putW u n]).map wayD) (ex_v rfl) (ex_neg ex_cI) (.o (k := 0) rfl) at_end) (by omega)) ?_)
    refine nxt (x_end ⟨(putW u n).length, by omega, us ++ [u], putW u n, b1, rfl, fun z hz' => ?_, ?_, ?_, rfl, rfl⟩)
    · rcases List.mem_append.mp hz' with q | q
      · exact hall z q
      · rw [List.mem_singleton.mp q]; exact hz
    · rw [List.head?_append, hhd]; rfl
    · rw [List.length_append, List.length_append, List.length_singleton, List.length_singleton]; omega
  · have he : placesW u = [] := by
      have : pl u = [] := by
        cases h : pl u with
        | nil => rfl
        | cons a t => rw [h] at hb; exact nomatch hb
      unfold pl at this
      exact List.map_eq_nil_iff.mp this
    have hr : redW v = u := by rw [← hu.red]; exact red_places (fun x hx => (hu.st x hx).2.2) he
    refine nxt (x_retG' q (wr_var rfl ⟨_, _, us ++ [u], hp, rfl, rfl, ⟨hall, hhd, ?_, ?_⟩, b, by simp⟩))
    · rw [List.getLast?_append, hr]; rfl
    · omega
end K86

/-! ## G3 -/
set_option Elab.async false
set_option linter.all false
set_option maxRecDepth 100000
set_option maxHeartbeats 4000000
set_option autoImplicit false
namespace K86
open PySem L2 Fz K80 Ways
variable {P : Program} {w : World} {K : PySem.W.Frag} {mg : Str → Option Value} {base : Heap} {f : Addr} {fd : FuncData}
theorem kwX1 {F : Hp} {zs : List V} {x : PyData} {K : PySem.W.Frag} (h2 : AdAll K F [.d x] zs) : DqAll K F (kwG 1 [0] [] zs) [x] := by
  match zs, h2 with
  | [a], h => exact .cons h.1 .nil
theorem kwX {F : Hp} {zs : List V} {x y : PyData} {K : PySem.W.Frag} (h2 : AdAll K F [.d x, .d y] zs) : DqAll K F (kwG 2 [0, 1] [] zs) [x, y] := by
  match zs, h2 with
  | [a, b], h => exact .cons h.1 (.cons h.2.1 .nil)
theorem back_len (v : Way) : (backW v).length = v.length := by unfold backW; rw [List.length_reverse, List.length_map]
section
variable {B : Bg} {ε : Eps} {L La Lb : Own} {te ta tb : TE} {E : XK} {v one other : Way} {d : PyData}
theorem ex_red (h : EX B te ε L (.d (wayD v)) La) (hl : v.length ≤ 5000) : EX B (tCall (S_reduced_way B.K) [] E (tCons te tNil)) ε L (.d (wayD (redW v))) La :=
  ex_of fun κ k => w_callD (wa_x h (wa_nil ⟨v, rfl, hl, fun x hx => hx ▸ k⟩))
theorem ex_redK (h : EX B te ε L (.d (wayD v)) La) (hl : v.length ≤ 5000) : EX B (tCallK (S_reduced_way B.K) (kwG 1 [0]) E tNil (tCons te tNil)) ε L (.d (wayD (redW v))) La :=
  ex_of fun κ k => w_callKD (wa_x h (wa_nil ⟨v, (fun K F zs hz => kwX1 hz), hl, fun x hx => hx ▸ k⟩))
theorem ex_turn (h : EX B te ε L (.d (wayD v)) La) (hl : v.length ≤ 5000) : EX B (tCall (S_turned_way B.K) [] E (tCons te tNil)) ε L (.d (wayD (backW v))) La :=
  ex_of fun κ k => w_callD (wa_x h (wa_nil ⟨v, rfl, hl, fun x hx => hx ▸ k⟩))
theorem ex_turnK (h : EX B te ε L (.d (wayD v)) La) (hl : v.length ≤ 5000) : EX B (tCallK (S_turned_way B.K) (kwG 1 [0]) E tNil (tCons te tNil)) ε L (.d (wayD (backW v))) La :=
  ex_of fun κ k => w_callKD (wa_x h (wa_nil ⟨v, (fun K F zs hz => kwX1 hz), hl, fun x hx => hx ▸ k⟩))
theorem ex_sw (h : EX B ta ε L (.d (wayD one)) La) (h2 : EX B tb ε La (.d (wayD other)) Lb) (hl : one.length ≤ 5000 ∧ other.length ≤ 5000) : EX B (tCall (S_are_same_ways B.K) [] E (tCons ta (tCons tb tNil))) ε L (.d (.bool (decide (redW one = redW other)))) Lb :=
  ex_of (e := PyData.bool) fun κ k => w_callD (wa_x h (wa_x h2 (wa_nil ⟨(one, other), rfl, hl, fun x hx => hx ▸ k⟩)))
theorem ex_swK (h : EX B ta ε L (.d (wayD one)) La) (h2 : EX B tb ε La (.d (wayD other)) Lb) (hl : one.length ≤ 5000 ∧ other.length ≤ 5000) : EX B (tCallK (S_are_same_ways B.K) (kwG 2 [0, 1]) E tNil (tCons ta (tCons tb tNil))) ε L (.d (.bool (decide (redW one = redW other)))) Lb :=
  ex_of (e := PyData.bool) fun κ k => w_callKD (wa_x h (wa_x h2 (wa_nil ⟨(one, other), (fun K F zs hz => kwX hz), hl, fun x hx => hx ▸ k⟩)))
theorem ex_join (h : EX B ta ε L (.d (wayD one)) La) (h2 : EX B tb ε La (.d (wayD other)) Lb) (hl : one.length + other.length ≤ 16) : EX B (tCall (S_joined_ways B.K) [] E (tCons ta (tCons tb tNil))) ε L (.d (wayD (one ++ other))) Lb :=
  ex_of fun κ k => w_callD (wa_x h (wa_x h2 (wa_nil ⟨(one, other), rfl, hl, fun x hx => hx ▸ k⟩)))
theorem ex_bk (h : EX B te ε L (.d (wayD v)) La) (hl : v.length ≤ 5000) : EX B (tCall (S_law_back B.K) [] E (tCons te tNil)) ε L (.d (wayD (backW v))) La :=
  ex_of fun κ k => w_callD (wa_x h (wa_nil ⟨v, rfl, hl, fun x hx => hx ▸ k⟩))
theorem ex_sameT (h : EX B ta ε L (.d d) La) (h2 : EX B tb ε La (.d d) Lb) (s : Fz.SameOk d) : EX B (tCall (S_law_same B.K) [] E (tCons ta (tCons tb tNil))) ε L (.d (.bool true)) Lb :=
  ex_of (e := PyData.bool) fun κ k => w_callD (wa_x h (wa_x h2 (wa_nil ⟨d, rfl, s, fun x hx => hx ▸ k⟩)))
end
/-! ### asks -/
def letW (v : Way) : Bool := decide ((v.length : Int) ≤ 8) && (v.map fun z => decide ((z.2.natAbs : Int) ≤ 100)).all id
theorem let_gw {v : Way} (h : letW v = true) (hs : ∀ x ∈ v, StN x) : GW 8 100 v := by
  unfold letW at h
  rw [Bool.and_eq_true] at h
  have hl := of_decide_eq_true h.1
  refine ⟨by omega, fun z hz => ?_⟩
  have h := List.all_eq_true.mp h.2 _ (List.mem_map_of_mem hz)
  have h : decide ((z.2.natAbs : Int) ≤ 100) = true := h
  have := of_decide_eq_true h
  exact ⟨(hs z hz).1, (hs z hz).2.1, by omega, (hs z hz).2.2⟩
abbrev S_law_is_let (K : PySem.W.Frag) : Sp := spD K (fun v : Way => [wayD v]) (fun v => v.length ≤ 5000) PyData.bool (fun v x => x = letW v)
def letD : PyData → PyData
  | .tuple [_, .int y] => .bool (decide ((y.natAbs : Int) ≤ 100))
  | d => d
theorem okd_law_is_let (Fn : Fun K "_law_is_let" "_law_is_let" s_law_is_let f fd) (T : Bt P mg base)  : FnOk P w K mg base CX0 41 f fd ["way"] (S_law_is_let K) := by
  refine fn_D Fn sc_law_is_let (by decide) (fun _ => rfl) fun cdv A outer s H E hr => ⟨_, (pss_one (ps_ret (pe_and (pe_cmpR op_le (pe_callB (r := Evl.rLenS K) call_len_seq (by rfl) T.n_len (by decide +kernel) (pa_cons (pv 0) pa_nil)) pe_int (nomark _)) (pe_one (pe_callB (r := rAll K) (cr_all rfl) (by rfl) T.n_all (by decide +kernel) (pa_cons (pe_lc (g := gTup K 2 (gCons (gName 1) (gCons (gName 2) gNil))) (own := [("letter", 1), ("stride", 2)]) rfl sc_law_is_let.nd (pi_tup (pv 0)) (blkOk_by (own := [("letter", 1), ("stride", 2)]) (N := ["way", "letter", "stride"]) (sc := defScope s_law_is_let) (by decide +kernel)) (fun _ _ _ _ _ => (pg_tup rfl (pgs_cons (pg_name (i := 1) sc_law_is_let.nd rfl (Or.inl rfl)) (pgs_cons (pg_name (i := 2) sc_law_is_let.nd rfl (Or.inl rfl)) pgs_nil)))) (fun _ _ _ _ _ => pts_nil) (fun _ _ _ _ _ => (pe_cmpR op_le (pe_callB call_abs (by rfl) T.n_abs (by decide +kernel) (pa_cons (pv 2) pa_nil)) pe_int (nomark _)))) pa_nil)))))), ?_⟩
  rintro B Q v rfl hv q
  show Ho B _ [wv v, none, none] []
  refine x_retD q (wv_of (x := letW v) (ex_andV (b := decide ((v.length : Int) ≤ 8)) (c := (v.map fun z => decide ((z.2.natAbs : Int) ≤ 100)).all id) (ex_le (ex_lenW (ex_v rfl) rfl) ex_cI) (fun hb => ex_allB (bs := v.map fun z => decide ((z.2.natAbs : Int) ≤ 100)) (ex_is (ex_frz (en_lcTP (xs := wayL v) (fun _ => true) letD (fun d => match d with | .tuple [x, y] => [some (.d (wayD v)), some (.d x), some (.d y)] | _ => []) (ex_v rfl) (by rw [wayL_len]; omega) (gw_tup2 (by simp) (by simp)) (fun d hd => ?_) (fun d hd m => et_yes) (fun d hd _ m => ?_))) ?_) .d) (fun _ => rfl)) rfl)
  · obtain ⟨x, _, rfl⟩ := List.mem_map.mp hd
    exact gt_tup2 (d := .int x.1) (e := .int x.2)
  · obtain ⟨x, _, rfl⟩ := List.mem_map.mp hd
    exact ex_le (ex_int (ex_abs (ex_v rfl)) (abs_if _)) ex_cI
  · rw [filter_yes]
    unfold wayL
    rw [List.map_map, List.map_map]; rfl
abbrev S_law_is_reduced (K : PySem.W.Frag) : Sp := spD K (fun v : Way => [wayD v, wayD (redW v)]) (fun v => v.length ≤ 5000 ∧ Fz.SameOk (wayD (redW v))) PyData.bool (fun _ x => x = true)
theorem okd_law_is_reduced (Fn : Fun K "_law_is_reduced" "_law_is_reduced" s_law_is_reduced f fd) (T : Bt P mg base) (D_law_same : GDf P w K mg base 41 "_law_same" ["told", "due"] (S_law_same K)) (D_reduced_way : Df P w K mg base 41 "reduced_way" ["way"] (S_reduced_way K)) (DK_reduced_way_way : DfK P w K mg base 41 "reduced_way" ["way"] ["way"] (kwG 1 [0]) (kwG 1 [0]) (S_reduced_way K)) : GOk P w K mg base 42 f fd ["way", "due"] (S_law_is_reduced K) := by
  refine g_D Fn sc_law_is_reduced (by decide) (fun _ => rfl) fun cdv A outer s H hr hG => ⟨_, (pss_one (ps_ret (pe_and (pe_callG hG D_law_same (hr.mono (by decide)) (by rfl) (pa_cons (pe_callD D_reduced_way (hr.mono (by decide)) (by rfl) (pa_cons (pv 0) pa_nil)) (pa_cons (pv 1) pa_nil))) (pe_one (pe_callG hG D_law_same (hr.mono (by decide)) (by rfl) (pa_cons (pe_callKD DK_reduced_way_way (hr.mono (by decide)) (by rfl) (pk_cons (pv 0) pk_nil)) (pa_cons (pv 1) pa_nil))))))), ?_⟩
  rintro B Q v rfl ⟨hv, hs⟩ q
  show Ho B _ [wv v, wv (redW v)] []
  exact x_retD q (wv_of (x := true) (ex_boolE (ex_andV (b := true) (c := true) (ex_sameT (ex_red (ex_v rfl) hv) (ex_v rfl) hs) (fun _ => ex_sameT (ex_redK (ex_v rfl) hv) (ex_v rfl) hs) (fun h => nomatch h)) rfl) rfl)
abbrev S_law_is_same_word (K : PySem.W.Frag) : Sp := spD K (fun y : Way × Way => [wayD y.1, wayD y.2, .bool (decide (redW y.1 = redW y.2))]) (fun y => y.1.length ≤ 5000 ∧ y.2.length ≤ 5000) PyData.bool (fun _ x => x = true)
theorem same_bool (b : Bool) : Fz.SameOk (.bool b) := (nice_bool b (k := 1) (m := 1)).same (by decide) (by decide)
theorem okd_law_is_same_word (Fn : Fun K "_law_is_same_word" "_law_is_same_word" s_law_is_same_word f fd) (T : Bt P mg base) (D_law_same : GDf P w K mg base 41 "_law_same" ["told", "due"] (S_law_same K)) (D_are_same_ways : Df P w K mg base 42 "are_same_ways" ["one", "other"] (S_are_same_ways K)) (DK_are_same_ways_one_other : DfK P w K mg base 42 "are_same_ways" ["one", "other"] ["one", "other"] (kwG 2 [0, 1]) (kwG 2 [0, 1]) (S_are_same_ways K)) : GOk P w K mg base 43 f fd ["one", "other", "due"] (S_law_is_same_word K) := by
  refine g_D Fn sc_law_is_same_word (by decide) (fun _ => rfl) fun cdv A outer s H hr hG => ⟨_, (pss_cons (ps_if (PW.pt (pw_or (pt_not (pt_val (pe_callG hG D_law_same (hr.mono (by decide)) (by rfl) (pa_cons (pe_callD D_are_same_ways (hr.mono (by decide)) (by rfl) (pa_cons (pv 0) (pa_cons (pv 1) pa_nil))) (pa_cons (pv 2) pa_nil))))) (pw_or1 (pt_not (pt_val (pe_callG hG D_law_same (hr.mono (by decide)) (by rfl) (pa_cons (pe_callD D_are_same_ways (hr.mono (by decide)) (by rfl) (pa_cons (pv 1) (pa_cons (pv 0) pa_nil))) (pa_cons (pv 2) pa_nil)))))))) (pss_one (ps_ret pe_bl)) pss_nil)
      (pss_one (ps_ret (pe_callG hG D_law_same (hr.mono (by decide)) (by rfl) (pa_cons (pe_callKD DK_are_same_ways_one_other (hr.mono (by decide)) (by rfl) (pk_cons (pv 0) (pk_cons (pv 1) pk_nil))) (pa_cons (pv 2) pa_nil)))))), ?_⟩
  rintro B Q ⟨one, other⟩ rfl ⟨h1, h2⟩ q
  dsimp only at h1 h2 q
  show Ho B _ [wv one, wv other, dv (.bool (decide (redW one = redW other)))] []
  have sy : decide (redW other = redW one) = decide (redW one = redW other) := by by_cases c : redW one = redW other <;> simp [c, eq_comm]
  have hs := same_bool (decide (redW one = redW other))
  refine x_seq (x_skip (et_orF (et_noT (ex_sameT (ex_sw (ex_v rfl) (ex_v rfl) ⟨h1, h2⟩) (ex_v rfl) hs)) (et_noT (ex_sameT (ex_boolE (ex_sw (ex_v rfl) (ex_v rfl) ⟨h2, h1⟩) sy) (ex_v rfl) hs))) ?_)
  exact nxt (x_retD q (wv_of (x := true) (ex_sameT (ex_swK (ex_v rfl) (ex_v rfl) ⟨h1, h2⟩) (ex_v rfl) hs) rfl))
abbrev S_law_built (K : PySem.W.Frag) : Sp := spD K (fun v : Way => [wayD v]) (fun v => v.length ≤ 16) wayD (fun v x => x = v)
theorem okd_law_built (Fn : Fun K "_law_built" "_law_built" s_law_built f fd) (T : Bt P mg base) (D_joined_ways : Df P w K mg base 41 "joined_ways" ["one", "other"] (S_joined_ways K)) : FnOk P w K mg base CX0 42 f fd ["way"] (S_law_built K) := by
  refine fn_D Fn sc_law_built (by decide) (fun _ => rfl) fun cdv A outer s H E hr => ⟨_, (pss_one (ps_ret (pe_ifExp (pt_cmpR op_le (pe_callB (r := Evl.rLenS K) call_len_seq (by rfl) T.n_len (by decide +kernel) (pa_cons (pv 0) pa_nil)) pe_int (nomark _)) (pv 0) (pe_callD D_joined_ways (hr.mono (by decide)) (by rfl) (pa_cons (pe_slice (r := rSlA K) sl_tupA (pv 0) po_none (po_some pe_int)) (pa_cons (pe_slice (r := rSlA K) sl_tupA (pv 0) (po_some pe_int) po_none) pa_nil)))))), ?_⟩
  rintro B Q v rfl hv q
  show Ho B _ [wv v] []
  refine x_retD q (wv_of (x := v) (ex_if (et_test (ex_le (ex_lenW (ex_v rfl) rfl) ex_cI)) (fun _ => ex_v rfl) (fun _ => ex_is (ex_join (one := v.take 8) (other := v.drop 8) (ex_take (e := stD) (xs := v) (i := 8) (ex_v rfl) ex_cI (by decide)) (ex_from (e := stD) (xs := v) (i := 8) (ex_v rfl) ex_cI (by decide)) ?_) ?_)) rfl)
  · rw [← List.length_append, List.take_append_drop]; exact hv
  · rw [List.take_append_drop]
end K86

/-! ## G4 -/
set_option Elab.async false
set_option linter.all false
set_option maxRecDepth 100000
set_option maxHeartbeats 4000000
set_option autoImplicit false
namespace K86
open PySem L2 Fz K80 Ways
variable {P : Program} {w : World} {K : PySem.W.Frag} {mg : Str → Option Value} {base : Heap} {f : Addr} {fd : FuncData}
def stOf : PyData → Option (Int × Int)
  | .tuple [.int x, .int y] => some (x, y)
  | _ => none
def wayOf : PyData → Way
  | .tuple ds => ds.filterMap stOf
  | _ => []
theorem wayOf_D (v : Way) : wayOf (wayD v) = v := by
  show (v.map stD).filterMap stOf = v
  rw [List.filterMap_map]
  have : (stOf ∘ stD) = some := by funext x; rfl
  rw [this, List.filterMap_some]
theorem GW.same {n c : Nat} {v : Way} (h : GW n c v) (hn : n ≤ 5000) (hc : c ≤ 2 ^ 60) : Fz.SameOk (wayD v) := (h.nice hc).same (by decide) (by omega)
theorem GW.st {n c : Nat} {v : Way} (h : GW n c v) : ∀ x ∈ v, StN x := fun x hx => (h.2 x hx).n
theorem LW.back {v u : Way} (h : LW v u) : True := trivial
/-- orders, asked for -/
theorem w_ord {B : Bg} {ε : Eps} {L La : Own} {te : TE} {E : XK} {pb pc : Addr} {i : Nat} {b : Bag} {L2 : Bag → Own} {v : Way} {κ : List Way → Own → Prop} (hb : ε[i]? = some (some (.v (.ref pb)))) (h : EX B te ε L (.d (wayD v)) La) (hv : v.length ≤ 5000) (hs : ∀ x ∈ v, StN x) (hup : ∀ b', Up La (b.at pb pc) (b'.at pb pc) (L2 b')) (k : ∀ us b', OrdOk v us → κ us (L2 b')) :
    WV B (eL wayD) (tCall (S_law_orderly B.K) [] E (tCons (tVar i) (tCons te tNil))) ε L κ :=
  w_callG (pb := pb) (pc := pc) (wa_x (ex_v hb) (wa_x h (wa_nil ⟨v, b, L2, rfl, hup, ⟨hv, hs⟩, fun us b' hu => k us b' hu⟩)))
theorem ord_last {v : Way} {us : List Way} (h : OrdOk v us) : atI (us.map wayD) (-1) = some (wayD (redW v)) := by
  obtain ⟨zs, rfl⟩ := List.getLast?_eq_some_iff.mp h.last
  exact at_end
theorem ord_head {v : Way} {us : List Way} (h : OrdOk v us) : atI (us.map wayD) 0 = some (wayD v) := by
  have := h.head
  match us, this with
  | u :: t, e =>
    have e : some u = some v := e
    cases e
    exact atI_nat (xs := (v :: t).map wayD) (j := 0) rfl
theorem rx_ixL {B : Bg} {ε : Eps} {L : Own} {x : AD} {i : Int} {ds : List PyData} {d : PyData} (hx : IsL L x ds) (hi : atI ds i = some d) : RX B (rIxL B.K) ε L x (.d (.int i)) (.d d) L := fun F σ H v w rp hv hw Q q => by
  obtain ⟨p, vs, rfl, h1, h2⟩ := hx.get rp hv
  obtain ⟨u, e1, e2⟩ := atI_dp h2 hi
  exact ⟨p, vs, i, u, rfl, int_inv hw, h1, e1, q u F H (Sub.rfl' F) rp e2⟩
/-- the last of the orders -/
theorem w_ordL {B : Bg} {ε : Eps} {L La : Own} {te : TE} {E : XK} {pb pc : Addr} {i : Nat} {b : Bag} {L2 : Bag → Own} {v : Way} {κ : Way → Own → Prop} (hb : ε[i]? = some (some (.v (.ref pb)))) (h : EX B te ε L (.d (wayD v)) La) (hv : v.length ≤ 5000) (hs : ∀ x ∈ v, StN x) (hup : ∀ b', Up La (b.at pb pc) (b'.at pb pc) (L2 b')) (k : ∀ b', κ (redW v) (L2 b')) :
    WV B wayD (tOp (rIxL B.K) (tCall (S_law_orderly B.K) [] E (tCons (tVar i) (tCons te tNil))) (tUn (rU fun i => .int (-i)) (tC (.int 1)))) ε L κ :=
  w_op (e := eL wayD) (f := PyData.int) (g := wayD) (w_ord (L2 := L2) hb h hv hs hup fun us b' hu => wv_of (x := (-1 : Int)) (ex_neg ex_cI) ⟨redW v, rx_ixL .d (ord_last hu), k b'⟩)
abbrev S_law_is_order_right (K : PySem.W.Frag) : Sp := spG K (fun v : Way => [wayD v]) (fun v => GW 16 1600 v) PyData.bool (fun _ x => x = true)
theorem okd_law_is_order_right (Fn : Fun K "_law_is_order_right" "_law_is_order_right" s_law_is_order_right f fd) (T : Bt P mg base) (D_law_orderly : Df P w K mg base 43 "_law_orderly" ["bag", "way"] (S_law_orderly K)) (D_reduced_way : Df P w K mg base 41 "reduced_way" ["way"] (S_reduced_way K)) (D_turned_way : Df P w K mg base 41 "turned_way" ["way"] (S_turned_way K)) (D_law_is_reduced : GDf P w K mg base 42 "_law_is_reduced" ["way", "due"] (S_law_is_reduced K)) (D_law_same : GDf P w K mg base 41 "_law_same" ["told", "due"] (S_law_same K)) (D_law_is_let : Df P w K mg base 41 "_law_is_let" ["way"] (S_law_is_let K)) (D_law_back : Df P w K mg base 41 "_law_back" ["way"] (S_law_back K)) (D_law_is_same_word : GDf P w K mg base 43 "_law_is_same_word" ["one", "other", "due"] (S_law_is_same_word K)) (DK_turned_way_way : DfK P w K mg base 41 "turned_way" ["way"] ["way"] (kwG 1 [0]) (kwG 1 [0]) (S_turned_way K)) : GOk P w K mg base 44 f fd ["bag", "way"] (S_law_is_order_right K) := by
  refine g_G Fn sc_law_is_order_right (by decide) (fun _ => rfl) fun cdv A outer s H hr hG => ⟨_, (pss_cons (ps_set (i := 2) sc_law_is_order_right.nd rfl (.inl rfl) (pe_callD D_law_orderly (hr.mono (by decide)) (by rfl) (pa_cons (pv 0) (pa_cons (pv 1) pa_nil))))
      (pss_cons (ps_par (i := 3) (j := 4) (by rfl) sc_law_is_order_right.nd rfl rfl (by decide) rfl rfl (pa_cons (pe_ix (r := rIxL K) ix_list (pv 2) (pe_un un_neg pe_int) (fun _ _ => rfl)) (pa_cons (pe_ix (r := rIxL K) ix_list (pv 2) pe_int (fun _ _ => rfl)) pa_nil)) (by rfl))
      (pss_cons (ps_for PassesOwn.never rfl (pi_list (pe_lc (own := [("own", 8)]) rfl sc_law_is_order_right.nd (pi_list (pv 2)) (blkOk_by (own := [("own", 8)]) (N := ["bag", "way", "found", "left", "near", "between", "told", "back", "own"]) (sc := defScope s_law_is_order_right) (by decide +kernel)) (fun _ _ _ _ _ => (pg_name (i := 8) sc_law_is_order_right.nd rfl (Or.inl rfl))) (fun _ _ _ _ _ => (pts_one (pt_val (pe_callD D_law_is_let (hr.mono (by decide)) (by rfl) (pa_cons (pv 8) pa_nil))))) (fun _ _ _ _ _ => (pv 8)))) (pg_name (i := 5) sc_law_is_order_right.nd rfl (Or.inl rfl)) (pss_cons (ps_if (PW.pt (pw_or (pt_not (pt_val (pe_callG hG D_law_is_reduced (hr.mono (by decide)) (by rfl) (pa_cons (pv 5) (pa_cons (pv 3) pa_nil))))) (pw_or1 (pt_not (pt_val (pe_callG hG D_law_is_same_word (hr.mono (by decide)) (by rfl) (pa_cons (pv 4) (pa_cons (pv 5) (pa_cons pe_bl pa_nil))))))))) (pss_one (ps_ret pe_bl)) pss_nil)
      (pss_one (ps_set (i := 4) sc_law_is_order_right.nd rfl (.inl rfl) (pv 5)))))
      (pss_cons (ps_set (i := 6) sc_law_is_order_right.nd rfl (.inl rfl) (pe_callD D_reduced_way (hr.mono (by decide)) (by rfl) (pa_cons (pv 1) pa_nil)))
      (pss_cons (ps_set (i := 7) sc_law_is_order_right.nd rfl (.inl rfl) (pe_callD D_turned_way (hr.mono (by decide)) (by rfl) (pa_cons (pv 1) pa_nil)))
      (pss_cons (ps_if (PW.pt (pw_or (pt_not (pt_val (pe_callG hG D_law_same (hr.mono (by decide)) (by rfl) (pa_cons (pv 6) (pa_cons (pv 3) pa_nil))))) (pw_or (pt_not (pt_val (pe_callG hG D_law_same (hr.mono (by decide)) (by rfl) (pa_cons (pv 7) (pa_cons (pe_callD D_law_back (hr.mono (by decide)) (by rfl) (pa_cons (pv 1) pa_nil)) pa_nil))))) (pw_or1 (pt_not (pt_val (pe_callG hG D_law_same (hr.mono (by decide)) (by rfl) (pa_cons (pe_callKD DK_turned_way_way (hr.mono (by decide)) (by rfl) (pk_cons (pv 1) pk_nil)) (pa_cons (pv 7) pa_nil))))))))) (pss_one (ps_ret pe_bl)) pss_nil)
      (pss_cons (ps_if (PW.pt (pw_or (pt_not (pt_val (pe_callG hG D_law_is_reduced (hr.mono (by decide)) (by rfl) (pa_cons (pv 6) (pa_cons (pv 3) pa_nil))))) (pw_or1 (pt_not (pt_val (pe_callG hG D_law_same (hr.mono (by decide)) (by rfl) (pa_cons (pe_callD D_turned_way (hr.mono (by decide)) (by rfl) (pa_cons (pv 6) pa_nil)) (pa_cons (pe_callD D_law_back (hr.mono (by decide)) (by rfl) (pa_cons (pv 3) pa_nil)) pa_nil)))))))) (pss_one (ps_ret pe_bl)) pss_nil)
      (pss_one (ps_ret (pe_and (pe_callG hG D_law_is_reduced (hr.mono (by decide)) (by rfl) (pa_cons (pv 7) (pa_cons (pe_callD D_law_back (hr.mono (by decide)) (by rfl) (pa_cons (pv 3) pa_nil)) pa_nil))) (pe_one (pe_callG hG D_law_same (hr.mono (by decide)) (by rfl) (pa_cons (pe_callD D_turned_way (hr.mono (by decide)) (by rfl) (pa_cons (pv 7) pa_nil)) (pa_cons (pv 1) pa_nil)))))))))))))), ?_⟩
  rintro B Q pb pc b v rfl hg q
  show Ho B _ [bagv pb, wv v, none, none, none, none, none, none, none] [b.at pb pc]
  have hvl : v.length ≤ 16 := hg.1
  have hvt : Ways.tot v ≤ 25600 := hg.tot
  have sred : Fz.SameOk (wayD (redW v)) := hg.red.same (by decide) (by decide)
  have sbk : Fz.SameOk (wayD (backW v)) := hg.back.same (by decide) (by decide)
  have sv : Fz.SameOk (wayD v) := hg.same (by decide) (by decide)
  have srb : Fz.SameOk (wayD (backW (redW v))) := hg.red.back.same (by decide) (by decide)
  have rl := red_len v
  have bl := blen v
  have brl := blen (redW v)
  refine x_seq (x_setV (w_ord (pb := pb) (pc := pc) (L2 := fun b' => [b'.at pb pc]) rfl (ex_v rfl) (by omega) hg.st (fun b' => .z) fun us b1 hus => ?_) (fun x => .s (.s .z)))
  refine nxt (x_seq (x_par (a := .d (wayD (redW v))) (b := .d (wayD v)) (ea_cons (ex_ixL (ds := us.map wayD) (ex_v rfl) (ex_neg ex_cI) .d (ord_last hus)) (ea_cons (ex_ixL (ds := us.map wayD) (ex_v rfl) ex_cI .d (ord_head hus)) ea_nil)) ?_))
  refine x_sq (x_forLe (e := wayD) (xs := us.filter letW) (ex_is (ex_frz (en_lcLP (xs := us.map wayD) (fun d => letW (wayOf d)) id (fun d => (wipeE [bagv pb, wv v, dv (eL wayD us), wv (redW v), wv v, none, none, none, none] [8]).set 8 (some (.d d))) (ex_v rfl) ?_ (gw_name (by simp)) (fun d hd => gt_name) (fun d hd m => ?_) (fun d hd _ m => ex_v rfl))) ?_) (fun u i ε L => ∃ z : Way, LW v z ∧ ε = [bagv pb, wv v, dv (eL wayD us), wv (redW v), wv z, none, none, none, none] ∧ L = [b1.at pb pc, .know u (eL wayD (us.filter letW))]) (fun u => ⟨v, ⟨Nat.le_refl _, Nat.le_refl _, hg.st, rfl⟩, rfl, rfl⟩) (fun u i ε' L' ⟨_, _, _, h⟩ => by rw [h]; simp) ?_ ?_)
  · rw [List.length_map]
    have := hus.len
    omega
  · obtain ⟨u, hu, rfl⟩ := List.mem_map.mp hd
    have := (hus.all u hu).len
    rw [wayOf_D]
    exact et_test (ex_of (e := PyData.bool) fun κ k => w_callD (wa_x (ex_v rfl) (wa_nil ⟨u, rfl, by show u.length ≤ 5000; omega, fun x hx => hx ▸ k⟩)))
  · unfold eL
    rw [List.map_id, List.filter_map]
    have : ((fun d => letW (wayOf d)) ∘ wayD) = letW := by funext x; show letW (wayOf (wayD x)) = _; rw [wayOf_D]
    rw [this]
  · rintro u i x ε' L' hx ⟨z, hz, rfl, rfl⟩
    have hxm : x ∈ us := (List.mem_filter.mp (List.mem_of_getElem? hx)).1
    have hxl := hus.all x hxm
    have l1 := hxl.len
    have l2 := hz.len
    refine ⟨_, gt_name, ?_⟩
    have e1 : decide (redW z = redW x) = true := decide_eq_true (by rw [hz.red, hxl.red])
    refine x_seq (x_skip (et_orF (et_noT (ex_of (e := PyData.bool) fun κ k => w_callD (wa_x (ex_v rfl) (wa_x (ex_v rfl) (wa_nil ⟨x, by rw [hxl.red]; rfl, ⟨by omega, by rw [hxl.red]; exact sred⟩, fun x hx => hx ▸ k⟩))))) (et_noT (ex_of (e := PyData.bool) fun κ k => w_callD (wa_x (ex_v rfl) (wa_x (ex_v rfl) (wa_x ex_cB (wa_nil ⟨(z, x), by rw [e1]; rfl, ⟨by show z.length ≤ 5000; omega, by show x.length ≤ 5000; omega⟩, fun x hx => hx ▸ k⟩))))))) ?_)
    exact nxt (x_set (ex_v rfl) (nxt (x_end ⟨x, hxl, rfl, rfl⟩)))
  · rintro u ε' L' ⟨z, hz, rfl, rfl⟩
    refine nxt (x_seq (x_set (ex_red (v := v) (ex_v rfl) (by omega)) ?_))
    refine nxt (x_seq (x_set (ex_turn (v := v) (ex_v rfl) (by omega)) ?_))
    refine nxt (x_seq (x_skip (et_orF (et_noT (ex_sameT (ex_v rfl) (ex_v rfl) sred)) (et_orF (et_noT (ex_sameT (ex_v rfl) (ex_bk (v := v) (ex_v rfl) (by omega)) sbk)) (et_noT (ex_sameT (ex_turnK (v := v) (ex_v rfl) (by omega)) (ex_v rfl) sbk)))) ?_))
    refine nxt (x_seq (x_skip (et_orF (et_noT (ex_of (e := PyData.bool) fun κ k => w_callD (wa_x (ex_v rfl) (wa_x (ex_v rfl) (wa_nil ⟨redW v, by rw [red_twice]; rfl, ⟨by omega, by rw [red_twice]; exact sred⟩, fun x hx => hx ▸ k⟩))))) (et_noT (ex_sameT (ex_turn (v := redW v) (ex_v rfl) (by omega)) (ex_bk (v := redW v) (ex_v rfl) (by omega)) srb))) ?_))
    refine nxt (x_retG q (w_andV (wv_of (x := true) (ex_of (e := PyData.bool) fun κ k => w_callD (wa_x (ex_v rfl) (wa_x (ex_bk (v := redW v) (ex_v rfl) (by omega)) (wa_nil ⟨backW v, by rw [red_back]; rfl, ⟨by omega, by rw [red_back]; exact srb⟩, fun x hx => hx ▸ k⟩)))) ⟨fun _ => wv_of (x := true) (ex_sameT (ex_is (ex_turn (v := backW v) (ex_v rfl) (by omega)) (by rw [back_back])) (ex_v rfl) sv) ⟨rfl, b1, by simp⟩, fun h => nomatch h⟩)))
end K86

/-! ## G5 -/
set_option Elab.async false
set_option linter.all false
set_option maxRecDepth 100000
set_option maxHeartbeats 4000000
set_option autoImplicit false
namespace K86
open PySem L2 Fz K80 Ways
variable {P : Program} {w : World} {K : PySem.W.Frag} {mg : Str → Option Value} {base : Heap} {f : Addr} {fd : FuncData}
section
variable {B : Bg} {ε : Eps} {L La Lb Lc : Own} {te ta tb tc tk tw tm : TE} {E : XK} {v one other : Way} {d : PyData} {pb pc : Addr} {b : Bag} {i : Nat} {κ : Way → Own → Prop} {k : Int} {R : Own}
theorem w_longer (hb : ε[i]? = some (some (.v (.ref pb)))) (hk : EX B tk ε L (.d (.int k)) L) (hw : EX B tw ε L (.d (wayD v)) L) (hk4 : 1 ≤ k ∧ k ≤ 4) (hg : GW 100 100 v)
    (hm : WV B PyData.int tm ε L fun most L1 => ∃ b : Bag, L1 = b.at pb pc :: R ∧ most ≤ 100 ∧ ∀ x b', GW (max most.toNat v.length) 100 x → redW x = redW v → κ x (Bag.at b' pb pc :: R)) : WV B wayD (tCall (S_law_longer B.K) [] E (tCons (tVar i) (tCons tk (tCons tw (tCons tm tNil))))) ε L κ :=
  w_callG (pb := pb) (pc := pc) (wa_x (ex_v hb) (wa_x hk (wa_x hw (wa_v (wv_mono hm fun most L1 ⟨b, e, h1, h2⟩ => by subst e; exact wa_nil ⟨(k, v, most), b, fun b' => b'.at pb pc :: R, rfl, (fun b' => .z), ⟨hk4, h1, hg⟩, fun x b' hx => h2 x b' hx.1 hx.2⟩)))))
theorem w_other (hb : ε[i]? = some (some (.v (.ref pb)))) (hk : EX B tk ε L (.d (.int k)) L) (hk4 : 1 ≤ k ∧ k ≤ 4)
    (hm : WV B wayD tw ε L fun v L1 => GW 100 100 v ∧ WV B PyData.int tm ε L1 fun kind L2 => ∃ b : Bag, L2 = b.at pb pc :: R ∧ ∀ x b', GW (max 1 v.length) 100 x → κ x (Bag.at b' pb pc :: R)) : WV B wayD (tCall (S_law_otherwise B.K) [] E (tCons (tVar i) (tCons tk (tCons tw (tCons tm tNil))))) ε L κ :=
  w_callG (pb := pb) (pc := pc) (wa_x (ex_v hb) (wa_x hk (wa_v (wv_mono hm fun v L1 ⟨hg, h⟩ => wa_v (wv_mono h fun kind L2 ⟨b, e, h2⟩ => by subst e; exact wa_nil ⟨(k, v, kind), b, fun b' => b'.at pb pc :: R, rfl, (fun b' => .z), ⟨hk4, hg⟩, fun x b' hx => h2 x b' hx⟩)))))
theorem ex_isred {dw : Way} (ha : EX B ta ε L (.d (wayD v)) La) (hb : EX B tb ε La (.d (wayD dw)) Lb) (hd : dw = redW v) (hl : v.length ≤ 5000) (hs : Fz.SameOk (wayD dw)) : EX B (tCall (S_law_is_reduced B.K) [] E (tCons ta (tCons tb tNil))) ε L (.d (.bool true)) Lb :=
  ex_of (e := PyData.bool) fun κ k => w_callD (wa_x ha (wa_x hb (wa_nil ⟨v, by rw [hd]; rfl, ⟨hl, hd ▸ hs⟩, fun x hx => hx ▸ k⟩)))
theorem ex_issw {c : Bool} (ha : EX B ta ε L (.d (wayD one)) La) (hb : EX B tb ε La (.d (wayD other)) Lb) (hc : EX B tc ε Lb (.d (.bool c)) Lc) (hd : c = decide (redW one = redW other)) (hl : one.length ≤ 5000 ∧ other.length ≤ 5000) : EX B (tCall (S_law_is_same_word B.K) [] E (tCons ta (tCons tb (tCons tc tNil)))) ε L (.d (.bool true)) Lc :=
  ex_of (e := PyData.bool) fun κ k => w_callD (wa_x ha (wa_x hb (wa_x hc (wa_nil ⟨(one, other), by rw [hd]; rfl, hl, fun x hx => hx ▸ k⟩))))
theorem ex_eqW (ha : EX B ta ε L (.d (wayD one)) La) (hb : EX B tb ε La (.d (wayD other)) Lb) : EX B (tOp (rEqD B.K) ta tb) ε L (.d (.bool (decide (one = other)))) Lb :=
  ex_boolE (ex_eqD ha hb (shaped_way one) (shaped_way other)) (eqv_way one other)
theorem ex_built (ha : EX B ta ε L (.d (wayD v)) La) (hl : v.length ≤ 16) : EX B (tCall (S_law_built B.K) [] E (tCons ta tNil)) ε L (.d (wayD v)) La :=
  ex_of fun κ k => w_callD (wa_x ha (wa_nil ⟨v, rfl, hl, fun x hx => hx ▸ k⟩))
theorem same_ways {n c : Nat} {us : List Way} (h : ∀ u ∈ us, GW n c u) (hn : us.length ≤ 20) (hn2 : n ≤ 100) (hc : c ≤ 2 ^ 60) : Fz.SameOk (eL wayD us) := (nice_eL (n := 20) (fun u hu => ((h u hu).nice hc).mono (m' := 300) (Nat.le_refl _) (by omega)) hn).same (by decide) (by decide)
end
abbrev S_law_are_long_right (K : PySem.W.Frag) : Sp := spG K (fun y : Int × Way => [.int y.1, wayD y.2]) (fun y => (1 ≤ y.1 ∧ y.1 ≤ 4) ∧ GW 8 100 y.2) PyData.bool (fun _ x => x = true)
theorem okd_law_are_long_right (Fn : Fun K "_law_are_long_right" "_law_are_long_right" s_law_are_long_right f fd) (T : Bt P mg base) (D_law_longer : Df P w K mg base 44 "_law_longer" ["bag", "k", "way", "most"] (S_law_longer K)) (D_law_otherwise : Df P w K mg base 44 "_law_otherwise" ["bag", "k", "way", "kind"] (S_law_otherwise K)) (D_law_is_same_word : GDf P w K mg base 43 "_law_is_same_word" ["one", "other", "due"] (S_law_is_same_word K)) (D_law_pick : Df P w K mg base 42 "_law_pick" ["bag", "some"] (S_law_pick K)) (D_law_draw : Df P w K mg base 41 "_law_draw" ["bag", "below"] (S_law_draw K)) (D_law_built : Df P w K mg base 42 "_law_built" ["way"] (S_law_built K)) (D_law_same : GDf P w K mg base 41 "_law_same" ["told", "due"] (S_law_same K)) (D_turned_way : Df P w K mg base 41 "turned_way" ["way"] (S_turned_way K)) (D_law_orderly : Df P w K mg base 43 "_law_orderly" ["bag", "way"] (S_law_orderly K)) (D_law_is_reduced : GDf P w K mg base 42 "_law_is_reduced" ["way", "due"] (S_law_is_reduced K)) (D_reduced_way : Df P w K mg base 41 "reduced_way" ["way"] (S_reduced_way K)) (D_law_back : Df P w K mg base 41 "_law_back" ["way"] (S_law_back K)) : GOk P w K mg base 45 f fd ["bag", "k", "one"] (S_law_are_long_right K) := by
  refine g_G Fn sc_law_are_long_right (by decide) (fun _ => rfl) fun cdv A outer s H hr hG => ⟨_, (pss_cons (ps_set (i := 3) sc_law_are_long_right.nd rfl (.inl rfl) (pe_callD D_law_longer (hr.mono (by decide)) (by rfl) (pa_cons (pv 0) (pa_cons (pv 1) (pa_cons (pv 2) (pa_cons (pe_callD D_law_pick (hr.mono (by decide)) (by rfl) (pa_cons (pv 0) (pa_cons (pe_lst (pa_cons pe_int (pa_cons pe_int (pa_cons pe_int pa_nil)))) pa_nil))) pa_nil))))))
      (pss_cons (ps_set (i := 4) sc_law_are_long_right.nd rfl (.inl rfl) (pe_callD D_law_otherwise (hr.mono (by decide)) (by rfl) (pa_cons (pv 0) (pa_cons (pv 1) (pa_cons (pe_callD D_law_longer (hr.mono (by decide)) (by rfl) (pa_cons (pv 0) (pa_cons (pv 1) (pa_cons (pv 2) (pa_cons pe_int pa_nil))))) (pa_cons (pe_callD D_law_draw (hr.mono (by decide)) (by rfl) (pa_cons (pv 0) (pa_cons pe_int pa_nil))) pa_nil))))))
      (pss_cons (ps_set (i := 5) sc_law_are_long_right.nd rfl (.inl rfl) (pe_callD D_law_longer (hr.mono (by decide)) (by rfl) (pa_cons (pv 0) (pa_cons (pv 1) (pa_cons (pv 4) (pa_cons pe_int pa_nil))))))
      (pss_cons (ps_par (i := 6) (j := 7) (by rfl) sc_law_are_long_right.nd rfl rfl (by decide) rfl rfl (pa_cons (pe_ix (r := rIxL K) ix_list (pe_callD D_law_orderly (hr.mono (by decide)) (by rfl) (pa_cons (pv 0) (pa_cons (pv 2) pa_nil))) (pe_un un_neg pe_int) (fun _ _ => rfl)) (pa_cons (pe_ix (r := rIxL K) ix_list (pe_callD D_law_orderly (hr.mono (by decide)) (by rfl) (pa_cons (pv 0) (pa_cons (pv 4) pa_nil))) (pe_un un_neg pe_int) (fun _ _ => rfl)) pa_nil)) (by rfl))
      (pss_cons (ps_par (i := 8) (j := 9) (by rfl) sc_law_are_long_right.nd rfl rfl (by decide) rfl rfl (pa_cons (pe_callD D_law_built (hr.mono (by decide)) (by rfl) (pa_cons (pv 3) pa_nil)) (pa_cons (pe_callD D_law_built (hr.mono (by decide)) (by rfl) (pa_cons (pv 5) pa_nil)) pa_nil)) (by rfl))
      (pss_cons (ps_if (pt_not (pt_val (pe_callG hG D_law_same (hr.mono (by decide)) (by rfl) (pa_cons (pe_lst (pa_cons (pv 8) (pa_cons (pv 9) pa_nil))) (pa_cons (pe_lst (pa_cons (pv 3) (pa_cons (pv 5) pa_nil))) pa_nil))))) (pss_one (ps_ret pe_bl)) pss_nil)
      (pss_cons (ps_if (PW.pt (pw_or (pt_not (pt_val (pe_callG hG D_law_is_reduced (hr.mono (by decide)) (by rfl) (pa_cons (pv 8) (pa_cons (pv 6) pa_nil))))) (pw_or1 (pt_not (pt_val (pe_callG hG D_law_is_reduced (hr.mono (by decide)) (by rfl) (pa_cons (pv 9) (pa_cons (pv 7) pa_nil)))))))) (pss_one (ps_ret pe_bl)) pss_nil)
      (pss_cons (ps_if (PW.pt (pw_or (pt_not (pt_val (pe_callG hG D_law_is_same_word (hr.mono (by decide)) (by rfl) (pa_cons (pv 2) (pa_cons (pv 8) (pa_cons pe_bl pa_nil)))))) (pw_or1 (pt_not (pt_val (pe_callG hG D_law_is_same_word (hr.mono (by decide)) (by rfl) (pa_cons (pv 8) (pa_cons (pv 4) (pa_cons (pe_cmpR (r := rEqD K) (op_eqD hr.units) (pv 6) (pv 7) (nomark _)) pa_nil))))))))) (pss_one (ps_ret pe_bl)) pss_nil)
      (pss_cons (ps_if (PW.pt (pw_or (pt_not (pt_val (pe_callG hG D_law_is_same_word (hr.mono (by decide)) (by rfl) (pa_cons (pv 9) (pa_cons (pv 4) (pa_cons pe_bl pa_nil)))))) (pw_or1 (pt_not (pt_val (pe_callG hG D_law_is_same_word (hr.mono (by decide)) (by rfl) (pa_cons (pv 2) (pa_cons (pv 9) (pa_cons (pe_cmpR (r := rEqD K) (op_eqD hr.units) (pv 6) (pv 7) (nomark _)) pa_nil))))))))) (pss_one (ps_ret pe_bl)) pss_nil)
      (pss_cons (ps_if (pt_not (pt_val (pe_callG hG D_law_is_same_word (hr.mono (by decide)) (by rfl) (pa_cons (pv 8) (pa_cons (pe_callD D_reduced_way (hr.mono (by decide)) (by rfl) (pa_cons (pv 9) pa_nil)) (pa_cons (pe_cmpR (r := rEqD K) (op_eqD hr.units) (pv 6) (pv 7) (nomark _)) pa_nil)))))) (pss_one (ps_ret pe_bl)) pss_nil)
      (pss_cons (ps_if (PW.pt (pw_or (pt_not (pt_val (pe_callG hG D_law_same (hr.mono (by decide)) (by rfl) (pa_cons (pe_callD D_turned_way (hr.mono (by decide)) (by rfl) (pa_cons (pv 8) pa_nil)) (pa_cons (pe_callD D_law_back (hr.mono (by decide)) (by rfl) (pa_cons (pv 3) pa_nil)) pa_nil))))) (pw_or1 (pt_not (pt_val (pe_callG hG D_law_is_reduced (hr.mono (by decide)) (by rfl) (pa_cons (pe_callD D_turned_way (hr.mono (by decide)) (by rfl) (pa_cons (pv 8) pa_nil)) (pa_cons (pe_callD D_law_back (hr.mono (by decide)) (by rfl) (pa_cons (pv 6) pa_nil)) pa_nil)))))))) (pss_one (ps_ret pe_bl)) pss_nil)
      (pss_one (ps_ret (pe_callG hG D_law_is_same_word (hr.mono (by decide)) (by rfl) (pa_cons (pv 8) (pa_cons (pe_callD D_turned_way (hr.mono (by decide)) (by rfl) (pa_cons (pv 8) pa_nil)) (pa_cons (pe_cmpR (r := rEqD K) (op_eqD hr.units) (pv 6) (pe_callD D_law_back (hr.mono (by decide)) (by rfl) (pa_cons (pv 6) pa_nil)) (nomark _)) pa_nil))))))))))))))))), ?_⟩
  rintro B Q pb pc b ⟨k, one⟩ rfl ⟨hk, hg⟩ q
  dsimp only at hk hg q
  show Ho B _ [bagv pb, iv k, wv one, none, none, none, none, none, none, none] [b.at pb pc]
  have hg100 : GW 100 100 one := hg.mono (by decide) (Nat.le_refl _)
  have h8 := hg.1
  refine x_seq (x_setV (w_longer (pb := pb) (pc := pc) rfl (ex_v rfl) (ex_v rfl) hk hg100 (w_pck (pb := pb) (pc := pc) (e := PyData.int) (xs := [8, 16, 16]) rfl (ex_frz (en_lst (ds := [.int 8, .int 16, .int 16]) (ea_cons ex_cI (ea_cons ex_cI (ea_cons ex_cI ea_nil))) (Nat.le_of_ble_eq_true rfl))) (fun b' => .z) (by decide) (by decide) fun most b1 hm => ⟨b1, rfl, ?_, fun lw b2 hlw hlr => ?_⟩)) (fun x => .s (.s (.s .z))))
  · simp only [List.mem_cons, List.not_mem_nil, or_false] at hm
    omega
  have hm16 : max most.toNat one.length ≤ 16 := by
    simp only [List.mem_cons, List.not_mem_nil, or_false] at hm
    exact Nat.max_le.mpr ⟨by omega, by omega⟩
  have hlw := hlw.mono hm16 (Nat.le_refl _)
  refine nxt (x_seq (x_setV (w_other (pb := pb) (pc := pc) rfl (ex_v rfl) hk (w_longer (pb := pb) (pc := pc) rfl (ex_v rfl) (ex_v rfl) hk hg100 (wv_of (x := (7 : Int)) ex_cI ⟨b2, rfl, by decide, fun l7 b3 hl7 _ => ⟨hl7.mono (Nat.max_le.mpr ⟨by decide, by omega⟩) (Nat.le_refl _), w_drw (pb := pb) (pc := pc) rfl ex_cI (fun b' => .z) (by decide) fun kind b4 _ _ => ⟨b4, rfl, fun ow b5 how => ?_⟩⟩⟩))) (fun x => .s (.s (.s (.s .z))))))
  have how := how.mono (m := 8) (Nat.max_le.mpr ⟨by decide, Nat.le_trans hl7.1 (Nat.max_le.mpr ⟨by decide, h8⟩)⟩) (Nat.le_refl _)
  have how100 : GW 100 100 ow := how.mono (by decide) (Nat.le_refl _)
  have ho8 := how.1
  refine nxt (x_seq (x_setV (w_longer (pb := pb) (pc := pc) rfl (ex_v rfl) (ex_v rfl) hk how100 (wv_of (x := (16 : Int)) ex_cI ⟨b5, rfl, by decide, fun lo b6 hlo hlor => ?_⟩)) (fun x => .s (.s (.s (.s (.s .z)))))))
  have hlo := hlo.mono (m := 16) (Nat.max_le.mpr ⟨by decide, by omega⟩) (Nat.le_refl _)
  refine nxt (x_seq (x_parW (wa_v (e := wayD) (w_ordL (pb := pb) (pc := pc) (L2 := fun b' => [b'.at pb pc]) (v := one) rfl (ex_v rfl) (by omega) hg.st (fun b' => .z) fun b7 => wa_v (e := wayD) (w_ordL (pb := pb) (pc := pc) (L2 := fun b' => [b'.at pb pc]) (v := ow) rfl (ex_v rfl) (by omega) how.st (fun b' => .z) fun b8 => wa_nil ⟨_, _, rfl, ?_⟩)))))
  have l16 := hlw.1
  have lo16 := hlo.1
  refine nxt (x_seq (x_par (a := .d (wayD lw)) (b := .d (wayD lo)) (ea_cons (ex_built (ex_v rfl) l16) (ea_cons (ex_built (ex_v rfl) lo16) ea_nil)) ?_))
  have s2 : Fz.SameOk (eL wayD [lw, lo]) := same_ways (n := 16) (c := 100) (fun u hu => by
    simp only [List.mem_cons, List.not_mem_nil, or_false] at hu
    rcases hu with e | e <;> rw [e] <;> assumption) (by show 2 ≤ 20; decide) (by decide) (by decide)
  have pairx : ∀ {ε : Eps} {a c : Nat}, ε[a]? = some (wv lw) → ε[c]? = some (wv lo) → EX B (tLst (tCons (tVar a) (tCons (tVar c) tNil))) ε [b8.at pb pc] (.d (eL wayD [lw, lo])) [b8.at pb pc] := fun h1 h2 => ex_frz (en_lst (ds := [wayD lw, wayD lo]) (ea_cons (ex_v h1) (ea_cons (ex_v h2) ea_nil)) (Nat.le_of_ble_eq_true rfl))
  have sr := hg.red.same (by decide) (by decide)
  have sro := how.red.same (by decide) (by decide)
  have sbl := hlw.back.same (by decide) (by decide)
  have sbr := hg.red.back.same (by decide) (by decide)
  have r1 := red_len one
  have r2 := red_len lo
  have r3 := blen lw
  have r4 := blen (redW one)
  refine nxt (x_seq (x_skip (et_noT (ex_sameT (pairx rfl rfl) (pairx rfl rfl) s2)) ?_))
  refine nxt (x_seq (x_skip (et_orF (et_noT (ex_isred (v := lw) (dw := redW one) (ex_v rfl) (ex_v rfl) hlr.symm (by omega) sr)) (et_noT (ex_isred (v := lo) (dw := redW ow) (ex_v rfl) (ex_v rfl) hlor.symm (by omega) sro))) ?_))
  refine nxt (x_seq (x_skip (et_orF (et_noT (ex_issw (one := one) (other := lw) (ex_v rfl) (ex_v rfl) ex_cB (by rw [hlr]; simp) ⟨by omega, by omega⟩)) (et_noT (ex_issw (one := lw) (other := ow) (ex_v rfl) (ex_v rfl) (ex_eqW (one := redW one) (other := redW ow) (ex_v rfl) (ex_v rfl)) (by rw [hlr]) ⟨by omega, by omega⟩))) ?_))
  refine nxt (x_seq (x_skip (et_orF (et_noT (ex_issw (one := lo) (other := ow) (ex_v rfl) (ex_v rfl) ex_cB (by rw [hlor]; simp) ⟨by omega, by omega⟩)) (et_noT (ex_issw (one := one) (other := lo) (ex_v rfl) (ex_v rfl) (ex_eqW (one := redW one) (other := redW ow) (ex_v rfl) (ex_v rfl)) (by rw [hlor]) ⟨by omega, by omega⟩))) ?_))
  refine nxt (x_seq (x_skip (et_noT (ex_issw (one := lw) (other := redW lo) (ex_v rfl) (ex_red (v := lo) (ex_v rfl) (by omega)) (ex_eqW (one := redW one) (other := redW ow) (ex_v rfl) (ex_v rfl)) (by rw [red_twice, hlr, hlor]) ⟨by omega, by omega⟩)) ?_))
  refine nxt (x_seq (x_skip (et_orF (et_noT (ex_sameT (ex_turn (v := lw) (ex_v rfl) (by omega)) (ex_bk (v := lw) (ex_v rfl) (by omega)) sbl)) (et_noT (ex_isred (v := backW lw) (dw := backW (redW one)) (ex_turn (v := lw) (ex_v rfl) (by omega)) (ex_bk (v := redW one) (ex_v rfl) (by omega)) (by rw [red_back, hlr]) (by omega) sbr))) ?_))
  refine nxt (x_retG q (wv_of (x := true) (ex_issw (one := lw) (other := backW lw) (ex_v rfl) (ex_turn (v := lw) (ex_v rfl) (by omega)) (ex_eqW (one := redW one) (other := backW (redW one)) (ex_v rfl) (ex_bk (v := redW one) (ex_v rfl) (by omega))) (by rw [red_back, hlr]) ⟨by omega, by omega⟩) ⟨rfl, b8, by simp⟩))
end K86

/-! ## G6 -/
set_option Elab.async false
set_option linter.all false
set_option maxRecDepth 100000
set_option maxHeartbeats 4000000
set_option autoImplicit false
namespace K86
open PySem L2 Fz K80 Ways
variable {P : Program} {w : World} {K : PySem.W.Frag} {mg : Str → Option Value} {base : Heap} {f : Addr} {fd : FuncData}
abbrev S_law_are_odd_right (K : PySem.W.Frag) : Sp := spG K (fun v : Way => [wayD v]) (fun v => GW 8 100 v) PyData.bool (fun _ x => x = true)
theorem ex_let {B : Bg} {ε : Eps} {L La : Own} {te : TE} {E : XK} {v : Way} (h : EX B te ε L (.d (wayD v)) La) (hl : v.length ≤ 5000) : EX B (tCall (S_law_is_let B.K) [] E (tCons te tNil)) ε L (.d (.bool (letW v))) La :=
  ex_of (e := PyData.bool) fun κ k => w_callD (wa_x h (wa_nil ⟨v, rfl, hl, fun x hx => hx ▸ k⟩))
theorem wayL_one (v : Way) (x : Int × Int) : wayL (v ++ [x]) = wayL v ++ [stD x] := by unfold wayL; rw [List.map_append]; rfl
theorem okd_law_are_odd_right (Fn : Fun K "_law_are_odd_right" "_law_are_odd_right" s_law_are_odd_right f fd) (T : Bt P mg base) (D_law_pick : Df P w K mg base 42 "_law_pick" ["bag", "some"] (S_law_pick K)) (D_law_orderly : Df P w K mg base 43 "_law_orderly" ["bag", "way"] (S_law_orderly K)) (D_law_stride : Df P w K mg base 43 "_law_stride" ["bag"] (S_law_stride K)) (D_law_is_let : Df P w K mg base 41 "_law_is_let" ["way"] (S_law_is_let K)) (D_law_otherwise : Df P w K mg base 44 "_law_otherwise" ["bag", "k", "way", "kind"] (S_law_otherwise K)) (D_law_draw : Df P w K mg base 41 "_law_draw" ["bag", "below"] (S_law_draw K)) (D_law_is_reduced : GDf P w K mg base 42 "_law_is_reduced" ["way", "due"] (S_law_is_reduced K)) (D_law_is_same_word : GDf P w K mg base 43 "_law_is_same_word" ["one", "other", "due"] (S_law_is_same_word K)) : GOk P w K mg base 45 f fd ["bag", "one"] (S_law_are_odd_right K) := by
  refine g_G Fn sc_law_are_odd_right (by decide) (fun _ => rfl) fun cdv A outer s H hr hG => ⟨_, (pss_cons (ps_asg (pe_callD D_law_pick (hr.mono (by decide)) (by rfl) (pa_cons (pv 0) (pa_cons (pe_lst (pa_cons (pe_tup (pa_cons pe_int (pa_cons pe_int pa_nil))) (pa_cons (pe_tup (pa_cons pe_int (pa_cons pe_int pa_nil))) (pa_cons (pe_tup (pa_cons pe_int (pa_cons pe_int pa_nil))) (pa_cons (pe_tup (pa_cons pe_int (pa_cons pe_int pa_nil))) (pa_cons (pe_tup (pa_cons pe_int (pa_cons pe_int pa_nil))) pa_nil)))))) pa_nil))) (pg_tup rfl (pgs_cons (pg_name (i := 2) sc_law_are_odd_right.nd rfl (Or.inr rfl)) (pgs_cons (pg_name (i := 3) sc_law_are_odd_right.nd rfl (Or.inr rfl)) pgs_nil))))
      (pss_cons (ps_setLc (i := 4) (own := [("place", 13)]) rfl sc_law_are_odd_right.nd rfl rfl (sw_true rfl rfl rfl (by decide +kernel)) (pi_range1 (by rfl) T.n_range (pa_cons (pe_op op_add pe_int (pe_callD D_law_draw (hr.mono (by decide)) (by rfl) (pa_cons (pv 0) (pa_cons pe_int pa_nil)))) pa_nil)) (blkOk_by (own := [("place", 13)]) (N := ["bag", "one", "first", "second", "steps", "way", "last", "some", "own", "left", "kind", "odd", "odd_left", "place"]) (sc := defScope s_law_are_odd_right) (by decide +kernel)) (fun _ _ _ _ _ => (pg_name (i := 13) sc_law_are_odd_right.nd rfl (Or.inl rfl))) (fun _ _ _ _ _ => pts_nil) (fun _ _ _ _ _ => (pe_tup (pa_cons (pe_ifExp (pt_cmpR op_eq (pe_op op_mod (pe_callTy call_int1 (by rfl) T.n_int (by decide +kernel) (pa_cons (pv 13) pa_nil)) pe_int) pe_int (nomark _)) (pv 2) (pv 3)) (pa_cons (pe_callD D_law_stride (hr.mono (by decide)) (by rfl) (pa_cons (pv 0) pa_nil)) pa_nil)))))
      (pss_cons (ps_set (i := 5) sc_law_are_odd_right.nd rfl (.inl rfl) (pe_tupleOf (by rfl) T.n_tuple (pv 4)))
      (pss_cons (ps_set (i := 6) sc_law_are_odd_right.nd rfl (.inl rfl) (pe_ix (r := rIxL K) ix_list (pe_callD D_law_orderly (hr.mono (by decide)) (by rfl) (pa_cons (pv 0) (pa_cons (pv 1) pa_nil))) (pe_un un_neg pe_int) (fun _ _ => rfl)))
      (pss_cons (ps_set (i := 7) sc_law_are_odd_right.nd rfl (.inl rfl) (pe_lst (pa_cons (pe_slice (r := rSlA K) sl_tupA (pv 5) po_none (po_some pe_int)) (pa_cons (pv 5) (pa_cons (pe_ifExp (pt_val (pe_callD D_law_is_let (hr.mono (by decide)) (by rfl) (pa_cons (pv 6) pa_nil))) (pv 6) (pe_slice (r := rSlA K) sl_tupA (pv 5) po_none (po_some pe_int))) pa_nil)))))
      (pss_cons (ps_for PassesOwn.never rfl (pi_list (pv 7)) (pg_name (i := 8) sc_law_are_odd_right.nd rfl (Or.inl rfl)) (pss_cons (ps_set (i := 9) sc_law_are_odd_right.nd rfl (.inl rfl) (pe_ix (r := rIxL K) ix_list (pe_callD D_law_orderly (hr.mono (by decide)) (by rfl) (pa_cons (pv 0) (pa_cons (pv 8) pa_nil))) (pe_un un_neg pe_int) (fun _ _ => rfl)))
      (pss_one (ps_for PassesOwn.never rfl (pi_range1 (by rfl) T.n_range (pa_cons pe_int pa_nil)) (pg_name (i := 10) sc_law_are_odd_right.nd rfl (Or.inl rfl)) (pss_cons (ps_set (i := 11) sc_law_are_odd_right.nd rfl (.inl rfl) (pe_callD D_law_otherwise (hr.mono (by decide)) (by rfl) (pa_cons (pv 0) (pa_cons pe_int (pa_cons (pv 8) (pa_cons (pv 10) pa_nil))))))
      (pss_cons (ps_set (i := 12) sc_law_are_odd_right.nd rfl (.inl rfl) (pe_ix (r := rIxL K) ix_list (pe_callD D_law_orderly (hr.mono (by decide)) (by rfl) (pa_cons (pv 0) (pa_cons (pv 11) pa_nil))) (pe_un un_neg pe_int) (fun _ _ => rfl)))
      (pss_one (ps_if (PW.pt (pw_or (pt_not (pt_val (pe_callG hG D_law_is_reduced (hr.mono (by decide)) (by rfl) (pa_cons (pv 11) (pa_cons (pv 12) pa_nil))))) (pw_or1 (pt_not (pt_val (pe_callG hG D_law_is_same_word (hr.mono (by decide)) (by rfl) (pa_cons (pv 8) (pa_cons (pv 11) (pa_cons (pe_cmpR (r := rEqD K) (op_eqD hr.units) (pv 9) (pv 12) (nomark _)) pa_nil))))))))) (pss_one (ps_ret pe_bl)) pss_nil))))))))
      (pss_one (ps_ret pe_bl)))))))), ?_⟩
  rintro B Q pb pc b one rfl hg q
  show Ho B _ [bagv pb, wv one, none, none, none, none, none, none, none, none, none, none, none, none] [b.at pb pc]
  have h8 := hg.1
  have pr : ∀ {a c : Int} {ε : Eps}, EX B (tTup (tCons (tC (.int a)) (tCons (tC (.int c)) tNil))) ε [b.at pb pc] (.d (stD (a, c))) [b.at pb pc] := fun {a c ε} => ex_tup (ds := [.int a, .int c]) (ea_cons ex_cI (ea_cons ex_cI ea_nil)) (Nat.le_of_ble_eq_true rfl)
  refine x_seq (x_asgW (wx_v (e := stD) (w_pck (pb := pb) (pc := pc) (e := stD) (xs := [(0, 1), (1, 0), (0, 3), (2, 1), (3, 2)]) rfl (ex_frz (en_lst (ds := [stD (0, 1), stD (1, 0), stD (0, 3), stD (2, 1), stD (3, 2)]) (ea_cons pr (ea_cons pr (ea_cons pr (ea_cons pr (ea_cons pr ea_nil))))) (Nat.le_of_ble_eq_true rfl))) (fun b' => .z) (by decide) (by decide) fun x b1 hx => ⟨_, gt_tup2 (d := .int x.1) (e := .int x.2), ?_⟩)))
  have hx4 : (0 ≤ x.1 ∧ x.1 < 4) ∧ 0 ≤ x.2 ∧ x.2 < 4 := by
    simp only [List.mem_cons, List.not_mem_nil, or_false] at hx
    rcases hx with e | e | e | e | e <;> rw [e] <;> decide
  obtain ⟨x1, x2⟩ := x
  dsimp only at hx4
  refine nxt (x_seq (x_setO (wr_lcR1W (wa_v (e := PyData.int) (w_add (wv_of (x := 2) ex_cI (w_drw (pb := pb) (pc := pc) rfl ex_cI (fun b' => .z) (by decide) fun n b2 hn0 hn1 => wa_nil ⟨2 + n, rfl, by omega, fun i acc L => ∃ (u : Way) (b : Bag), acc = wayL u ∧ u.length = i ∧ GW i 100 u ∧ L = [b.at pb pc], ⟨[], b2, rfl, rfl, gw_nil, rfl⟩, by simp, fun i hi => ?_, fun p acc L' hp ⟨u, b3, ea, hul, hug, eL⟩ => ?_⟩))))) (fun p => .s (.s (.s (.s .z))))))
  · rintro acc L' ⟨u, b3, rfl, hul, hug, rfl⟩
    refine ⟨by rw [wayL_len]; omega, _, gt_name, fun m => wt_of et_yes ⟨fun _ => ?_, fun h => nomatch h⟩⟩
    refine wv_as (e := eP PyData.int PyData.int) (w_pair (e := PyData.int) (f := PyData.int) (w_if (wt_of (et_test (ex_eqI (ex_mod (ex_int1 (ex_v rfl)) ex_cI (by decide)) ex_cI)) ⟨fun _ => wv_of (x := x1) (ex_v rfl) ?_, fun _ => wv_of (x := x2) (ex_v rfl) ?_⟩)))
    · refine w_stride (pb := pb) (pc := pc) (L2 := fun b' => [b'.at pb pc, m]) rfl (fun b' => .z) fun s b4 h4 h5 => ⟨_, rfl, [b4.at pb pc], rfl, u ++ [(x1, s)], b4, (wayL_one u (x1, s)).symm, by rw [List.length_append, hul]; rfl, hug.app (gw_one ⟨hx4.1.1, hx4.1.2, h5, h4⟩), rfl⟩
    · refine w_stride (pb := pb) (pc := pc) (L2 := fun b' => [b'.at pb pc, m]) rfl (fun b' => .z) fun s b4 h4 h5 => ⟨_, rfl, [b4.at pb pc], rfl, u ++ [(x2, s)], b4, (wayL_one u (x2, s)).symm, by rw [List.length_append, hul]; rfl, hug.app (gw_one ⟨hx4.2.1, hx4.2.2, h5, h4⟩), rfl⟩
  subst ea eL
  have hu8 : GW 8 100 u := hug.mono (by omega) (Nat.le_refl _)
  refine nxt (x_seq (x_set (a := .d (wayD u)) (ex_tupL (ds := wayL u) (ex_v rfl) (.o (k := 0) rfl)) ?_))
  refine nxt (x_seq (x_setV (w_ordL (pb := pb) (pc := pc) (L2 := fun b' => [.lst p (wayL u), b'.at pb pc]) (v := one) rfl (ex_v rfl) (by omega) hg.st (fun b' => .s .z) fun b4 => ?_) (fun x => .s (.s (.s (.s (.s (.s .z))))))))
  have rl := red_len one
  obtain ⟨t3, ht3⟩ : ∃ t3, t3 = if letW (redW one) = true then redW one else u.take 4 := ⟨_, rfl⟩
  have g3 : GW 8 100 t3 := by
    rw [ht3]
    split
    · rename_i h
      exact let_gw h hg.red.st
    · exact hu8.take 4
  refine nxt (x_seq (x_set (L1 := [.lst p (wayL u), b4.at pb pc]) (a := .d (eL wayD [u.take 2, u, t3])) (ex_frz (en_lst (ds := [wayD (u.take 2), wayD u, wayD t3]) (ea_cons (ex_take (e := stD) (xs := u) (i := 2) (ex_v rfl) ex_cI (by decide)) (ea_cons (ex_v rfl) (ea_cons (ex_if (et_B (ex_let (v := redW one) (ex_v rfl) (by omega))) (fun hb => ?_) (fun hb => ?_)) ea_nil))) (Nat.le_of_ble_eq_true rfl))) ?_))
  · rw [ht3, if_pos hb]; exact ex_v rfl
  · rw [ht3, if_neg (by rw [hb]; decide)]
    exact ex_take (e := stD) (xs := u) (i := 4) (ex_v rfl) ex_cI (by decide)
  refine nxt (ho_off hp ?_)
  have hws : ∀ z ∈ [u.take 2, u, t3], GW 8 100 z := fun z hz => by
    simp only [List.mem_cons, List.not_mem_nil, or_false] at hz
    rcases hz with e | e | e
    · rw [e]; exact hu8.take 2
    · rw [e]; exact hu8
    · rw [e]; exact g3
  generalize [u.take 2, u, t3] = ws at *
  refine x_seq (x_forLe (La := [b4.at pb pc]) (e := wayD) (xs := ws) (ex_v rfl) (fun v i ε L => ∃ b : Bag, ε = [bagv pb, wv one, iv x1, iv x2, bagv p, wv u, wv (redW one), dv (eL wayD ws), none, none, none, none, none, none] ∧ L = [b.at pb pc, .know v (eL wayD ws)]) (fun v => ⟨b4, rfl, rfl⟩) (fun v i ε' L' ⟨_, _, h⟩ => by rw [h]; simp) ?_ ?_)
  · rintro v i own ε' L' hi ⟨b5, rfl, rfl⟩
    have ho := hws own (List.mem_of_getElem? hi)
    have ho8 := ho.1
    refine ⟨_, gt_name, ?_⟩
    refine x_seq (x_setV (w_ordL (pb := pb) (pc := pc) (L2 := fun b' => [b'.at pb pc, .know v (eL wayD ws)]) (v := own) rfl (ex_v rfl) (by omega) ho.st (fun b' => .z) fun b6 => ?_) (fun x => .s (.s (.s (.s (.s (.s (.s (.s (.s .z))))))))))
    refine nxt (x_forR1 (n := 6) (ea_cons ex_cI ea_nil) (by decide) (fun i ε L => ∃ b : Bag, ε = [bagv pb, wv one, iv x1, iv x2, bagv p, wv u, wv (redW one), dv (eL wayD ws), wv own, wv (redW own), none, none, none, none] ∧ L = [b.at pb pc, .know v (eL wayD ws)]) ⟨b6, rfl, rfl⟩ ?_ ?_)
    · rintro j ε' L' hj ⟨b7, rfl, rfl⟩
      refine x_seq (x_setV (w_other (pb := pb) (pc := pc) (R := [.know v (eL wayD ws)]) rfl ex_cI (by decide) (wv_of (x := own) (ex_v rfl) ⟨ho.mono (by decide) (Nat.le_refl _), wv_of (x := (j : Int)) (ex_v rfl) ⟨b7, rfl, fun od b8 hod => ?_⟩⟩)) (fun x => .s (.s (.s (.s (.s (.s (.s (.s (.s (.s (.s .z))))))))))))
      have hod := hod.mono (m := 8) (Nat.max_le.mpr ⟨by decide, ho8⟩) (Nat.le_refl _)
      have hod8 := hod.1
      refine nxt (x_seq (x_setV (w_ordL (pb := pb) (pc := pc) (L2 := fun b' => [b'.at pb pc, .know v (eL wayD ws)]) (v := od) rfl (ex_v rfl) (by omega) hod.st (fun b' => .z) fun b9 => ?_) (fun x => .s (.s (.s (.s (.s (.s (.s (.s (.s (.s (.s (.s .z))))))))))))))
      exact nxt (x_skip (et_orF (et_noT (ex_isred (v := od) (dw := redW od) (ex_v rfl) (ex_v rfl) rfl (by omega) (hod.red.same (by decide) (by decide)))) (et_noT (ex_issw (one := own) (other := od) (ex_v rfl) (ex_v rfl) (ex_eqW (one := redW own) (other := redW od) (ex_v rfl) (ex_v rfl)) rfl ⟨by omega, by omega⟩))) (nxt (x_end ⟨b9, rfl, rfl⟩)))
    · rintro ε' L' ⟨b7, rfl, rfl⟩
      exact nxt (x_end ⟨b7, rfl, rfl⟩)
  · rintro v ε' L' ⟨b5, rfl, rfl⟩
    exact nxt (x_retG q (wv_of (x := true) ex_cB ⟨rfl, b5, by simp⟩))
end K86

/-! ## G7 -/
set_option Elab.async false
set_option linter.all false
set_option maxRecDepth 100000
set_option maxHeartbeats 4000000
set_option autoImplicit false
namespace K86
open PySem L2 Fz K80 Ways
variable {P : Program} {w : World} {K : PySem.W.Frag} {mg : Str → Option Value} {base : Heap} {f : Addr} {fd : FuncData}
abbrev S_law_least (K : PySem.W.Frag) : Sp := spR K R_frac
abbrev S_law_factorial (K : PySem.W.Frag) : Sp := spR K R_fact
theorem okd_law_least (Fn : Fun K "_law_least" "_law_least" s_law_least f fd) (T : Bt P mg base) : FnOk P w K mg base CX0 41 f fd ["upper", "lower"] (S_law_least K) := ok_law_least Fn T
theorem okd_law_factorial (Fn : Fun K "_law_factorial" "_law_factorial" s_law_factorial f fd) (T : Bt P mg base) : FnOk P w K mg base CX0 41 f fd ["many"] (S_law_factorial K) := ok_law_factorial Fn T
theorem nice_fr {t b : Int} (h1 : Bd 1920 t) (h2 : Bd 1920 b) : Nice 1 2 (frD t b) := nice_ints (l := [t / (Int.gcd t b : Int), b / (Int.gcd t b : Int)]) (fun x hx => by
  simp only [List.mem_cons, List.not_mem_nil, or_false] at hx
  rcases hx with e | e
  · rw [e]; exact h1.div
  · rw [e]; exact h2.div) (Nat.le_refl _)
theorem ws_nice {v : Way} {word : List Int} (ht : Ways.tot v ≤ 2 ^ 30) (hw : word.length ≤ 17) : Nice 1 2 (wsD (v, word)) := by
  refine nice_fr ?_ ((fac_bd' (n := word.length) (by omega)).mono (by decide))
  have h1 := rowF_le word v word.length
  have h2 : Ways.tot v ^ word.length ≤ (2 ^ 30) ^ word.length := Nat.pow_le_pow_left ht _
  have h3 : (2 ^ 30) ^ word.length ≤ (2 ^ 30) ^ 17 := Nat.pow_le_pow_right (by decide) hw
  have h4 : (2 ^ 30) ^ 17 < 2 ^ 1920 := by rw [← Nat.pow_mul]; exact Nat.pow_lt_pow_right (by decide) (by decide)
  unfold Bd
  show (rowF word v word.length).natAbs < 2 ^ 1920
  omega
theorem GW.ws {n c : Nat} {v : Way} (h : GW n c v) (hn : n ≤ 100) (hc : c ≤ 2 ^ 30) {word : List Int} (hw : word.length ≤ 40) : WsOk (v, word) := by
  refine ⟨hw, Nat.le_trans h.1 (by omega), ?_⟩
  have h1 := h.tot
  have h2 : n * c ≤ 100 * 2 ^ 30 := Nat.mul_le_mul hn hc
  show Ways.tot v < 2 ^ 50
  have : (100 * 2 ^ 30 : Nat) < 2 ^ 50 := by decide
  omega
section
variable {B : Bg} {ε : Eps} {L La Lb : Own} {ta tb : TE} {E : XK} {v : Way} {word : List Int}
theorem ex_wsum (h : EX B ta ε L (.d (wayD v)) La) (h2 : EX B tb ε La (.d (ti word)) Lb) (hl : WsOk (v, word)) : EX B (tCall (S_way_sum B.K) [] E (tCons ta (tCons tb tNil))) ε L (.d (wsD (v, word))) Lb :=
  ex_of (e := eD) fun κ k => w_callD (wa_x h (wa_x h2 (wa_nil ⟨(v, word), rfl, hl, fun x hx => hx ▸ k⟩)))
theorem ex_wsumK (h : EX B ta ε L (.d (wayD v)) La) (h2 : EX B tb ε La (.d (ti word)) Lb) (hl : WsOk (v, word)) : EX B (tCallK (S_way_sum B.K) (kwG 2 [0, 1]) E tNil (tCons ta (tCons tb tNil))) ε L (.d (wsD (v, word))) Lb :=
  ex_of (e := eD) fun κ k => w_callKD (wa_x h (wa_x h2 (wa_nil ⟨(v, word), (fun K F zs hz => kwX hz), hl, fun x hx => hx ▸ k⟩)))
theorem ex_row (h : EX B ta ε L (.d (wayD v)) La) (h2 : EX B tb ε La (.d (ti word)) Lb) (hl : WsOk (v, word)) : EX B (tCall (S_law_row B.K) [] E (tCons ta (tCons tb tNil))) ε L (.d (li (rowL (rowF word v) (word.length + 1)))) Lb :=
  ex_of (e := li) fun κ k => w_callD (wa_x h (wa_x h2 (wa_nil ⟨(v, word), rfl, hl, fun x hx => hx ▸ k⟩)))
end
abbrev S_law_are_sums_kept (K : PySem.W.Frag) : Sp := spG K (fun y : Int × Way => [.int y.1, wayD y.2]) (fun y => (1 ≤ y.1 ∧ y.1 ≤ 4) ∧ GW 8 100 y.2) PyData.bool (fun _ x => x = true)
theorem okd_law_are_sums_kept (Fn : Fun K "_law_are_sums_kept" "_law_are_sums_kept" s_law_are_sums_kept f fd) (T : Bt P mg base) (D_reduced_way : Df P w K mg base 41 "reduced_way" ["way"] (S_reduced_way K)) (D_law_least : Df P w K mg base 41 "_law_least" ["upper", "lower"] (S_law_least K)) (D_law_orderly : Df P w K mg base 43 "_law_orderly" ["bag", "way"] (S_law_orderly K)) (D_law_factorial : Df P w K mg base 41 "_law_factorial" ["many"] (S_law_factorial K)) (D_law_draw : Df P w K mg base 41 "_law_draw" ["bag", "below"] (S_law_draw K)) (D_law_row : Df P w K mg base 41 "_law_row" ["way", "word"] (S_law_row K)) (D_law_same : GDf P w K mg base 41 "_law_same" ["told", "due"] (S_law_same K)) (D_way_sum : Df P w K mg base 44 "way_sum" ["way", "word"] (S_way_sum K)) (DK_way_sum_way_word : DfK P w K mg base 44 "way_sum" ["way", "word"] ["way", "word"] (kwG 2 [0, 1]) (kwG 2 [0, 1]) (S_way_sum K)) : GOk P w K mg base 45 f fd ["bag", "k", "way"] (S_law_are_sums_kept K) := by
  refine g_G Fn sc_law_are_sums_kept (by decide) (fun _ => rfl) fun cdv A outer s H hr hG => ⟨_, (pss_cons (ps_par (i := 3) (j := 4) (by rfl) sc_law_are_sums_kept.nd rfl rfl (by decide) rfl rfl (pa_cons (pe_ix (r := rIxL K) ix_list (pe_callD D_law_orderly (hr.mono (by decide)) (by rfl) (pa_cons (pv 0) (pa_cons (pv 2) pa_nil))) (pe_un un_neg pe_int) (fun _ _ => rfl)) (pa_cons (pe_lst pa_nil) pa_nil)) (by rfl))
      (pss_cons (ps_for PassesOwn.never rfl (pi_tup (pv 3)) (pg_tup rfl (pgs_cons (pg_name (i := 5) sc_law_are_sums_kept.nd rfl (Or.inl rfl)) (pgs_cons (pg_name (i := 6) sc_law_are_sums_kept.nd rfl (Or.inl rfl)) pgs_nil))) (pss_one (ps_expr (pe_bm PySem.F.plainAttrs_list PySem.F.slot_list_extend PySem.F.type_list_extend mt_extend (pv 4) (pa_cons (pe_op op_rep (pe_lst (pa_cons (pv 5) pa_nil)) (pe_callD D_law_draw (hr.mono (by decide)) (by rfl) (pa_cons (pv 0) (pa_cons pe_int pa_nil)))) pa_nil)))))
      (pss_cons (ps_set (i := 7) sc_law_are_sums_kept.nd rfl (.inl rfl) (pe_lst (pa_cons (pe_tupleOf (by rfl) T.n_tuple (pe_slice (r := rSlL K) sl_list (pv 4) po_none (po_some pe_int))) (pa_cons (pe_tupleOf (by rfl) T.n_tuple (pe_lc (own := [("place", 11)]) rfl sc_law_are_sums_kept.nd (pi_range1 (by rfl) T.n_range (pa_cons (pe_callD D_law_draw (hr.mono (by decide)) (by rfl) (pa_cons (pv 0) (pa_cons pe_int pa_nil))) pa_nil)) (blkOk_by (own := [("place", 11)]) (N := ["bag", "k", "way", "left", "word", "letter", "stride", "some", "told", "own", "due", "place"]) (sc := defScope s_law_are_sums_kept) (by decide +kernel)) (fun _ _ _ _ _ => (pg_name (i := 11) sc_law_are_sums_kept.nd rfl (Or.inl rfl))) (fun _ _ _ _ _ => pts_nil) (fun _ _ _ _ _ => (pe_callD D_law_draw (hr.mono (by decide)) (by rfl) (pa_cons (pv 0) (pa_cons (pv 1) pa_nil)))))) pa_nil))))
      (pss_cons (ps_set (i := 8) sc_law_are_sums_kept.nd rfl (.inl rfl) (pe_callD D_reduced_way (hr.mono (by decide)) (by rfl) (pa_cons (pv 2) pa_nil)))
      (pss_cons (ps_for PassesOwn.never rfl (pi_list (pv 7)) (pg_name (i := 9) sc_law_are_sums_kept.nd rfl (Or.inl rfl)) (pss_cons (ps_set (i := 10) sc_law_are_sums_kept.nd rfl (.inl rfl) (pe_callD D_law_least (hr.mono (by decide)) (by rfl) (pa_cons (pe_ix (r := rIxL K) ix_list (pe_callD D_law_row (hr.mono (by decide)) (by rfl) (pa_cons (pv 2) (pa_cons (pv 9) pa_nil))) (pe_un un_neg pe_int) (fun _ _ => rfl)) (pa_cons (pe_callD D_law_factorial (hr.mono (by decide)) (by rfl) (pa_cons (pe_callB (r := Evl.rLenS K) call_len_seq (by rfl) T.n_len (by decide +kernel) (pa_cons (pv 9) pa_nil)) pa_nil)) pa_nil))))
      (pss_one (ps_if (PW.pt (pw_or (pt_not (pt_val (pe_callG hG D_law_same (hr.mono (by decide)) (by rfl) (pa_cons (pe_callD D_way_sum (hr.mono (by decide)) (by rfl) (pa_cons (pv 8) (pa_cons (pv 9) pa_nil))) (pa_cons (pv 10) pa_nil))))) (pw_or1 (pt_not (pt_val (pe_callG hG D_law_same (hr.mono (by decide)) (by rfl) (pa_cons (pe_callKD DK_way_sum_way_word (hr.mono (by decide)) (by rfl) (pk_cons (pv 2) (pk_cons (pv 9) pk_nil))) (pa_cons (pv 10) pa_nil)))))))) (pss_one (ps_ret pe_bl)) pss_nil))))
      (pss_one (ps_ret pe_bl))))))), ?_⟩
  rintro B Q pb pc b ⟨k, v⟩ rfl ⟨hk, hg⟩ q
  dsimp only at hk hg q
  show Ho B _ [bagv pb, iv k, wv v, none, none, none, none, none, none, none, none, none] [b.at pb pc]
  have h8 := hg.1
  have gr : GW 8 800 (redW v) := hg.red
  have r8 := gr.1
  refine x_seq (x_parW (wa_v (e := wayD) (w_ordL (pb := pb) (pc := pc) (L2 := fun b' => [b'.at pb pc]) (v := v) rfl (ex_v rfl) (by omega) hg.st (fun b' => .z) fun b1 => wa_cons (wx_r (wr_of (ds := []) (en_lst ea_nil (Nat.zero_le _)) fun p hp => wa_nil ⟨_, _, rfl, ?_⟩)))))
  refine nxt (x_seq (x_forTe (La := [.lst p [], b1.at pb pc]) (e := stD) (xs := redW v) (ex_v rfl) (fun u i ε L => ∃ (ws : List Int) (b : Bag), ws.length ≤ 4 * i ∧ ε = [bagv pb, iv k, wv v, wv (redW v), bagv p, none, none, none, none, none, none, none] ∧ L = [.lst p (ws.map PyData.int), b.at pb pc, .know u (wayD (redW v))]) (fun u => ⟨[], b1, Nat.zero_le _, rfl, rfl⟩) (fun u i ε' L' ⟨_, _, _, _, h⟩ => by rw [h]; simp [wayD_eT]; exact .inr rfl) ?_ ?_))
  · rintro u i x ε' L' hi ⟨ws, b2, hw, rfl, rfl⟩
    have hil : i < (redW v).length := (List.getElem?_eq_some_iff.mp hi).1
    refine ⟨_, gt_tup2 (d := .int x.1) (e := .int x.2), ?_⟩
    refine x_extW (ex_v rfl) ⟨_, _, .z⟩ (wv_as (e := eL PyData.int) (w_repF (wv_of (x := [x.1]) (ex_frz (en_lst (ds := [.int x.1]) (ea_cons (ex_v rfl) ea_nil) (Nat.le_of_ble_eq_true rfl))) (w_drw (pb := pb) (pc := pc) rfl ex_cI (fun b' => .s .z) (by decide) fun n b3 h0 h1 => ⟨⟨h0, by omega, by show 1 * n.toNat ≤ 100000; omega⟩, _, rfl, (List.replicate n.toNat [x.1]).flatten.map PyData.int, _, _, rfl, .z, ?_, ?_⟩))))
    · rw [List.length_map, List.length_map, List.length_flatten, List.map_replicate, List.sum_replicate_nat]
      show ws.length + n.toNat * 1 ≤ 100000
      omega
    · refine nxt (x_end ⟨ws ++ (List.replicate n.toNat [x.1]).flatten, b3, ?_, rfl, by rw [List.map_append]⟩)
      rw [List.length_append, List.length_flatten, List.map_replicate, List.sum_replicate_nat]
      show ws.length + n.toNat * 1 ≤ 4 * (i + 1)
      omega
  · rintro u ε' L' ⟨ws, b2, hw, rfl, rfl⟩
    refine nxt (ho_drop (k := 2) ?_ rfl (fun p hp => nomatch hp))
    show Ho B _ [bagv pb, iv k, wv v, wv (redW v), bagv p, none, none, none, none, none, none, none] [.lst p (ws.map PyData.int), b2.at pb pc]
    refine x_seq (x_setV (w_dispL (e := ti) (wa_x (La := [.lst p (ws.map PyData.int), b2.at pb pc]) (a := .d (ti (ws.take 10))) (ex_tupL (ds := (ws.take 10).map PyData.int) (ex_frz (en_take (e := PyData.int) (xs := ws) (i := 10) (ex_v rfl) ex_cI (.o (k := 0) rfl) (by decide))) .d) (wa_v (e := ti) (w_tupL (e := PyData.int) (w_frz (wr_lcR1W (wa_v (e := PyData.int) (w_drw (pb := pb) (pc := pc) rfl ex_cI (fun b' => .s .z) (by decide) fun n b3 h0 h1 => wa_nil ⟨n, rfl, by omega, fun i acc L => ∃ (z : List Int) (b : Bag), acc = z.map PyData.int ∧ z.length = i ∧ L = [.lst p (ws.map PyData.int), b.at pb pc], ⟨[], b3, rfl, rfl, rfl⟩, by simp, fun i hi => ?_, fun p2 acc L' hp2 ⟨z, b4, ea, hz, eL⟩ => ?_⟩)))))))) (fun x => .s (.s (.s (.s (.s (.s (.s .z))))))))
    · rintro acc L' ⟨z, b4, rfl, hz, rfl⟩
      refine ⟨by rw [List.length_map]; omega, _, gt_name, fun m => wt_of et_yes ⟨fun _ => ?_, fun h => nomatch h⟩⟩
      exact wv_as (e := PyData.int) (w_drw (pb := pb) (pc := pc) (L2 := fun b' => [.lst p (ws.map PyData.int), b'.at pb pc, m]) rfl (ex_v rfl) (fun b' => .s .z) (by omega) fun s b5 h4 h5 => ⟨_, rfl, [.lst p (ws.map PyData.int), b5.at pb pc], rfl, z ++ [s], b5, by rw [List.map_append]; rfl, by rw [List.length_append, hz]; rfl, rfl⟩)
    · subst ea eL
      refine ⟨_, _, z, hp2, rfl, rfl, wa_nil ⟨[ws.take 10, z], rfl, by show 2 ≤ 100000; decide, ?_⟩⟩
      have hws : ∀ y ∈ [ws.take 10, z], y.length ≤ 10 := fun y hy => by
        simp only [List.mem_cons, List.not_mem_nil, or_false] at hy
        rcases hy with e | e
        · rw [e, List.length_take]; omega
        · rw [e]; omega
      generalize [ws.take 10, z] = ys at *
      refine nxt (ho_off hp ?_)
      refine x_seq (x_set (ex_red (v := v) (ex_v rfl) (by omega)) ?_)
      refine nxt (x_seq (x_forLe (La := [b4.at pb pc]) (e := ti) (xs := ys) (ex_v rfl) (fun u i ε L => ε = [bagv pb, iv k, wv v, wv (redW v), bagv p, none, none, dv (eL ti ys), wv (redW v), none, none, none] ∧ L = [b4.at pb pc, .know u (eL ti ys)]) (fun u => ⟨rfl, rfl⟩) (fun u i ε' L' ⟨_, h⟩ => by rw [h]; simp) ?_ ?_))
      · rintro u i own ε' L' hi ⟨rfl, rfl⟩
        have ho := hws own (List.mem_of_getElem? hi)
        refine ⟨_, gt_name, ?_⟩
        have w1 : WsOk (v, own) := hg.ws (by decide) (by decide) (by omega)
        have w2 : WsOk (redW v, own) := gr.ws (by decide) (by decide) (by omega)
        have sm : Fz.SameOk (wsD (v, own)) := (ws_nice (Nat.le_trans hg.tot (by decide)) (by omega)).same (by decide) (by decide)
        have el : rowL (rowF own v) (own.length + 1) = rowL (rowF own v) own.length ++ [rowF own v own.length] := by unfold rowL; rw [List.range_succ, List.map_append]; rfl
        refine x_seq (x_set (a := .d (wsD (v, own))) (ex_call (ds := [.int (rowF own v own.length), .int (fac own.length : Int)]) (ea_cons (ex_ixL (ds := (rowL (rowF own v) (own.length + 1)).map PyData.int) (ex_row (ex_v rfl) (ex_v rfl) w1) (ex_neg ex_cI) .d (by rw [el, List.map_append]; exact atI_last _ _)) (ea_cons (ex_call (ds := [.int (own.length : Int)]) (ea_cons (ex_len (e := PyData.int) (xs := own) (ex_v rfl)) ea_nil) ⟨own.length, rfl, by omega, rfl⟩) ea_nil)) ⟨_, _, rfl, by have := fac_pos own.length; omega, rfl⟩) ?_)
        have e1 : wsD (redW v, own) = wsD (v, own) := by unfold wsD; dsimp only; rw [row_red]
        exact nxt (x_skip (et_orF (et_noT (ex_sameT (ex_is (ex_wsum (v := redW v) (word := own) (ex_v rfl) (ex_v rfl) w2) (by rw [e1])) (ex_v rfl) sm)) (et_noT (ex_sameT (ex_wsumK (v := v) (word := own) (ex_v rfl) (ex_v rfl) w1) (ex_v rfl) sm))) (nxt (x_end ⟨rfl, rfl⟩)))
      · rintro u ε' L' ⟨rfl, rfl⟩
        exact nxt (x_retG q (wv_of (x := true) ex_cB ⟨rfl, b4, by simp⟩))
end K86

/-! ## G8 -/
set_option Elab.async false
set_option linter.all false
set_option maxRecDepth 100000
set_option maxHeartbeats 4000000
set_option autoImplicit false
namespace K86
open PySem L2 Fz K80 Ways
variable {P : Program} {w : World} {K : PySem.W.Frag} {mg : Str → Option Value} {base : Heap} {f : Addr} {fd : FuncData}
/-! ### joins that are refused -/
abbrev SX_joined_ways (K : PySem.W.Frag) (ca : CA) : Sp := spDX K (fun y : Way × Way => [wayD y.1, wayD y.2]) (fun y => y.1.length ≤ 5000 ∧ y.2.length ≤ 5000) wayD (fun y x => y.1.length + y.2.length ≤ 16 ∧ x = y.1 ++ y.2) (fun y x => 16 < y.1.length + y.2.length ∧ x = .own ca.TooMany "limit" (.int 16))
theorem okx_joined_ways (Fn : Fun K "joined_ways" "joined_ways" s_joined_ways f fd) (T : Bt P mg base) {ca : CA} (V : Cs P K mg ca)  : FnOk P w K mg base (L2.CX P w) 41 f fd ["one", "other"] (SX_joined_ways K ca) := by
  refine fn_DX Fn sc_joined_ways (by decide) (fun _ => rfl) fun cdv A outer s H E hr => ⟨_, (pss_cons (ps_if (pt_cmpR op_gt (pe_op op_add (pe_callB (r := Evl.rLenS K) call_len_seq (by rfl) T.n_len (by decide +kernel) (pa_cons (pv 0) pa_nil)) (pe_callB (r := Evl.rLenS K) call_len_seq (by rfl) T.n_len (by decide +kernel) (pa_cons (pv 1) pa_nil))) (pe_glob (v := .int 16) rfl T.c_MAX_GREAT_WAY.choose_spec ⟨_, rfl⟩) (nomark _)) (pss_one (ps_raiseOwn Own.bind_limit rfl V.t_TooMany hr (takes_of rfl rfl rfl rfl) (by exact (pa_cons (pe_glob (v := .int 16) rfl T.c_MAX_GREAT_WAY.choose_spec ⟨_, rfl⟩) pa_nil)) (by rfl) (by decide))) pss_nil)
      (pss_one (ps_ret (pe_op (r := rCatA K) op_catA (pv 0) (pv 1))))), ?_⟩
  rintro B Q ⟨a, b⟩ rfl ⟨h1, h2⟩ q qx
  dsimp only at h1 h2 q qx
  show Ho B _ [wv a, wv b] []
  refine x_seq (x_if (b := decide ((16 : Int) < (a.length : Int) + (b.length : Int))) (et_test (ex_gt (ex_add (ex_lenW (ex_v rfl) rfl) (ex_lenW (ex_v rfl) rfl)) ex_cI)) (fun hb => ?_) (fun hb => ?_))
  · have := of_decide_eq_true hb
    exact x_raiseOwn qx ex_cI ⟨by omega, rfl⟩
  · have := of_decide_eq_false hb
    exact x_next (nxt (x_retD q (wv_of (ex_catW (ex_v rfl) (ex_v rfl) (by omega)) ⟨by omega, rfl⟩)))
abbrev S_law_is_join (K : PySem.W.Frag) : Sp := spD K (fun y : Way × Way => [wayD y.1, wayD y.2]) (fun y => GW 16 (2 ^ 20) y.1 ∧ GW 16 (2 ^ 20) y.2) PyData.bool (fun _ x => x = true)
def manyD : PyData := .list [.str (PySem.Str.ofString "many"), .int 16]
theorem same_many : Fz.SameOk (.list [manyD, manyD]) := (⟨by decide +kernel, by decide +kernel, by decide +kernel, by decide +kernel, by decide +kernel, by decide +kernel⟩ : Nice 10 100 (.list [manyD, manyD])).same (by decide) (by decide)
theorem en_var {B : Bg} {ε : Eps} {L : Own} {i : Nat} {p : Addr} {ds : List PyData} (hs : ε[i]? = some (some (.v (.ref p)))) (hp : p ∉ B.M) : EN B (tVar i) ε (.lst p ds :: L) ds L := fun F σ H r Q q => by
  obtain ⟨s, h1, y, rfl, h2⟩ := r.sl i _ hs
  have e : y = .ref p := h2
  subst e
  exact ⟨_, h1, q p F H (Sub.rfl' F) hp r⟩
theorem ho_cutE {B : Bg} {ε : Eps} {L : Own} {D : Ends} {i : Nat} (h : Ho B D.nx (ε.set i none) L) : Ho B (cutE D i).nx ε L := ho_cut h
/-- what comes of a join -/
def joinD (one other : Way) : PyData := if one.length + other.length ≤ 16 then wayD (one ++ other) else manyD
def flagD (one other : Way) (i : Nat) : Bool := decide (16 < one.length + other.length) && decide (0 < i)
theorem kit_none {ca : CA} (V : Cs P K mg ca) : PySem.W.kitAny K (.ref ca.TooMany) ([ca.Unfit, ca.BadText, ca.BadSum, ca.BadLog, ca.Refused, ca.NothingToUndo, ca.NothingToRedo, ca.NoName, ca.NoVersion].map Value.ref) = some false :=
  kitAny_cons V.k_TooMany_Unfit (fun _ => kitAny_cons V.k_TooMany_BadText (fun _ => kitAny_cons V.k_TooMany_BadSum (fun _ => kitAny_cons V.k_TooMany_BadLog (fun _ => kitAny_cons V.k_TooMany_Refused (fun _ => kitAny_cons V.k_TooMany_NothingToUndo (fun _ => kitAny_cons V.k_TooMany_NothingToRedo (fun _ => kitAny_cons V.k_TooMany_NoName (fun _ => kitAny_cons V.k_TooMany_NoVersion (fun _ => kitAny_nil) (fun h => nomatch h)) (fun h => nomatch h)) (fun h => nomatch h)) (fun h => nomatch h)) (fun h => nomatch h)) (fun h => nomatch h)) (fun h => nomatch h)) (fun h => nomatch h)) (fun h => nomatch h)
theorem okd_law_is_join (Fn : Fun K "_law_is_join" "_law_is_join" s_law_is_join f fd) (T : Bt P mg base) {ca : CA} (V : Cs P K mg ca) (D_law_same : GDf P w K mg base 41 "_law_same" ["told", "due"] (S_law_same K)) (DX_joined_ways : DfX P w K mg base 41 "joined_ways" ["one", "other"] (SX_joined_ways K ca)) (DXK_joined_ways_one_other : DfXK P w K mg base 41 "joined_ways" ["one", "other"] ["one", "other"] (kwG 2 [0, 1]) (kwG 2 [0, 1]) (SX_joined_ways K ca)) : GOk P w K mg base 42 f fd ["one", "other"] (S_law_is_join K) := by
  refine g_D Fn sc_law_is_join (by decide) (fun _ => rfl) fun cdv A outer s H hr hG => ⟨_, (pss_cons (ps_par (i := 2) (j := 3) (by rfl) sc_law_is_join.nd rfl rfl (by decide) rfl rfl (pa_cons (pe_lst pa_nil) (pa_cons pe_bl pa_nil)) (by rfl))
      (pss_cons (ps_for PassesOwn.never rfl (pi_range1 (by rfl) T.n_range (pa_cons pe_int pa_nil)) (pg_name (i := 4) sc_law_is_join.nd rfl (Or.inl rfl)) (pss_one (ps_try_asT (i := 5) rfl rfl sc_law_is_join.nd rfl rfl (by exact ⟨rfl, by decide, Or.inl V.t_TooMany.gC⟩) takes0
      (by exact fun Wx => ⟨_, fun pn xe tk po => (pss_one (ps_expr (pe_bmK (K := K) rfl PySem.F.plainAttrs_list PySem.F.slot_list_append PySem.F.type_list_append mt_append (pv 2) (pa_cons (pe_ifExp (pt_cmpR op_eq (pv 4) pe_int (nomark _)) (pe_callX DX_joined_ways (hr.mono (by decide)) tk (by rfl) (pa_cons (pv 0) (pa_cons (pv 1) pa_nil))) (pe_callKX DXK_joined_ways_one_other (hr.mono (by decide)) tk (by rfl) (pk_cons (pv 0) (pk_cons (pv 1) pk_nil)))) pa_nil))))⟩)
      (by exact fun ea ecls ed => ⟨_, fun oe epn hz hf => (pss_cons (ps_set (i := 3) sc_law_is_join.nd rfl (.inl rfl) (pe_and (pe_callB (r := rIsED K ca.TooMany ea ecls ed) (call_isED V.x_TooMany hz hf) (by rfl) T.n_isinstance (by decide +kernel) (pa_cons (pv 5) (pa_cons (pe_glob (v := .ref ca.SumError) rfl V.g_SumError rfl) pa_nil))) (pe_and (pe_callB (r := rIsED K ca.TooMany ea ecls ed) (call_isED V.x_TooMany hz hf) (by rfl) T.n_isinstance (by decide +kernel) (pa_cons (pv 5) (pa_cons (pe_bltn (v := .ty "ValueError") (u := .type "ValueError") rfl T.n_ValueError (by decide +kernel) rfl) pa_nil))) (pe_one (pe_not (pe_callB (r := rIsEDT K ca.TooMany ea ecls ed) (call_isEDT V.x_TooMany hz hf) (by rfl) T.n_isinstance (by decide +kernel) (pa_cons (pv 5) (pa_cons (pe_tup (pa_cons (pe_glob (v := .ref ca.Unfit) rfl V.g_Unfit rfl) (pa_cons (pe_glob (v := .ref ca.BadText) rfl V.g_BadText rfl) (pa_cons (pe_glob (v := .ref ca.BadSum) rfl V.g_BadSum rfl) (pa_cons (pe_glob (v := .ref ca.BadLog) rfl V.g_BadLog rfl) (pa_cons (pe_glob (v := .ref ca.Refused) rfl V.g_Refused rfl) (pa_cons (pe_glob (v := .ref ca.NothingToUndo) rfl V.g_NothingToUndo rfl) (pa_cons (pe_glob (v := .ref ca.NothingToRedo) rfl V.g_NothingToRedo rfl) (pa_cons (pe_glob (v := .ref ca.NoName) rfl V.g_NoName rfl) (pa_cons (pe_glob (v := .ref ca.NoVersion) rfl V.g_NoVersion rfl) pa_nil)))))))))) pa_nil))))))))
      (pss_one (ps_expr (pe_bmK (K := K) rfl PySem.F.plainAttrs_list PySem.F.slot_list_append PySem.F.type_list_append mt_append (pv 2) (pa_cons (pe_lst (pa_cons pe_str (pa_cons (pe_xf (own_xf V.t_TooMany) V.t_TooMany.noN hz hf (pv 5)) pa_nil))) pa_nil)))))⟩))))
      (pss_cons (ps_if (pt_cmpR op_le (pe_op op_add (pe_callB (r := Evl.rLenS K) call_len_seq (by rfl) T.n_len (by decide +kernel) (pa_cons (pv 0) pa_nil)) (pe_callB (r := Evl.rLenS K) call_len_seq (by rfl) T.n_len (by decide +kernel) (pa_cons (pv 1) pa_nil))) pe_int (nomark _)) (pss_one (ps_ret (pe_callG hG D_law_same (hr.mono (by decide)) (by rfl) (pa_cons (pv 2) (pa_cons (pe_op op_rep (pe_lst (pa_cons (pe_op (r := rCatA K) op_catA (pv 0) (pv 1)) pa_nil)) pe_int) pa_nil))))) pss_nil)
      (pss_one (ps_ret (pe_and (pv 3) (pe_one (pe_callG hG D_law_same (hr.mono (by decide)) (by rfl) (pa_cons (pv 2) (pa_cons (pe_op op_rep (pe_lst (pa_cons (pe_lst (pa_cons pe_str (pa_cons pe_int pa_nil))) pa_nil)) pe_int) pa_nil)))))))))), ?_⟩
  rintro B Q ⟨one, other⟩ rfl ⟨h1, h2⟩ q
  dsimp only at h1 h2 q
  show Ho B _ [wv one, wv other, none, none, none, none] []
  have l1 := h1.1
  have l2 := h2.1
  refine x_seq (x_parW (wa_cons (wx_r (wr_of (ds := []) (en_lst ea_nil (Nat.zero_le _)) fun p hp => wa_x ex_cB (wa_nil ⟨_, _, rfl, ?_⟩)))))
  refine nxt (x_seq (x_forR1 (n := 2) (ea_cons ex_cI ea_nil) (by decide) (fun i ε L => ε = [wv one, wv other, bagv p, dv (.bool (flagD one other i)), none, none] ∧ L = [.lst p (List.replicate i (joinD one other))]) ⟨by unfold flagD; simp, rfl⟩ ?_ ?_))
  · rintro i ε' L' hi ⟨rfl, rfl⟩
    have hsub : 16 < one.length + other.length → joinD one other = manyD := fun h => by unfold joinD; rw [if_neg (by omega)]
    have hup : ∀ i, List.replicate i (joinD one other) ++ [joinD one other] = List.replicate (i + 1) (joinD one other) := fun i => (List.replicate_succ' ..).symm
    refine x_appW (e := eD) (ex_v rfl) ⟨_, _, .z⟩ (w_if (wt_of (et_test (ex_eqI (ex_v rfl) ex_cI)) ⟨fun h0 => wv_as (e := wayD) (w_callDX (wa_x (ex_v rfl) (wa_x (ex_v rfl) (wa_nil ⟨(one, other), rfl, ⟨by show one.length ≤ 5000; omega, by show other.length ≤ 5000; omega⟩, fun x hx => ?_, fun x hx => ?_⟩)))), fun h0 => wv_as (e := wayD) (w_callKDX (wa_x (ex_v rfl) (wa_x (ex_v rfl) (wa_nil ⟨(one, other), (fun K F zs hz => kwX hz), ⟨by show one.length ≤ 5000; omega, by show other.length ≤ 5000; omega⟩, fun x hx => ?_, fun x hx => ?_⟩))))⟩))
    · obtain ⟨c, rfl⟩ : one.length + other.length ≤ 16 ∧ x = one ++ other := hx
      have e : joinD one other = wayD (one ++ other) := by unfold joinD; rw [if_pos c]
      have ef : ∀ i, flagD one other i = false := fun i => by unfold flagD; rw [decide_eq_false (by omega)]; rfl
      have e3 : flagD one other (i + 1) = flagD one other i := by rw [ef, ef]
      rw [e3]
      refine ⟨wayD (one ++ other), rfl, _, _, .z, by rw [List.length_replicate]; omega, nxt (x_end ⟨rfl, ?_⟩)⟩
      rw [← hup i, e]; rfl
    · obtain ⟨c, rfl⟩ : 16 < one.length + other.length ∧ x = XV.own ca.TooMany "limit" (.int 16) := hx
      have e : joinD one other = manyD := hsub c
      have ef : flagD one other (i + 1) = true := by unfold flagD; rw [decide_eq_true (by omega), decide_eq_true (by omega)]; rfl
      rw [ef]
      refine hx_as V.t_TooMany.te (fun ad d v hd => ?_)
      refine x_seq (x_set (a := .d (.bool true)) (ex_boolE (ex_andV (b := true) (c := true) (ex_isED (j := 0) rfl .z (.own _) V.k_TooMany_SumError) (fun _ => ex_boolE (ex_andV (b := true) (c := true) (ex_isED (j := 0) rfl .z (.ty _) V.kv_TooMany) (fun _ => ex_boolE (ex_notV (ex_isEDT (j := 0) (b := false) [ca.Unfit, ca.BadText, ca.BadSum, ca.BadLog, ca.Refused, ca.NothingToUndo, ca.NothingToRedo, ca.NoName, ca.NoVersion] rfl .z (by show 9 ≤ 100000; decide) (kit_none V))) rfl) (fun h => nomatch h)) rfl) (fun h => nomatch h)) rfl) ?_)
      refine nxt (x_appW (e := eD) (ex_v rfl) ⟨_, _, .s (.s .z)⟩ (wv_of (x := manyD) (ex_frz (en_lst (ds := [.str (PySem.Str.ofString "many"), .int 16]) (ea_cons ex_cS (ea_cons (ex_xf (j := 0) rfl .z (by simp)) ea_nil)) (Nat.le_of_ble_eq_true rfl))) ⟨_, _, .s (.s .z), by rw [List.length_replicate]; omega, ?_⟩))
      refine ho_cutE ?_
      refine ho_drop (k := 0) ?_ rfl (fun x hx => by rw [List.mem_singleton.mp hx]; exact hd)
      refine ho_drop (k := 0) ?_ rfl (fun p hp => nomatch hp)
      refine nxt (x_end ⟨rfl, ?_⟩)
      rw [← hup i, e]; rfl
    · obtain ⟨c, rfl⟩ : one.length + other.length ≤ 16 ∧ x = one ++ other := hx
      have e : joinD one other = wayD (one ++ other) := by unfold joinD; rw [if_pos c]
      have ef : ∀ i, flagD one other i = false := fun i => by unfold flagD; rw [decide_eq_false (by omega)]; rfl
      have e3 : flagD one other (i + 1) = flagD one other i := by rw [ef, ef]
      rw [e3]
      refine ⟨wayD (one ++ other), rfl, _, _, .z, by rw [List.length_replicate]; omega, nxt (x_end ⟨rfl, ?_⟩)⟩
      rw [← hup i, e]; rfl
    · obtain ⟨c, rfl⟩ : 16 < one.length + other.length ∧ x = XV.own ca.TooMany "limit" (.int 16) := hx
      have e : joinD one other = manyD := hsub c
      have ef : flagD one other (i + 1) = true := by unfold flagD; rw [decide_eq_true (by omega), decide_eq_true (by omega)]; rfl
      rw [ef]
      refine hx_as V.t_TooMany.te (fun ad d v hd => ?_)
      refine x_seq (x_set (a := .d (.bool true)) (ex_boolE (ex_andV (b := true) (c := true) (ex_isED (j := 0) rfl .z (.own _) V.k_TooMany_SumError) (fun _ => ex_boolE (ex_andV (b := true) (c := true) (ex_isED (j := 0) rfl .z (.ty _) V.kv_TooMany) (fun _ => ex_boolE (ex_notV (ex_isEDT (j := 0) (b := false) [ca.Unfit, ca.BadText, ca.BadSum, ca.BadLog, ca.Refused, ca.NothingToUndo, ca.NothingToRedo, ca.NoName, ca.NoVersion] rfl .z (by show 9 ≤ 100000; decide) (kit_none V))) rfl) (fun h => nomatch h)) rfl) (fun h => nomatch h)) rfl) ?_)
      refine nxt (x_appW (e := eD) (ex_v rfl) ⟨_, _, .s (.s .z)⟩ (wv_of (x := manyD) (ex_frz (en_lst (ds := [.str (PySem.Str.ofString "many"), .int 16]) (ea_cons ex_cS (ea_cons (ex_xf (j := 0) rfl .z (by simp)) ea_nil)) (Nat.le_of_ble_eq_true rfl))) ⟨_, _, .s (.s .z), by rw [List.length_replicate]; omega, ?_⟩))
      refine ho_cutE ?_
      refine ho_drop (k := 0) ?_ rfl (fun x hx => by rw [List.mem_singleton.mp hx]; exact hd)
      refine ho_drop (k := 0) ?_ rfl (fun p hp => nomatch hp)
      refine nxt (x_end ⟨rfl, ?_⟩)
      rw [← hup i, e]; rfl
  · rintro ε' L' ⟨rfl, rfl⟩
    have e2 : (2 : Int).toNat = 2 := rfl
    rw [e2]
    have gj : GW 32 (2 ^ 20) (one ++ other) := h1.app h2
    refine nxt (x_seq (x_if (b := decide ((one.length : Int) + (other.length : Int) ≤ 16)) (et_test (ex_le (ex_add (ex_lenW (ex_v rfl) rfl) (ex_lenW (ex_v rfl) rfl)) ex_cI)) (fun hb => ?_) (fun hb => x_next (nxt ?_))))
    · have hb := of_decide_eq_true hb
      have e : joinD one other = wayD (one ++ other) := by unfold joinD; rw [if_pos (by omega)]
      rw [e]
      have sm : Fz.SameOk (eL wayD [one ++ other, one ++ other]) := same_ways (n := 32) (c := 2 ^ 20) (fun u hu => by
        simp only [List.mem_cons, List.not_mem_nil, or_false] at hu
        rcases hu with e | e <;> rw [e] <;> exact gj) (by show 2 ≤ 20; decide) (by decide) (by decide)
      exact x_retD q (wv_of (x := true) (ex_sameT (ex_frz (en_var rfl hp)) (ex_frz (en_repL (n := 2) (ds := [wayD (one ++ other)]) (ex_frz (en_lst (ds := [wayD (one ++ other)]) (ea_cons (ex_catW (ex_v rfl) (ex_v rfl) (by omega)) ea_nil) (Nat.le_of_ble_eq_true rfl))) ex_cI .d (by show 1 * 2 ≤ 100000; decide) (by decide))) sm) rfl)
    · have hb := of_decide_eq_false hb
      have e : joinD one other = manyD := by unfold joinD; rw [if_neg (by omega)]
      rw [e]
      have ef : flagD one other 2 = true := by unfold flagD; rw [decide_eq_true (by omega)]; rfl
      rw [ef]
      exact x_retD q (wv_of (x := true) (ex_boolE (ex_andV (b := true) (c := true) (ex_v rfl) (fun _ => ex_sameT (ex_frz (en_var rfl hp)) (ex_frz (en_repL (n := 2) (ds := [manyD]) (ex_frz (en_lst (ds := [manyD]) (ea_cons (ex_frz (en_lst (ds := [.str (PySem.Str.ofString "many"), .int 16]) (ea_cons ex_cS (ea_cons ex_cI ea_nil)) (Nat.le_of_ble_eq_true rfl))) ea_nil) (Nat.le_of_ble_eq_true rfl))) ex_cI .d (by show 1 * 2 ≤ 100000; decide) (by decide))) same_many) (fun h => nomatch h)) rfl) rfl)
end K86

/-! ## G9 -/
set_option Elab.async false
set_option linter.all false
set_option maxRecDepth 100000
set_option maxHeartbeats 4000000
set_option autoImplicit false
namespace K86
open PySem L2 Fz K80 Ways
variable {P : Program} {w : World} {K : PySem.W.Frag} {mg : Str → Option Value} {base : Heap} {f : Addr} {fd : FuncData}
theorem en_mid {B : Bg} {ε : Eps} {L La Lb Lc : Own} {te ti tj : TE} {x : AD} {α : Type} {e : α → PyData} {xs : List α} {i j : Int} (h : EX B te ε L x La) (h1 : EX B ti ε La (.d (.int i)) Lb) (h2 : EX B tj ε Lb (.d (.int j)) Lc) (hx : IsL Lc x (xs.map e)) (hi : 0 ≤ i) (hj : 0 ≤ j) : EN B (tSl (rSlL B.K) te (tPart ti) (tPart tj)) ε L (((xs.drop i.toNat).take (j.toNat - i.toNat)).map e) Lc :=
  en_is (en_slL (ds := xs.map e) h (eo_s h1) (eo_s h2) hx) (cut_mid e xs hi hj)
theorem ex_isjoin {B : Bg} {ε : Eps} {L La Lb : Own} {ta tb : TE} {E : XK} {one other : Way} (ha : EX B ta ε L (.d (wayD one)) La) (hb : EX B tb ε La (.d (wayD other)) Lb) (hl : GW 16 (2 ^ 20) one ∧ GW 16 (2 ^ 20) other) : EX B (tCall (S_law_is_join B.K) [] E (tCons ta (tCons tb tNil))) ε L (.d (.bool true)) Lb :=
  ex_of (e := PyData.bool) fun κ k => w_callD (wa_x ha (wa_x hb (wa_nil ⟨(one, other), rfl, hl, fun x hx => hx ▸ k⟩)))
theorem ex_way0 {B : Bg} {ε : Eps} {L : Own} : EX B (tTup tNil) ε L (.d (wayD [])) L := ex_tup (ds := []) ea_nil (Nat.zero_le _)
theorem ex_tupW {B : Bg} {ε : Eps} {L La : Own} {te : TE} {x : AD} {v : Way} (h : EX B te ε L x La) (hx : IsL La x (wayL v)) : EX B (tThen te (kTup B.K)) ε L (.d (wayD v)) La := ex_tupL (ds := wayL v) h hx
abbrev S_law_are_joins_right (K : PySem.W.Frag) : Sp := spG K (fun k : Int => [.int k]) (fun k => 1 ≤ k ∧ k ≤ 4) PyData.bool (fun _ x => x = true)
theorem okd_law_are_joins_right (Fn : Fun K "_law_are_joins_right" "_law_are_joins_right" s_law_are_joins_right f fd) (T : Bt P mg base) (D_law_built : Df P w K mg base 42 "_law_built" ["way"] (S_law_built K)) (D_law_draw : Df P w K mg base 41 "_law_draw" ["bag", "below"] (S_law_draw K)) (D_joined_ways : Df P w K mg base 41 "joined_ways" ["one", "other"] (S_joined_ways K)) (D_law_is_join : GDf P w K mg base 42 "_law_is_join" ["one", "other"] (S_law_is_join K)) (D_law_stride : Df P w K mg base 43 "_law_stride" ["bag"] (S_law_stride K)) (D_law_same : GDf P w K mg base 41 "_law_same" ["told", "due"] (S_law_same K)) : GOk P w K mg base 44 f fd ["bag", "k"] (S_law_are_joins_right K) := by
  refine g_G Fn sc_law_are_joins_right (by decide) (fun _ => rfl) fun cdv A outer s H hr hG => ⟨_, (pss_cons (ps_setLc (i := 2) (own := [("place", 15)]) rfl sc_law_are_joins_right.nd rfl rfl (sw_true rfl rfl rfl (by decide +kernel)) (pi_range1 (by rfl) T.n_range (pa_cons pe_int pa_nil)) (blkOk_by (own := [("place", 15)]) (N := ["bag", "k", "steps", "many", "rest", "full", "ahead", "behind", "first", "second", "third", "early", "late", "one", "other", "place"]) (sc := defScope s_law_are_joins_right) (by decide +kernel)) (fun _ _ _ _ _ => (pg_name (i := 15) sc_law_are_joins_right.nd rfl (Or.inl rfl))) (fun _ _ _ _ _ => pts_nil) (fun _ _ _ _ _ => (pe_tup (pa_cons (pe_callD D_law_draw (hr.mono (by decide)) (by rfl) (pa_cons (pv 0) (pa_cons (pv 1) pa_nil))) (pa_cons (pe_callD D_law_stride (hr.mono (by decide)) (by rfl) (pa_cons (pv 0) pa_nil)) pa_nil)))))
      (pss_cons (ps_par (i := 3) (j := 4) (by rfl) sc_law_are_joins_right.nd rfl rfl (by decide) rfl rfl (pa_cons (pe_op op_add pe_int (pe_callD D_law_draw (hr.mono (by decide)) (by rfl) (pa_cons (pv 0) (pa_cons pe_int pa_nil)))) (pa_cons (pe_callD D_law_draw (hr.mono (by decide)) (by rfl) (pa_cons (pv 0) (pa_cons pe_int pa_nil))) pa_nil)) (by rfl))
      (pss_cons (ps_set (i := 5) sc_law_are_joins_right.nd rfl (.inl rfl) (pe_callD D_law_built (hr.mono (by decide)) (by rfl) (pa_cons (pe_tupleOf (by rfl) T.n_tuple (pv 2)) pa_nil)))
      (pss_cons (ps_for PassesOwn.never rfl (pi_list (pe_lst (pa_cons (pe_tup (pa_cons (pv 3) (pa_cons (pe_op op_sub pe_int (pv 3)) pa_nil))) (pa_cons (pe_tup (pa_cons (pv 3) (pa_cons (pe_op op_sub pe_int (pv 3)) pa_nil))) (pa_cons (pe_tup (pa_cons (pe_op op_sub pe_int (pv 3)) (pa_cons (pv 3) pa_nil))) (pa_cons (pe_tup (pa_cons (pv 3) (pa_cons (pv 4) pa_nil))) (pa_cons (pe_tup (pa_cons pe_int (pa_cons pe_int pa_nil))) (pa_cons (pe_tup (pa_cons pe_int (pa_cons (pv 4) pa_nil))) pa_nil)))))))) (pg_tup rfl (pgs_cons (pg_name (i := 6) sc_law_are_joins_right.nd rfl (Or.inl rfl)) (pgs_cons (pg_name (i := 7) sc_law_are_joins_right.nd rfl (Or.inl rfl)) pgs_nil))) (pss_cons (ps_par (i := 13) (j := 14) (by rfl) sc_law_are_joins_right.nd rfl rfl (by decide) rfl rfl (pa_cons (pe_callD D_law_built (hr.mono (by decide)) (by rfl) (pa_cons (pe_tupleOf (by rfl) T.n_tuple (pe_slice (r := rSlL K) sl_list (pv 2) po_none (po_some (pv 6)))) pa_nil)) (pa_cons (pe_callD D_law_built (hr.mono (by decide)) (by rfl) (pa_cons (pe_tupleOf (by rfl) T.n_tuple (pe_slice (r := rSlL K) sl_list (pv 2) (po_some (pe_op op_sub pe_int (pv 7))) po_none)) pa_nil)) pa_nil)) (by rfl))
      (pss_one (ps_if (pt_not (pt_val (pe_callG hG D_law_is_join (hr.mono (by decide)) (by rfl) (pa_cons (pv 13) (pa_cons (pv 14) pa_nil))))) (pss_one (ps_ret pe_bl)) pss_nil))))
      (pss_cons (ps_par3 (i := 8) (j := 9) (l := 10) (by rfl) sc_law_are_joins_right.nd rfl rfl rfl (by decide) (by decide) (by decide) rfl rfl rfl (pa_cons (pe_tupleOf (by rfl) T.n_tuple (pe_slice (r := rSlL K) sl_list (pv 2) po_none (po_some pe_int))) (pa_cons (pe_tupleOf (by rfl) T.n_tuple (pe_slice (r := rSlL K) sl_list (pv 2) (po_some pe_int) (po_some (pe_op op_add pe_int (pe_op op_mod (pe_callTy call_int1 (by rfl) T.n_int (by decide +kernel) (pa_cons (pv 3) pa_nil)) pe_int))))) (pa_cons (pe_tupleOf (by rfl) T.n_tuple (pe_slice (r := rSlL K) sl_list (pv 2) (po_some pe_int) (po_some (pe_op op_add pe_int (pe_op op_mod (pe_callTy call_int1 (by rfl) T.n_int (by decide +kernel) (pa_cons (pv 4) pa_nil)) pe_int))))) pa_nil))) (by rfl))
      (pss_cons (ps_par (i := 11) (j := 12) (by rfl) sc_law_are_joins_right.nd rfl rfl (by decide) rfl rfl (pa_cons (pe_callD D_joined_ways (hr.mono (by decide)) (by rfl) (pa_cons (pe_callD D_joined_ways (hr.mono (by decide)) (by rfl) (pa_cons (pv 8) (pa_cons (pv 9) pa_nil))) (pa_cons (pv 10) pa_nil))) (pa_cons (pe_callD D_joined_ways (hr.mono (by decide)) (by rfl) (pa_cons (pv 8) (pa_cons (pe_callD D_joined_ways (hr.mono (by decide)) (by rfl) (pa_cons (pv 9) (pa_cons (pv 10) pa_nil))) pa_nil))) pa_nil)) (by rfl))
      (pss_cons (ps_if (PW.pt (pw_or (pt_not (pt_val (pe_callG hG D_law_same (hr.mono (by decide)) (by rfl) (pa_cons (pv 11) (pa_cons (pe_op (r := rCatA K) op_catA (pe_op (r := rCatA K) op_catA (pv 8) (pv 9)) (pv 10)) pa_nil))))) (pw_or1 (pt_not (pt_val (pe_callG hG D_law_same (hr.mono (by decide)) (by rfl) (pa_cons (pv 12) (pa_cons (pv 11) pa_nil)))))))) (pss_one (ps_ret pe_bl)) pss_nil)
      (pss_one (ps_ret (pe_and (pe_callG hG D_law_is_join (hr.mono (by decide)) (by rfl) (pa_cons (pv 5) (pa_cons (pe_tup pa_nil) pa_nil))) (pe_and (pe_callG hG D_law_is_join (hr.mono (by decide)) (by rfl) (pa_cons (pe_tup pa_nil) (pa_cons (pv 5) pa_nil))) (pe_one (pe_callG hG D_law_is_join (hr.mono (by decide)) (by rfl) (pa_cons (pv 5) (pa_cons (pe_tup (pa_cons (pe_ix (r := rIxL K) ix_list (pv 2) pe_int (fun _ _ => rfl)) pa_nil)) pa_nil))))))))))))))), ?_⟩
  rintro B Q pb pc b k rfl hk q
  show Ho B _ [bagv pb, iv k, none, none, none, none, none, none, none, none, none, none, none, none, none, none] [b.at pb pc]
  refine x_seq (x_setO (wr_lcR1W (wa_x (a := .d (.int 16)) ex_cI (wa_nil ⟨16, rfl, by decide, fun i acc L => ∃ (u : Way) (b : Bag), acc = wayL u ∧ u.length = i ∧ GW i 100 u ∧ L = [b.at pb pc], ⟨[], b, rfl, rfl, gw_nil, rfl⟩, by simp, fun i hi => ?_, fun p acc L' hp ⟨u, b3, ea, hul, hug, eL⟩ => ?_⟩))) (fun p => .s (.s .z)))
  · rintro acc L' ⟨u, b3, rfl, hul, hug, rfl⟩
    refine ⟨by rw [wayL_len]; omega, _, gt_name, fun m => wt_of et_yes ⟨fun _ => ?_, fun h => nomatch h⟩⟩
    refine wv_as (e := eP PyData.int PyData.int) (w_pair (e := PyData.int) (f := PyData.int) (w_drw (pb := pb) (pc := pc) (L2 := fun b' => [b'.at pb pc, m]) rfl (ex_v rfl) (fun b' => .z) (by omega) fun x b4 h0 h1 => ?_))
    refine w_stride (pb := pb) (pc := pc) (L2 := fun b' => [b'.at pb pc, m]) rfl (fun b' => .z) fun s b5 h4 h5 => ⟨_, rfl, [b5.at pb pc], rfl, u ++ [(x, s)], b5, (wayL_one u (x, s)).symm, by rw [List.length_append, hul]; rfl, hug.app (gw_one ⟨h0, by show x < 4; omega, h5, h4⟩), rfl⟩
  subst ea eL
  have hul : u.length = 16 := hul
  have hug : GW 16 100 u := hug
  have big : GW 16 (2 ^ 20) u := hug.mono (Nat.le_refl _) (by decide)
  refine nxt (x_seq (x_parW (wa_v (e := PyData.int) (w_add (wv_of (x := 1) ex_cI (w_drw (pb := pb) (pc := pc) rfl ex_cI (fun b' => .s .z) (by decide) fun m b4 hm0 hm1 => wa_v (e := PyData.int) (w_drw (pb := pb) (pc := pc) rfl ex_cI (fun b' => .s .z) (by decide) fun rest b5 hr0 hr1 => wa_nil ⟨_, _, rfl, ?_⟩)))))))
  obtain ⟨many, hmany⟩ : ∃ z, z = 1 + m := ⟨_, rfl⟩
  rw [← hmany]
  refine nxt (x_seq (x_set (a := .d (wayD u)) (ex_built (ex_tupW (ex_v rfl) (.o (k := 0) rfl)) (by omega)) ?_))
  have hps : ∀ z ∈ [(many, 16 - many), (many, 17 - many), (17 - many, many), (many, rest), (16, 16), (0, rest)], (0 ≤ z.1 ∧ z.1 ≤ 16) ∧ 0 ≤ z.2 ∧ z.2 ≤ 16 := fun z hz => by
    simp only [List.mem_cons, List.not_mem_nil, or_false] at hz
    rcases hz with e | e | e | e | e | e <;> rw [e] <;> refine ⟨⟨?_, ?_⟩, ?_, ?_⟩ <;> dsimp only <;> omega
  have pr : ∀ {ta tc : TE} {x y : Int}, EX B ta [bagv pb, iv k, bagv p, iv many, iv rest, wv u, none, none, none, none, none, none, none, none, none, none] [.lst p (wayL u), b5.at pb pc] (.d (.int x)) [.lst p (wayL u), b5.at pb pc] → EX B tc [bagv pb, iv k, bagv p, iv many, iv rest, wv u, none, none, none, none, none, none, none, none, none, none] [.lst p (wayL u), b5.at pb pc] (.d (.int y)) [.lst p (wayL u), b5.at pb pc] → EX B (tTup (tCons ta (tCons tc tNil))) [bagv pb, iv k, bagv p, iv many, iv rest, wv u, none, none, none, none, none, none, none, none, none, none] [.lst p (wayL u), b5.at pb pc] (.d (stD (x, y))) [.lst p (wayL u), b5.at pb pc] := fun {ta tc x y} h1 h2 => ex_tup (ds := [.int x, .int y]) (ea_cons h1 (ea_cons h2 ea_nil)) (Nat.le_of_ble_eq_true rfl)
  obtain ⟨ps, hpe⟩ : ∃ ps, ps = [(many, 16 - many), (many, 17 - many), (17 - many, many), (many, rest), (16, 16), (0, rest)] := ⟨_, rfl⟩
  rw [← hpe] at hps
  refine nxt (x_seq (x_forLe (La := [.lst p (wayL u), b5.at pb pc]) (e := stD) (xs := ps) (ex_is (ex_frz (en_lst (ds := [stD (many, 16 - many), stD (many, 17 - many), stD (17 - many, many), stD (many, rest), stD (16, 16), stD (0, rest)]) (ea_cons (pr (ex_v rfl) (ex_sub ex_cI (ex_v rfl))) (ea_cons (pr (ex_v rfl) (ex_sub ex_cI (ex_v rfl))) (ea_cons (pr (ex_sub ex_cI (ex_v rfl)) (ex_v rfl)) (ea_cons (pr (ex_v rfl) (ex_v rfl)) (ea_cons (pr ex_cI ex_cI) (ea_cons (pr ex_cI (ex_v rfl)) ea_nil)))))) (Nat.le_of_ble_eq_true rfl))) (by rw [hpe]; rfl)) (fun v i ε L => ε = [bagv pb, iv k, bagv p, iv many, iv rest, wv u, none, none, none, none, none, none, none, none, none, none] ∧ L = [.lst p (wayL u), b5.at pb pc, .know v (eL stD ps)]) (fun v => ⟨rfl, rfl⟩) (fun v i ε' L' ⟨_, h⟩ => by rw [h]; simp) ?_ ?_))
  · rintro v i x ε' L' hi ⟨rfl, rfl⟩
    have hx := hps x (List.mem_of_getElem? hi)
    refine ⟨_, gt_tup2 (d := .int x.1) (e := .int x.2), ?_⟩
    have g1 : GW 16 100 (u.take x.1.toNat) := hug.take _
    have g2 : GW 16 100 (u.drop (16 - x.2).toNat) := hug.drop _
    refine x_seq (x_par (a := .d (wayD (u.take x.1.toNat))) (b := .d (wayD (u.drop (16 - x.2).toNat))) (ea_cons (ex_built (ex_tupW (v := u.take x.1.toNat) (ex_frz (en_take (e := stD) (xs := u) (i := x.1) (ex_v rfl) (ex_v rfl) (.o (k := 0) rfl) hx.1.1)) .d) g1.1) (ea_cons (ex_built (ex_tupW (v := u.drop (16 - x.2).toNat) (ex_frz (en_from (e := stD) (xs := u) (i := 16 - x.2) (ex_v rfl) (ex_sub ex_cI (ex_v rfl)) (.o (k := 0) rfl) (by omega))) .d) g2.1) ea_nil)) ?_)
    exact nxt (x_skip (et_noT (ex_isjoin (ex_v rfl) (ex_v rfl) ⟨g1.mono (Nat.le_refl _) (by decide), g2.mono (Nat.le_refl _) (by decide)⟩)) (nxt (x_end ⟨rfl, rfl⟩)))
  · rintro v ε' L' ⟨rfl, rfl⟩
    refine nxt (ho_drop (k := 2) ?_ rfl (fun p hp => nomatch hp))
    show Ho B _ [bagv pb, iv k, bagv p, iv many, iv rest, wv u, none, none, none, none, none, none, none, none, none, none] [.lst p (wayL u), b5.at pb pc]
    have m1 := Int.emod_nonneg many (show (6 : Int) ≠ 0 by decide)
    have m2 := Int.emod_lt_of_pos many (show (0 : Int) < 6 by decide)
    have m3 := Int.emod_nonneg rest (show (6 : Int) ≠ 0 by decide)
    have m4 := Int.emod_lt_of_pos rest (show (0 : Int) < 6 by decide)
    refine x_seq (x_par3 (a := .d (wayD (u.take 5))) (b := .d (wayD ((u.drop 5).take ((5 + many % 6).toNat - 5)))) (c := .d (wayD ((u.drop 10).take ((10 + rest % 6).toNat - 10)))) (ea_cons (ex_tupW (v := u.take 5) (ex_frz (en_take (e := stD) (xs := u) (i := 5) (ex_v rfl) ex_cI (.o (k := 0) rfl) (by decide))) .d) (ea_cons (ex_tupW (v := (u.drop 5).take ((5 + many % 6).toNat - 5)) (ex_frz (en_mid (e := stD) (xs := u) (i := 5) (j := 5 + many % 6) (ex_v rfl) ex_cI (ex_add ex_cI (ex_mod (ex_int1 (ex_v rfl)) ex_cI (by decide))) (.o (k := 0) rfl) (by decide) (by omega))) .d) (ea_cons (ex_tupW (v := (u.drop 10).take ((10 + rest % 6).toNat - 10)) (ex_frz (en_mid (e := stD) (xs := u) (i := 10) (j := 10 + rest % 6) (ex_v rfl) ex_cI (ex_add ex_cI (ex_mod (ex_int1 (ex_v rfl)) ex_cI (by decide))) (.o (k := 0) rfl) (by decide) (by omega))) .d) ea_nil))) ?_)
    have ga : GW 16 100 (u.take 5) := hug.take _
    have gb : GW 16 100 ((u.drop 5).take ((5 + many % 6).toNat - 5)) := (hug.drop _).take _
    have gc : GW 16 100 ((u.drop 10).take ((10 + rest % 6).toNat - 10)) := (hug.drop _).take _
    have la : (u.take 5).length ≤ 5 := by rw [List.length_take]; omega
    have lb : ((u.drop 5).take ((5 + many % 6).toNat - 5)).length ≤ 5 := by rw [List.length_take]; omega
    have lc : ((u.drop 10).take ((10 + rest % 6).toNat - 10)).length ≤ 5 := by rw [List.length_take]; omega
    generalize u.take 5 = wa at *
    generalize (u.drop 5).take ((5 + many % 6).toNat - 5) = wb at *
    generalize (u.drop 10).take ((10 + rest % 6).toNat - 10) = wc at *
    have lab : (wa ++ wb).length ≤ 10 := by rw [List.length_append]; omega
    have lbc : (wb ++ wc).length ≤ 10 := by rw [List.length_append]; omega
    have gabc : GW 48 100 (wa ++ wb ++ wc) := (ga.app gb).app gc
    have s3 := gabc.same (by decide) (by decide)
    refine nxt (x_seq (x_par (a := .d (wayD (wa ++ wb ++ wc))) (b := .d (wayD (wa ++ wb ++ wc))) (ea_cons (ex_join (ex_join (ex_v rfl) (ex_v rfl) (by omega)) (ex_v rfl) (by omega)) (ea_cons (ex_is (ex_join (ex_v rfl) (ex_join (ex_v rfl) (ex_v rfl) (by omega)) (by omega)) (by rw [List.append_assoc])) ea_nil)) ?_))
    refine nxt (x_seq (x_skip (et_orF (et_noT (ex_sameT (ex_v rfl) (ex_catW (ex_catW (ex_v rfl) (ex_v rfl) (by omega)) (ex_v rfl) (by omega)) s3)) (et_noT (ex_sameT (ex_v rfl) (ex_v rfl) s3))) ?_))
    obtain ⟨x0, t, hxt⟩ : ∃ x0 t, u = x0 :: t := by
      cases u with
      | nil => exact absurd hul (by decide)
      | cons a t => exact ⟨a, t, rfl⟩
    have gx : GW 1 100 [x0] := gw_one (hug.2 x0 (by rw [hxt]; exact List.mem_cons_self))
    refine nxt (x_retG q (wv_of (x := true) (ex_boolE (ex_andV (b := true) (c := true) (ex_isjoin (ex_v rfl) ex_way0 ⟨big, gw_nil⟩) (fun _ => ex_boolE (ex_andV (b := true) (c := true) (ex_isjoin ex_way0 (ex_v rfl) ⟨gw_nil, big⟩) (fun _ => ex_isjoin (other := [x0]) (ex_v rfl) (ex_tup (ds := [stD x0]) (ea_cons (ex_atl (e := stD) (xs := u) (n := 0) (i := 0) (a := x0) (ex_v rfl) ex_cI (.o (k := 0) rfl) rfl (by rw [hxt]; rfl)) ea_nil) (Nat.le_of_ble_eq_true rfl)) ⟨big, gx.mono (by decide) (by decide)⟩) (fun h => nomatch h)) rfl) (fun h => nomatch h)) rfl) ⟨rfl, b5, by simp⟩))
end K86

/-! ## G10 -/
set_option Elab.async false
set_option linter.all false
set_option maxRecDepth 100000
set_option maxHeartbeats 4000000
set_option autoImplicit false
namespace K86
open PySem L2 Fz K80 Ways
variable {P : Program} {w : World} {K : PySem.W.Frag} {mg : Str → Option Value} {base : Heap} {f : Addr} {fd : FuncData}
theorem red_double (v : Way) : decide (redW (v ++ v) = redW v) = decide (redW v = []) := by
  have h : redW (v ++ v) = redW v ↔ redW v = [] := by
    constructor
    · intro h
      have h1 : redW (backW v ++ (v ++ v)) = redW v := by
        rw [← List.append_assoc, red_app, show redW (backW v ++ v) = [] from fold_back v .nil]; rfl
      have h2 : redW (backW v ++ (v ++ v)) = [] := by
        rw [← red_mid, h, red_mid]; exact fold_back v .nil
      rw [← h1, h2]
    · intro h
      rw [red_app, h]; exact h
  by_cases c : redW v = []
  · rw [decide_eq_true c, decide_eq_true (h.mpr c)]
  · rw [decide_eq_false c, decide_eq_false (fun z => c (h.mp z))]
theorem rx_rep1 {B : Bg} {ε : Eps} {L : Own} {ds : List PyData} {n : Int} (hne : ds ≠ []) (hl : ds.length ≤ 1000) (hn : 1 ≤ n ∧ n ≤ 1000) : RX B (rRepT1 B.K) ε L (.d (.tuple ds)) (.d (.int n)) (.d (.tuple (List.replicate n.toNat ds).flatten)) L := fun F σ H v w rp hv hw Q q => by
  obtain ⟨p, vs, rfl, h1, h2⟩ := tup_inv hv
  have hne' : vs ≠ [] := fun e => by
    have := dpa_len h2
    rw [e] at this
    exact hne (List.eq_nil_of_length_eq_zero this.symm)
  refine ⟨p, n, vs, rfl, int_inv hw, tq_sub rp.sub h1, hne', ?_⟩
  by_cases c : n = 1
  · subst c
    refine .inl ⟨rfl, q _ F H (Sub.rfl' F) rp (.tup h1 ?_)⟩
    have e : (List.replicate (1 : Int).toNat ds).flatten = ds := by simp
    rw [e]; exact h2
  · refine .inr ⟨by omega, hn.2, by rw [dpa_len h2]; exact hl, fun n' hn' => ?_⟩
    have hF := sub_none rp.sub hn'
    refine q _ _ _ (sub_fresh hF) (rp.grow hn') (.tup upd_same (dpa_sub (sub_fresh hF) ?_))
    have : ∀ m : Nat, DqAll B.K F (List.replicate m vs).flatten (List.replicate m ds).flatten := fun m => by
      induction m with
      | zero => exact .nil
      | succ m ih => rw [List.replicate_succ, List.replicate_succ, List.flatten_cons, List.flatten_cons]; exact dpa_app h2 ih
    exact this _
abbrev S_law_are_great_right (K : PySem.W.Frag) : Sp := spG K (fun v : Way => [wayD v]) (fun v => GW 8 100 v) PyData.bool (fun _ x => x = true)
def dueW (t : Int) : Way := if t = 0 then [] else [(0, t)]
def wideW (s : Int) : Way := List.replicate 8 (0, 100) ++ List.replicate 8 (0, s)
theorem wide_red {s : Int} (h : s ∈ [100, 99, -100, 1]) : redW (wideW s) = dueW ((wideW s).map (·.2)).sum := by
  simp only [List.mem_cons, List.not_mem_nil, or_false] at h
  rcases h with e | e | e | e <;> rw [e] <;> decide
def strD : PyData → PyData
  | .tuple [_, y] => y
  | d => d
theorem okd_law_are_great_right (Fn : Fun K "_law_are_great_right" "_law_are_great_right" s_law_are_great_right f fd) (T : Bt P mg base) (D_reduced_way : Df P w K mg base 41 "reduced_way" ["way"] (S_reduced_way K)) (D_joined_ways : Df P w K mg base 41 "joined_ways" ["one", "other"] (S_joined_ways K)) (D_turned_way : Df P w K mg base 41 "turned_way" ["way"] (S_turned_way K)) (D_law_is_same_word : GDf P w K mg base 43 "_law_is_same_word" ["one", "other", "due"] (S_law_is_same_word K)) (D_law_orderly : Df P w K mg base 43 "_law_orderly" ["bag", "way"] (S_law_orderly K)) (D_law_is_reduced : GDf P w K mg base 42 "_law_is_reduced" ["way", "due"] (S_law_is_reduced K)) (D_law_same : GDf P w K mg base 41 "_law_same" ["told", "due"] (S_law_same K)) (D_law_is_join : GDf P w K mg base 42 "_law_is_join" ["one", "other"] (S_law_is_join K)) (D_law_back : Df P w K mg base 41 "_law_back" ["way"] (S_law_back K)) (D_law_pick : Df P w K mg base 42 "_law_pick" ["bag", "some"] (S_law_pick K)) : GOk P w K mg base 44 f fd ["bag", "one"] (S_law_are_great_right K) := by
  refine g_G Fn sc_law_are_great_right (by decide) (fun _ => rfl) fun cdv A outer s H hr hG => ⟨_, (pss_cons (ps_par (i := 2) (j := 3) (by rfl) sc_law_are_great_right.nd rfl rfl (by decide) rfl rfl (pa_cons (pe_callD D_turned_way (hr.mono (by decide)) (by rfl) (pa_cons (pv 1) pa_nil)) (pa_cons (pe_ix (r := rIxL K) ix_list (pe_callD D_law_orderly (hr.mono (by decide)) (by rfl) (pa_cons (pv 0) (pa_cons (pv 1) pa_nil))) (pe_un un_neg pe_int) (fun _ _ => rfl)) pa_nil)) (by rfl))
      (pss_cons (ps_par (i := 4) (j := 5) (by rfl) sc_law_are_great_right.nd rfl rfl (by decide) rfl rfl (pa_cons (pe_callD D_joined_ways (hr.mono (by decide)) (by rfl) (pa_cons (pv 1) (pa_cons (pv 2) pa_nil))) (pa_cons (pe_callD D_joined_ways (hr.mono (by decide)) (by rfl) (pa_cons (pv 1) (pa_cons (pv 1) pa_nil))) pa_nil)) (by rfl))
      (pss_cons (ps_if (PW.pt (pw_or (pt_not (pt_val (pe_callG hG D_law_is_reduced (hr.mono (by decide)) (by rfl) (pa_cons (pv 4) (pa_cons (pe_tup pa_nil) pa_nil))))) (pw_or1 (pt_not (pt_val (pe_callG hG D_law_is_same_word (hr.mono (by decide)) (by rfl) (pa_cons (pv 4) (pa_cons (pe_tup pa_nil) (pa_cons pe_bl pa_nil))))))))) (pss_one (ps_ret pe_bl)) pss_nil)
      (pss_cons (ps_if (pt_not (pt_val (pe_callG hG D_law_is_same_word (hr.mono (by decide)) (by rfl) (pa_cons (pv 1) (pa_cons (pv 2) (pa_cons (pe_cmpR (r := rEqD K) (op_eqD hr.units) (pv 3) (pe_callD D_law_back (hr.mono (by decide)) (by rfl) (pa_cons (pv 3) pa_nil)) (nomark _)) pa_nil)))))) (pss_one (ps_ret pe_bl)) pss_nil)
      (pss_cons (ps_set (i := 6) sc_law_are_great_right.nd rfl (.inl rfl) (pe_ix (r := rIxL K) ix_list (pe_callD D_law_orderly (hr.mono (by decide)) (by rfl) (pa_cons (pv 0) (pa_cons (pe_op (r := rCatA K) op_catA (pv 1) (pv 1)) pa_nil))) (pe_un un_neg pe_int) (fun _ _ => rfl)))
      (pss_cons (ps_if (PW.pt (pw_or (pt_not (pt_val (pe_callG hG D_law_is_reduced (hr.mono (by decide)) (by rfl) (pa_cons (pv 5) (pa_cons (pv 6) pa_nil))))) (pw_or1 (pt_not (pt_val (pe_callG hG D_law_is_same_word (hr.mono (by decide)) (by rfl) (pa_cons (pv 5) (pa_cons (pv 1) (pa_cons (pe_cmpR (r := rEqD K) (op_eqD hr.units) (pv 3) (pe_tup pa_nil) (nomark _)) pa_nil))))))))) (pss_one (ps_ret pe_bl)) pss_nil)
      (pss_cons (ps_set (i := 7) sc_law_are_great_right.nd rfl (.inl rfl) (pe_callD D_reduced_way (hr.mono (by decide)) (by rfl) (pa_cons (pv 5) pa_nil)))
      (pss_cons (ps_if (PW.pt (pw_or (pt_not (pt_val (pe_callG hG D_law_is_reduced (hr.mono (by decide)) (by rfl) (pa_cons (pv 7) (pa_cons (pv 6) pa_nil))))) (pw_or1 (pt_not (pt_val (pe_callG hG D_law_same (hr.mono (by decide)) (by rfl) (pa_cons (pe_callD D_turned_way (hr.mono (by decide)) (by rfl) (pa_cons (pv 7) pa_nil)) (pa_cons (pe_callD D_law_back (hr.mono (by decide)) (by rfl) (pa_cons (pv 6) pa_nil)) pa_nil)))))))) (pss_one (ps_ret pe_bl)) pss_nil)
      (pss_cons (ps_if (PW.pt (pw_or (pt_not (pt_val (pe_callG hG D_law_is_same_word (hr.mono (by decide)) (by rfl) (pa_cons (pv 7) (pa_cons (pv 5) (pa_cons pe_bl pa_nil)))))) (pw_or1 (pt_not (pt_val (pe_callG hG D_law_is_join (hr.mono (by decide)) (by rfl) (pa_cons (pv 7) (pa_cons (pe_tup pa_nil) pa_nil)))))))) (pss_one (ps_ret pe_bl)) pss_nil)
      (pss_cons (ps_set (i := 8) sc_law_are_great_right.nd rfl (.inl rfl) (pe_callD D_joined_ways (hr.mono (by decide)) (by rfl) (pa_cons (pe_op (r := rRepT1 K) op_repT1 (pe_tup (pa_cons (pe_tup (pa_cons pe_int (pa_cons pe_int pa_nil))) pa_nil)) pe_int) (pa_cons (pe_op (r := rRepT1 K) op_repT1 (pe_tup (pa_cons (pe_tup (pa_cons pe_int (pa_cons (pe_callD D_law_pick (hr.mono (by decide)) (by rfl) (pa_cons (pv 0) (pa_cons (pe_lst (pa_cons pe_int (pa_cons pe_int (pa_cons (pe_un un_neg pe_int) (pa_cons pe_int pa_nil))))) pa_nil))) pa_nil))) pa_nil)) pe_int) pa_nil))))
      (pss_cons (ps_set (i := 9) sc_law_are_great_right.nd rfl (.inl rfl) (pe_callB (r := rSum K) (cr_sum rfl) (by rfl) T.n_sum (by decide +kernel) (pa_cons (pe_lc (g := gTup K 2 (gCons (gName 10) (gCons (gName 11) gNil))) (own := [("letter", 10), ("stride", 11)]) rfl sc_law_are_great_right.nd (pi_tup (pv 8)) (blkOk_by (own := [("letter", 10), ("stride", 11)]) (N := ["bag", "one", "back", "left", "away", "twice", "due", "told", "wide", "total", "letter", "stride"]) (sc := defScope s_law_are_great_right) (by decide +kernel)) (fun _ _ _ _ _ => (pg_tup rfl (pgs_cons (pg_name (i := 10) sc_law_are_great_right.nd rfl (Or.inl rfl)) (pgs_cons (pg_name (i := 11) sc_law_are_great_right.nd rfl (Or.inl rfl)) pgs_nil)))) (fun _ _ _ _ _ => pts_nil) (fun _ _ _ _ _ => (pv 11))) pa_nil)))
      (pss_cons (ps_set (i := 6) sc_law_are_great_right.nd rfl (.inl rfl) (pe_ifExp (pt_cmpR op_ne (pv 9) pe_int (nomark _)) (pe_tup (pa_cons (pe_tup (pa_cons pe_int (pa_cons (pv 9) pa_nil))) pa_nil)) (pe_tup pa_nil)))
      (pss_one (ps_ret (pe_and (pe_callG hG D_law_is_reduced (hr.mono (by decide)) (by rfl) (pa_cons (pv 8) (pa_cons (pv 6) pa_nil))) (pe_one (pe_callG hG D_law_is_same_word (hr.mono (by decide)) (by rfl) (pa_cons (pv 8) (pa_cons (pe_callD D_reduced_way (hr.mono (by decide)) (by rfl) (pa_cons (pv 8) pa_nil)) (pa_cons pe_bl pa_nil)))))))))))))))))))), ?_⟩
  rintro B Q pb pc b one rfl hg q
  show Ho B _ [bagv pb, wv one, none, none, none, none, none, none, none, none, none, none] [b.at pb pc]
  have h8 := hg.1
  have bl := blen one
  have rl := red_len one
  have brl := blen (redW one)
  have g2 : GW 16 100 (one ++ one) := hg.app hg
  have g2l := g2.1
  have r2l := red_len (one ++ one)
  have gr2 : GW 16 1600 (redW (one ++ one)) := g2.red
  have s0 : Fz.SameOk (wayD []) := (gw_nil (n := 1) (c := 1)).same (by decide) (by decide)
  have sr2 := gr2.same (by decide) (by decide)
  have srb := gr2.back.same (by decide) (by decide)
  have lal : (one ++ backW one).length ≤ 16 := by rw [List.length_append]; omega
  have eaw : redW (one ++ backW one) = [] := red_same_nil rfl
  refine x_seq (x_parW (wa_x (ex_turn (v := one) (ex_v rfl) (by omega)) (wa_v (e := wayD) (w_ordL (pb := pb) (pc := pc) (L2 := fun b' => [b'.at pb pc]) (v := one) rfl (ex_v rfl) (by omega) hg.st (fun b' => .z) fun b1 => wa_nil ⟨_, _, rfl, ?_⟩))))
  refine nxt (x_seq (x_par (a := .d (wayD (one ++ backW one))) (b := .d (wayD (one ++ one))) (ea_cons (ex_join (ex_v rfl) (ex_v rfl) (by omega)) (ea_cons (ex_join (ex_v rfl) (ex_v rfl) (by omega)) ea_nil)) ?_))
  refine nxt (x_seq (x_skip (et_orF (et_noT (ex_isred (v := one ++ backW one) (dw := []) (ex_v rfl) ex_way0 eaw.symm (by omega) s0)) (et_noT (ex_issw (one := one ++ backW one) (other := []) (ex_v rfl) ex_way0 ex_cB (by rw [eaw]; rfl) ⟨by omega, by decide⟩))) ?_))
  refine nxt (x_seq (x_skip (et_noT (ex_issw (one := one) (other := backW one) (ex_v rfl) (ex_v rfl) (ex_eqW (one := redW one) (other := backW (redW one)) (ex_v rfl) (ex_bk (v := redW one) (ex_v rfl) (by omega))) (by rw [red_back]) ⟨by omega, by omega⟩)) ?_))
  refine nxt (x_seq (x_setV (w_ordL (pb := pb) (pc := pc) (L2 := fun b' => [b'.at pb pc]) (v := one ++ one) rfl (ex_catW (ex_v rfl) (ex_v rfl) (by omega)) (by omega) g2.st (fun b' => .z) fun b2 => ?_) (fun x => .s (.s (.s (.s (.s (.s .z))))))))
  refine nxt (x_seq (x_skip (et_orF (et_noT (ex_isred (v := one ++ one) (dw := redW (one ++ one)) (ex_v rfl) (ex_v rfl) rfl (by omega) sr2)) (et_noT (ex_issw (one := one ++ one) (other := one) (ex_v rfl) (ex_v rfl) (ex_eqW (one := redW one) (other := []) (ex_v rfl) ex_way0) (red_double one).symm ⟨by omega, by omega⟩))) ?_))
  refine nxt (x_seq (x_set (ex_red (v := one ++ one) (ex_v rfl) (by omega)) ?_))
  refine nxt (x_seq (x_skip (et_orF (et_noT (ex_isred (v := redW (one ++ one)) (dw := redW (one ++ one)) (ex_v rfl) (ex_v rfl) (red_twice _).symm (by omega) sr2)) (et_noT (ex_sameT (ex_turn (v := redW (one ++ one)) (ex_v rfl) (by omega)) (ex_bk (v := redW (one ++ one)) (ex_v rfl) (by omega)) srb))) ?_))
  refine nxt (x_seq (x_skip (et_orF (et_noT (ex_issw (one := redW (one ++ one)) (other := one ++ one) (ex_v rfl) (ex_v rfl) ex_cB (by rw [red_twice]; simp) ⟨by omega, by omega⟩)) (et_noT (ex_isjoin (one := redW (one ++ one)) (other := []) (ex_v rfl) ex_way0 ⟨gr2.mono (Nat.le_refl _) (by decide), gw_nil⟩))) ?_))
  refine nxt (x_seq (x_setV (e := wayD) (w_callD (wa_x (a := .d (wayD (List.replicate 8 (0, 100)))) (ex_is (ex_rep1 (ds := [stD (0, 100)]) (n := 8) (ex_tup (ds := [stD (0, 100)]) (ea_cons (ex_tup (ds := [.int 0, .int 100]) (ea_cons ex_cI (ea_cons ex_cI ea_nil)) (Nat.le_of_ble_eq_true rfl)) ea_nil) (Nat.le_of_ble_eq_true rfl)) ex_cI (by simp) (by decide) (by decide)) rfl) (wa_v (e := wayD) (w_op (e := wayD) (f := PyData.int) (g := wayD) (w_dispT (e := stD) (wa_v (e := eP PyData.int PyData.int) (w_pair (e := PyData.int) (f := PyData.int) (wv_of (x := (0 : Int)) ex_cI (w_pck (pb := pb) (pc := pc) (L2 := fun b' => [b'.at pb pc]) (e := PyData.int) (xs := [100, 99, -100, 1]) rfl (ex_frz (en_lst (ds := [.int 100, .int 99, .int (-100), .int 1]) (ea_cons ex_cI (ea_cons ex_cI (ea_cons (ex_neg ex_cI) (ea_cons ex_cI ea_nil)))) (Nat.le_of_ble_eq_true rfl))) (fun b' => .z) (by decide) (by decide) fun s b3 hs => wa_nil ⟨[(0, s)], rfl, by show 1 ≤ 100000; decide, wv_of (x := (8 : Int)) ex_cI ⟨List.replicate 8 (0, s), ?_, wa_nil ⟨(List.replicate 8 (0, 100), List.replicate 8 (0, s)), rfl, by show 8 + 8 ≤ 16; decide, fun x hx => ?_⟩⟩⟩))))))))) (fun x => .s (.s (.s (.s (.s (.s (.s (.s .z))))))))))
  · exact rx_rep1 (ds := [stD (0, s)]) (n := 8) (by simp) (by show 1 ≤ 1000; decide) (by decide)
  · have hx : x = wideW s := hx
    subst hx
    have wr := wide_red hs
    have hsb : s.natAbs ≤ 100 ∧ s ≠ 0 := by
      simp only [List.mem_cons, List.not_mem_nil, or_false] at hs
      omega
    have gw : GW 16 100 (wideW s) := by
      refine ⟨by show 16 ≤ 16; decide, fun z hz => ?_⟩
      rcases List.mem_append.mp hz with h | h
      · rw [List.eq_of_mem_replicate h]; exact ⟨by decide, by decide, by decide, by decide⟩
      · rw [List.eq_of_mem_replicate h]; exact ⟨Int.le_refl 0, (by decide : (0 : Int) < 4), hsb.1, hsb.2⟩
    have wl := gw.1
    have sw := gw.red.same (by decide) (by decide)
    refine nxt (x_seq (x_set (a := .d (.int ((wideW s).map (·.2)).sum)) (ex_sum (ns := (wideW s).map (·.2)) (ex_is (ex_frz (en_lcTP (xs := wayL (wideW s)) (fun _ => true) strD (fun d => match d with | .tuple [x, y] => [bagv pb, wv one, wv (backW one), wv (redW one), wv (one ++ backW one), wv (one ++ one), wv (redW (one ++ one)), wv (redW (one ++ one)), wv (wideW s), none, some (.d x), some (.d y)] | _ => []) (ex_v rfl) (by rw [wayL_len]; omega) (gw_tup2 (by simp) (by simp)) (fun d hd => ?_) (fun d hd m => et_yes) (fun d hd _ m => ?_))) ?_) .d) ?_))
    · obtain ⟨z, _, rfl⟩ := List.mem_map.mp hd
      exact gt_tup2 (d := .int z.1) (e := .int z.2)
    · obtain ⟨z, _, rfl⟩ := List.mem_map.mp hd
      exact ex_v rfl
    · rw [filter_yes]
      unfold wayL
      rw [List.map_map, List.map_map]; rfl
    generalize ((wideW s).map (·.2)).sum = t at *
    refine nxt (x_seq (x_set (L1 := [b3.at pb pc]) (a := .d (wayD (dueW t))) (ex_if (b := !decide (t = 0)) (et_test (ex_neI (ex_v rfl) ex_cI)) (fun hb => ?_) (fun hb => ?_)) ?_))
    · have c : ¬ t = 0 := by simpa using hb
      unfold dueW
      rw [if_neg c]
      exact ex_tup (ds := [stD (0, t)]) (ea_cons (ex_tup (ds := [.int 0, .int t]) (ea_cons ex_cI (ea_cons (ex_v rfl) ea_nil)) (Nat.le_of_ble_eq_true rfl)) ea_nil) (Nat.le_of_ble_eq_true rfl)
    · have c : t = 0 := by simpa using hb
      unfold dueW
      rw [if_pos c]
      exact ex_way0
    refine nxt (x_retG q (wv_of (x := true) (ex_boolE (ex_andV (b := true) (c := true) (ex_isred (v := wideW s) (dw := dueW t) (ex_v rfl) (ex_v rfl) wr.symm (by omega) (wr ▸ sw)) (fun _ => ex_issw (one := wideW s) (other := redW (wideW s)) (ex_v rfl) (ex_red (v := wideW s) (ex_v rfl) (by omega)) ex_cB (by rw [red_twice]; simp) ⟨by omega, Nat.le_trans (red_len _) (by omega)⟩) (fun h => nomatch h)) rfl) ⟨rfl, b3, by simp⟩))
end K86

/-! ## E10 -/
set_option Elab.async false
set_option linter.all false
set_option maxRecDepth 100000
set_option maxHeartbeats 4000000
set_option autoImplicit false
namespace K86
open PySem L2 Fz K80 Ways
variable {P : Program} {w : World} {K : PySem.W.Frag} {mg : Str → Option Value} {base : Heap} {f : Addr} {fd : FuncData}
theorem okd_way_sum (Fn : Fun K "way_sum" "way_sum" s_way_sum f fd) (T : Bt P mg base) (C_stride_shares : Df P w K mg base 43 "stride_shares" ["length", "many"] (spR K R_shares)) (C_fraction_plus : Df P w K mg base 43 "fraction_plus" ["one", "other"] (spR K R_plus))
    (C_fraction_times : Df P w K mg base 43 "fraction_times" ["one", "other"] (spR K R_tim)) : FnOk P w K mg base CX0 44 f fd ["way", "word"] (S_way_sum K) := ws_wk (x := "") (ok_way_sum Fn T C_stride_shares C_fraction_plus C_fraction_times)
end K86

/-! ## G11 -/
set_option Elab.async false
set_option linter.all false
set_option maxRecDepth 100000
set_option maxHeartbeats 4000000
set_option autoImplicit false
namespace K86
open PySem L2 Fz K80 Ways
variable {P : Program} {w : World} {K : PySem.W.Frag} {mg : Str → Option Value} {base : Heap} {f : Addr} {fd : FuncData}
abbrev S_law_bag (K : PySem.W.Frag) : Sp := spOwn K
abbrev S_law_asks (K : PySem.W.Frag) : Sp := spLaw K
abbrev S_law (K : PySem.W.Frag) : Sp := spLaw K
theorem okd_law_bag (Fn : Fun K "_law_bag" "_law_bag" s_law_bag f fd) (T : Bt P mg base) : FnOk P w K mg base CX0 41 f fd ["script"] (S_law_bag K) := ok_law_bag Fn T
theorem w_own {B : Bg} {ε : Eps} {L : Own} {E : XK} {pb pc : Addr} {i : Nat} {te tm : TE} {b : Bag} {k m : Int} {L2 : Bag → Own} {κ : Way → Own → Prop} (hb : ε[i]? = some (some (.v (.ref pb)))) (hk : EX B te ε L (.d (.int k)) L) (hm : EX B tm ε L (.d (.int m)) L) (hup : ∀ b', Up L (b.at pb pc) (b'.at pb pc) (L2 b')) (hkk : 1 ≤ k ∧ k ≤ 4) (hmm : 0 ≤ m ∧ m ≤ 100) (q : ∀ (x : Way) b', GW m.toNat 100 x → κ x (L2 b')) : WV B wayD (tCall (S_law_own_way B.K) [] E (tCons (tVar i) (tCons te (tCons tm tNil)))) ε L κ :=
  w_callG (pb := pb) (pc := pc) (wa_x (ex_v hb) (wa_x hk (wa_x hm (wa_nil ⟨(k, m), b, L2, rfl, hup, ⟨hkk, hmm⟩, fun x b' hx => q x b' hx⟩))))
theorem rx_eqW {B : Bg} {ε : Eps} {L : Own} {a b : Way} : RX B (rEqD B.K) ε L (.d (wayD a)) (.d (wayD b)) (.d (.bool (decide (a = b)))) L := fun F σ H v w rp hv hw Q q =>
  ⟨wayD a, wayD b, dq_dp (nodict_shaped (shaped_way a)) (dp_sub rp.sub hv), dq_dp (nodict_shaped (shaped_way b)) (dp_sub rp.sub hw), shaped_way a, shaped_way b, by rw [show PyData.eqv (wayD a) (wayD b) = decide (a = b) from eqv_way a b]; exact q _ F H (Sub.rfl' F) rp (.bl _)⟩
theorem okd_law_asks (Fn : Fun K "_law_asks" "_law_asks" s_law_asks f fd) (T : Bt P mg base) (D_law_bag : Df P w K mg base 41 "_law_bag" ["script"] (S_law_bag K)) (D_law_draw : Df P w K mg base 41 "_law_draw" ["bag", "below"] (S_law_draw K)) (D_law_own_way : Df P w K mg base 44 "_law_own_way" ["bag", "k", "most"] (S_law_own_way K)) (D_law_are_odd_right : GDf P w K mg base 45 "_law_are_odd_right" ["bag", "one"] (S_law_are_odd_right K)) (D_law_are_sums_kept : GDf P w K mg base 45 "_law_are_sums_kept" ["bag", "k", "way"] (S_law_are_sums_kept K)) (D_law_is_order_right : GDf P w K mg base 44 "_law_is_order_right" ["bag", "way"] (S_law_is_order_right K)) (D_law_are_long_right : GDf P w K mg base 45 "_law_are_long_right" ["bag", "k", "one"] (S_law_are_long_right K)) (D_law_orderly : Df P w K mg base 43 "_law_orderly" ["bag", "way"] (S_law_orderly K)) (D_law_is_same_word : GDf P w K mg base 43 "_law_is_same_word" ["one", "other", "due"] (S_law_is_same_word K)) (D_law_are_joins_right : GDf P w K mg base 44 "_law_are_joins_right" ["bag", "k"] (S_law_are_joins_right K)) (D_law_are_great_right : GDf P w K mg base 44 "_law_are_great_right" ["bag", "one"] (S_law_are_great_right K)) : GOk P w K mg base 46 f fd ["script"] (S_law_asks K) := by
  refine g_S Fn sc_law_asks (by decide) fun cdv A outer s H hr hG => ⟨_, (pss_cons (ps_set (i := 1) sc_law_asks.nd rfl (.inl rfl) (pe_callD D_law_bag (hr.mono (by decide)) (by rfl) (pa_cons (pv 0) pa_nil)))
      (pss_cons (ps_set (i := 2) sc_law_asks.nd rfl (.inl rfl) (pe_op op_add pe_int (pe_callD D_law_draw (hr.mono (by decide)) (by rfl) (pa_cons (pv 1) (pa_cons pe_int pa_nil)))))
      (pss_cons (ps_par (i := 3) (j := 4) (by rfl) sc_law_asks.nd rfl rfl (by decide) rfl rfl (pa_cons (pe_callD D_law_own_way (hr.mono (by decide)) (by rfl) (pa_cons (pv 1) (pa_cons (pv 2) (pa_cons pe_int pa_nil)))) (pa_cons (pe_callD D_law_own_way (hr.mono (by decide)) (by rfl) (pa_cons (pv 1) (pa_cons (pv 2) (pa_cons pe_int pa_nil)))) pa_nil)) (by rfl))
      (pss_cons (ps_set (i := 5) sc_law_asks.nd rfl (.inl rfl) (pe_callB (r := rReprD K) (call_reprD hr hG) (by rfl) T.n_repr (by decide +kernel) (pa_cons (pe_lst (pa_cons (pv 3) (pa_cons (pv 4) pa_nil))) pa_nil)))
      (pss_cons (ps_if (PW.pt (pw_or (pt_not (pt_val (pe_callG hG D_law_is_order_right (hr.mono (by decide)) (by rfl) (pa_cons (pv 1) (pa_cons (pv 3) pa_nil))))) (pw_or1 (pt_not (pt_val (pe_callG hG D_law_are_long_right (hr.mono (by decide)) (by rfl) (pa_cons (pv 1) (pa_cons (pv 2) (pa_cons (pv 3) pa_nil))))))))) (pss_one (ps_ret pe_bl)) pss_nil)
      (pss_cons (ps_if (pt_not (pt_val (pe_callG hG D_law_are_odd_right (hr.mono (by decide)) (by rfl) (pa_cons (pv 1) (pa_cons (pv 4) pa_nil))))) (pss_one (ps_ret pe_bl)) pss_nil)
      (pss_cons (ps_set (i := 6) sc_law_asks.nd rfl (.inl rfl) (pe_cmpR (r := rEqD K) (op_eqD hr.units) (pe_ix (r := rIxL K) ix_list (pe_callD D_law_orderly (hr.mono (by decide)) (by rfl) (pa_cons (pv 1) (pa_cons (pv 3) pa_nil))) (pe_un un_neg pe_int) (fun _ _ => rfl)) (pe_ix (r := rIxL K) ix_list (pe_callD D_law_orderly (hr.mono (by decide)) (by rfl) (pa_cons (pv 1) (pa_cons (pv 4) pa_nil))) (pe_un un_neg pe_int) (fun _ _ => rfl)) (nomark _)))
      (pss_cons (ps_if (PW.pt (pw_or (pt_not (pt_val (pe_callG hG D_law_is_same_word (hr.mono (by decide)) (by rfl) (pa_cons (pv 3) (pa_cons (pv 4) (pa_cons (pv 6) pa_nil)))))) (pw_or1 (pt_not (pt_val (pe_callG hG D_law_is_same_word (hr.mono (by decide)) (by rfl) (pa_cons (pv 4) (pa_cons (pv 4) (pa_cons pe_bl pa_nil))))))))) (pss_one (ps_ret pe_bl)) pss_nil)
      (pss_cons (ps_if (pt_not (pt_val (pe_callG hG D_law_are_sums_kept (hr.mono (by decide)) (by rfl) (pa_cons (pv 1) (pa_cons (pv 2) (pa_cons (pe_ifExp (pt_cmpR op_le (pe_callB (r := Evl.rLenS K) call_len_seq (by rfl) T.n_len (by decide +kernel) (pa_cons (pe_op (r := rCatA K) op_catA (pv 3) (pv 4)) pa_nil)) pe_int (nomark _)) (pe_op (r := rCatA K) op_catA (pv 3) (pv 4)) (pv 4)) pa_nil)))))) (pss_one (ps_ret pe_bl)) pss_nil)
      (pss_cons (ps_if (PW.pt (pw_or (pt_not (pt_val (pe_callG hG D_law_are_joins_right (hr.mono (by decide)) (by rfl) (pa_cons (pv 1) (pa_cons (pv 2) pa_nil))))) (pw_or1 (pt_not (pt_val (pe_callG hG D_law_are_great_right (hr.mono (by decide)) (by rfl) (pa_cons (pv 1) (pa_cons (pv 4) pa_nil)))))))) (pss_one (ps_ret pe_bl)) pss_nil)
      (pss_one (ps_ret (pe_cmpR op_eq (pe_callB (r := rReprD K) (call_reprD hr hG) (by rfl) T.n_repr (by decide +kernel) (pa_cons (pe_lst (pa_cons (pv 3) (pa_cons (pv 4) pa_nil))) pa_nil)) (pv 5) (nomark _)))))))))))))), ?_⟩
  rintro B Q a ns rfl hl q
  show Ho B _ [bagv a, none, none, none, none, none, none] [.seq a (ns.map PyData.int)]
  refine x_seq (x_setOwn (k := 0) (ex_v rfl) rfl hl fun pb pc b hpb hpc => ?_)
  refine x_sq (x_setV (w_add (wv_of ex_cI (w_drw (pb := pb) (pc := pc) rfl ex_cI (fun b' => .z) (by decide) fun k0 b1 h0 h1 => ?_))) (fun x => .s (.s .z)))
  have hk : 1 ≤ 1 + k0 ∧ 1 + k0 ≤ 4 := by omega
  generalize 1 + k0 = k at *
  refine nxt (x_seq (x_parW (wa_v (e := wayD) (w_own (pb := pb) (pc := pc) (L2 := fun b' => [b'.at pb pc, .seq a (ns.map PyData.int)]) rfl (ex_v rfl) ex_cI (fun b' => .z) hk (by decide) fun one b2 hone => wa_v (e := wayD) (w_own (pb := pb) (pc := pc) (L2 := fun b' => [b'.at pb pc, .seq a (ns.map PyData.int)]) rfl (ex_v rfl) ex_cI (fun b' => .z) hk (by decide) fun other b3 hother => wa_nil ⟨_, _, rfl, ?_⟩)))))
  have hone : GW 8 100 one := hone
  have hother : GW 8 100 other := hother
  have l1 := hone.1
  have l2 := hother.1
  have sm : Fz.SameOk (eL wayD [one, other]) := same_ways (n := 8) (c := 100) (fun u hu => by
    simp only [List.mem_cons, List.not_mem_nil, or_false] at hu
    rcases hu with e | e <;> rw [e] <;> assumption) (by show 2 ≤ 20; decide) (by decide) (by decide)
  have exrep : ∀ {ε : Eps} {L : Own}, ε[3]? = some (wv one) → ε[4]? = some (wv other) → EX B (tCB (rReprD B.K) (tCons (tLst (tCons (tVar 3) (tCons (tVar 4) tNil))) tNil)) ε L (.d (.str (eL wayD [one, other]).shown)) L := fun h3 h4 => ex_rep sm.1 (ex_frz (en_lst (ds := [wayD one, wayD other]) (ea_cons (ex_v h3) (ea_cons (ex_v h4) ea_nil)) (Nat.le_of_ble_eq_true rfl)))
  refine nxt (x_seq (x_set (exrep rfl rfl) ?_))
  refine nxt (x_seq (x_skipW (wt_orF (wt_noT (w_callG (pb := pb) (pc := pc) (wa_x (ex_v rfl) (wa_x (ex_v rfl) (wa_nil ⟨one, b3, fun b' => [b'.at pb pc, .seq a (ns.map PyData.int)], rfl, fun b' => .z, hone.mono (by decide) (by decide), fun x b4 hx => ⟨hx, rfl, wt_noT (w_callG (pb := pb) (pc := pc) (wa_x (ex_v rfl) (wa_x (ex_v rfl) (wa_x (ex_v rfl) (wa_nil ⟨(k, one), b4, fun b' => [b'.at pb pc, .seq a (ns.map PyData.int)], rfl, fun b' => .z, ⟨hk, hone⟩, fun x b5 hx => ⟨hx, rfl, ?_⟩⟩)))))⟩⟩))))))))
  refine nxt (x_seq (x_skipW (wt_noT (w_callG (pb := pb) (pc := pc) (wa_x (ex_v rfl) (wa_x (ex_v rfl) (wa_nil ⟨other, b5, fun b' => [b'.at pb pc, .seq a (ns.map PyData.int)], rfl, fun b' => .z, hother, fun x b6 hx => ⟨hx, rfl, ?_⟩⟩)))))))
  refine nxt (x_seq (x_setV (e := PyData.bool) (w_op (e := wayD) (f := wayD) (g := PyData.bool) (w_ordL (pb := pb) (pc := pc) (L2 := fun b' => [b'.at pb pc, .seq a (ns.map PyData.int)]) (v := one) rfl (ex_v rfl) (by omega) hone.st (fun b' => .z) fun b7 => w_ordL (pb := pb) (pc := pc) (L2 := fun b' => [b'.at pb pc, .seq a (ns.map PyData.int)]) (v := other) rfl (ex_v rfl) (by omega) hother.st (fun b' => .z) fun b8 => ⟨decide (redW one = redW other), rx_eqW, ?_⟩)) (fun x => .s (.s (.s (.s (.s (.s .z))))))))
  refine nxt (x_seq (x_skip (et_orF (et_noT (ex_issw (one := one) (other := other) (ex_v rfl) (ex_v rfl) (ex_v rfl) rfl ⟨by omega, by omega⟩)) (et_noT (ex_issw (one := other) (other := other) (ex_v rfl) (ex_v rfl) ex_cB (by simp) ⟨by omega, by omega⟩))) ?_))
  obtain ⟨wy, hwy⟩ : ∃ wy, wy = if one.length + other.length ≤ 8 then one ++ other else other := ⟨_, rfl⟩
  have gwy : GW 8 100 wy := by
    rw [hwy]
    split
    · rename_i h
      exact (hone.app hother).len (by rw [List.length_append]; exact h)
    · exact hother
  refine nxt (x_seq (x_skipW (wt_noT (w_callG (pb := pb) (pc := pc) (wa_x (ex_v rfl) (wa_x (ex_v rfl) (wa_x (La := [b8.at pb pc, .seq a (ns.map PyData.int)]) (a := .d (wayD wy)) (ex_if (b := decide (((one ++ other).length : Int) ≤ 8)) (et_test (ex_le (ex_lenW (ex_catW (ex_v rfl) (ex_v rfl) (by omega)) rfl) ex_cI)) (fun hb => ?_) (fun hb => ?_)) (wa_nil ⟨(k, wy), b8, fun b' => [b'.at pb pc, .seq a (ns.map PyData.int)], rfl, fun b' => .z, ⟨hk, gwy⟩, fun x b9 hx => ⟨hx, rfl, ?_⟩⟩))))))))
  · have := of_decide_eq_true hb
    rw [List.length_append] at this
    rw [hwy, if_pos (by omega)]
    exact ex_catW (ex_v rfl) (ex_v rfl) (by omega)
  · have := of_decide_eq_false hb
    rw [List.length_append] at this
    rw [hwy, if_neg (by omega)]
    exact ex_v rfl
  refine nxt (x_seq (x_skipW (wt_orF (wt_noT (w_callG (pb := pb) (pc := pc) (wa_x (ex_v rfl) (wa_x (ex_v rfl) (wa_nil ⟨k, b9, fun b' => [b'.at pb pc, .seq a (ns.map PyData.int)], rfl, fun b' => .z, hk, fun x b10 hx => ⟨hx, rfl, wt_noT (w_callG (pb := pb) (pc := pc) (wa_x (ex_v rfl) (wa_x (ex_v rfl) (wa_nil ⟨other, b10, fun b' => [b'.at pb pc, .seq a (ns.map PyData.int)], rfl, fun b' => .z, hother, fun x b11 hx => ⟨hx, rfl, ?_⟩⟩))))⟩⟩))))))))
  exact nxt (x_retS q (wv_of (x := true) (ex_boolE (ex_eqS (exrep rfl rfl) (ex_v rfl)) (decide_eq_true rfl)) rfl))
theorem okd_law (Fn : Fun K "law" "law" s_law f fd) (T : Bt P mg base) (D_law_asks : GDf P w K mg base 46 "_law_asks" ["script"] (S_law_asks K)) : GOk P w K mg base 47 f fd ["script"] (S_law K) := by
  refine g_S Fn sc_law (by decide) fun cdv A outer s H hr hG => ⟨_, (pss_one (ps_try_thru0 (pss_one (ps_ret (pe_callG hG D_law_asks (hr.mono (by decide)) (by rfl) (pa_cons (pv 0) pa_nil)))))), ?_⟩
  rintro B Q a ns rfl hl q
  exact x_retLaw q rfl .z hl
end K86

/-! ## Fin86 -/
set_option Elab.async false
set_option linter.all false
set_option maxRecDepth 100000
set_option maxHeartbeats 4000000
set_option autoImplicit false
namespace K86
open PySem L2 Fz
theorem kb1 {K : PySem.W.Frag} {fd : FuncData} {ps ks : List Str} {idx : List Nat} (hp : ps.length = 1) (h : ∀ a : Value, bindArgs fd ⟨[], ks.zip [a]⟩ = pure (ps.zip (kwG 1 idx [] [a]))) : KBinds K fd ps ks (kwG 1 idx) (kwG 1 idx) :=
  ⟨fun s us ws _ hl => by
    obtain ⟨rfl, hw⟩ := kwG_shape (m := 0) (hl.trans hp)
    match ws, hw with
    | [a], _ => exact .of_eq (h a), fun r q => kwG_vals r q⟩
theorem all_mk {l : PySem.W.OpenLaw} {w : World} {K : PySem.W.Frag} {h : Heap} {mg : Str → Option Value} {fa : Addr} (X : K.In h) (G : h.Ns mainGlobals mg) (hfa : mg "law" = some (.ref fa)) (ht : l.prog.given.tree = none)
    {f0 f1 f2 f3 f4 f5 f6 f7 f8 f9 f10 f11 f12 f13 f14 f15 f16 f17 f18 f19 f20 f21 f22 f23 f24 f25 f26 f27 f28 f29 f30 f31 f32 f33 f34 f35 f36 f37 : Addr} {od0 an0 od1 an1 od2 an2 od3 an3 od4 an4 od5 an5 od6 an6 od7 an7 od8 an8 od9 an9 od10 an10 od11 an11 od12 an12 od13 an13 od14 an14 od15 an15 od16 an16 od17 an17 od18 an18 od19 an19 od20 an20 od21 an21 od22 an22 od23 an23 od24 an24 od25 an25 od26 an26 od27 an27 od28 an28 od29 an29 od30 an30 od31 an31 od32 an32 od33 an33 od34 an34 od35 an35 od36 an36 od37 an37 : Option Addr} {sl0 sl1 sl2 sl3 sl4 sl5 sl6 sl7 sl8 sl9 sl10 sl11 sl12 sl13 sl14 sl15 sl16 sl17 sl18 sl19 sl20 sl21 sl22 sl23 sl24 sl25 sl26 sl27 sl28 sl29 sl30 sl31 sl32 sl33 sl34 sl35 sl36 sl37 : Array (Option Value)}
    {oc0 kV0 dc0 pm0 cd0 ct0 oc1 kV1 dc1 pm1 cd1 ct1 oc2 kV2 dc2 pm2 cd2 ct2 oc3 kV3 dc3 pm3 cd3 ct3 oc4 kV4 dc4 pm4 cd4 ct4 oc5 kV5 dc5 pm5 cd5 ct5 oc6 kV6 dc6 pm6 cd6 ct6 oc7 kV7 dc7 pm7 cd7 ct7 oc8 kV8 dc8 pm8 cd8 ct8 oc9 kV9 dc9 pm9 cd9 ct9 oc10 kV10 dc10 pm10 cd10 ct10 oc11 kV11 dc11 pm11 cd11 ct11 oc12 kV12 dc12 pm12 cd12 ct12 oc13 kV13 dc13 pm13 cd13 ct13 oc14 kV14 dc14 pm14 cd14 ct14 oc15 kV15 dc15 pm15 cd15 ct15 oc16 kV16 dc16 pm16 cd16 ct16 oc17 kV17 dc17 pm17 cd17 ct17 oc18 kV18 dc18 pm18 cd18 ct18 oc19 kV19 dc19 pm19 cd19 ct19 oc20 kV20 dc20 pm20 cd20 ct20 oc21 kV21 dc21 pm21 cd21 ct21 oc22 kV22 dc22 pm22 cd22 ct22 oc23 kV23 dc23 pm23 cd23 ct23 oc24 kV24 dc24 pm24 cd24 ct24 oc25 kV25 dc25 pm25 cd25 ct25 oc26 kV26 dc26 pm26 cd26 ct26 oc27 kV27 dc27 pm27 cd27 ct27 oc28 kV28 dc28 pm28 cd28 ct28 oc29 kV29 dc29 pm29 cd29 ct29 oc30 kV30 dc30 pm30 cd30 ct30 oc31 kV31 dc31 pm31 cd31 ct31 oc32 kV32 dc32 pm32 cd32 ct32 oc33 kV33 dc33 pm33 cd33 ct33 oc34 kV34 dc34 pm34 cd34 ct34 oc35 kV35 dc35 pm35 cd35 ct35 oc36 kV36 dc36 pm36 cd36 ct36 oc37 kV37 dc37 pm37 cd37 ct37 : Value} {t0 : Tok}
    (a0 : PySem.W.nsIn K mainGlobals "joined_ways" = some (some (.ref f0))) (l0 : K.lookup f0 = some ⟨oc0, od0, .func (PySem.W.fnOf "joined_ways" "joined_ways" (defArgs s_joined_ways) (defBody s_joined_ways) (defScope s_joined_ways) .none kV0 dc0 pm0 an0 cd0 ct0), sl0⟩) (c0 : PySem.W.codeIn K cd0 "joined_ways" = true) (k0 : PySem.W.keepIn K (.ref f0) = true)
    (a1 : PySem.W.nsIn K mainGlobals "turned_way" = some (some (.ref f1))) (l1 : K.lookup f1 = some ⟨oc1, od1, .func (PySem.W.fnOf "turned_way" "turned_way" (defArgs s_turned_way) (defBody s_turned_way) (defScope s_turned_way) .none kV1 dc1 pm1 an1 cd1 ct1), sl1⟩) (c1 : PySem.W.codeIn K cd1 "turned_way" = true) (k1 : PySem.W.keepIn K (.ref f1) = true)
    (a2 : PySem.W.nsIn K mainGlobals "reduced_way" = some (some (.ref f2))) (l2 : K.lookup f2 = some ⟨oc2, od2, .func (PySem.W.fnOf "reduced_way" "reduced_way" (defArgs s_reduced_way) (defBody s_reduced_way) (defScope s_reduced_way) .none kV2 dc2 pm2 an2 cd2 ct2), sl2⟩) (c2 : PySem.W.codeIn K cd2 "reduced_way" = true) (k2 : PySem.W.keepIn K (.ref f2) = true)
    (a3 : PySem.W.nsIn K mainGlobals "are_same_ways" = some (some (.ref f3))) (l3 : K.lookup f3 = some ⟨oc3, od3, .func (PySem.W.fnOf "are_same_ways" "are_same_ways" (defArgs s_are_same_ways) (defBody s_are_same_ways) (defScope s_are_same_ways) .none kV3 dc3 pm3 an3 cd3 ct3), sl3⟩) (c3 : PySem.W.codeIn K cd3 "are_same_ways" = true) (k3 : PySem.W.keepIn K (.ref f3) = true)
    (a4 : PySem.W.nsIn K mainGlobals "common_measure" = some (some (.ref f4))) (l4 : K.lookup f4 = some ⟨oc4, od4, .func (PySem.W.fnOf "common_measure" "common_measure" (defArgs s_common_measure) (defBody s_common_measure) (defScope s_common_measure) .none kV4 dc4 pm4 an4 cd4 ct4), sl4⟩) (c4 : PySem.W.codeIn K cd4 "common_measure" = true) (k4 : PySem.W.keepIn K (.ref f4) = true)
    (a5 : PySem.W.nsIn K mainGlobals "fraction_of" = some (some (.ref f5))) (l5 : K.lookup f5 = some ⟨oc5, od5, .func (PySem.W.fnOf "fraction_of" "fraction_of" (defArgs s_fraction_of) (defBody s_fraction_of) (defScope s_fraction_of) .none kV5 dc5 pm5 an5 cd5 ct5), sl5⟩) (c5 : PySem.W.codeIn K cd5 "fraction_of" = true) (k5 : PySem.W.keepIn K (.ref f5) = true)
    (a6 : PySem.W.nsIn K mainGlobals "fraction_plus" = some (some (.ref f6))) (l6 : K.lookup f6 = some ⟨oc6, od6, .func (PySem.W.fnOf "fraction_plus" "fraction_plus" (defArgs s_fraction_plus) (defBody s_fraction_plus) (defScope s_fraction_plus) .none kV6 dc6 pm6 an6 cd6 ct6), sl6⟩) (c6 : PySem.W.codeIn K cd6 "fraction_plus" = true) (k6 : PySem.W.keepIn K (.ref f6) = true)
    (a7 : PySem.W.nsIn K mainGlobals "fraction_times" = some (some (.ref f7))) (l7 : K.lookup f7 = some ⟨oc7, od7, .func (PySem.W.fnOf "fraction_times" "fraction_times" (defArgs s_fraction_times) (defBody s_fraction_times) (defScope s_fraction_times) .none kV7 dc7 pm7 an7 cd7 ct7), sl7⟩) (c7 : PySem.W.codeIn K cd7 "fraction_times" = true) (k7 : PySem.W.keepIn K (.ref f7) = true)
    (a8 : PySem.W.nsIn K mainGlobals "stride_shares" = some (some (.ref f8))) (l8 : K.lookup f8 = some ⟨oc8, od8, .func (PySem.W.fnOf "stride_shares" "stride_shares" (defArgs s_stride_shares) (defBody s_stride_shares) (defScope s_stride_shares) .none kV8 dc8 pm8 an8 cd8 ct8), sl8⟩) (c8 : PySem.W.codeIn K cd8 "stride_shares" = true) (k8 : PySem.W.keepIn K (.ref f8) = true)
    (a9 : PySem.W.nsIn K mainGlobals "way_sum" = some (some (.ref f9))) (l9 : K.lookup f9 = some ⟨oc9, od9, .func (PySem.W.fnOf "way_sum" "way_sum" (defArgs s_way_sum) (defBody s_way_sum) (defScope s_way_sum) .none kV9 dc9 pm9 an9 cd9 ct9), sl9⟩) (c9 : PySem.W.codeIn K cd9 "way_sum" = true) (k9 : PySem.W.keepIn K (.ref f9) = true)
    (a10 : PySem.W.nsIn K mainGlobals "_law_bag" = some (some (.ref f10))) (l10 : K.lookup f10 = some ⟨oc10, od10, .func (PySem.W.fnOf "_law_bag" "_law_bag" (defArgs s_law_bag) (defBody s_law_bag) (defScope s_law_bag) .none kV10 dc10 pm10 an10 cd10 ct10), sl10⟩) (c10 : PySem.W.codeIn K cd10 "_law_bag" = true) (k10 : PySem.W.keepIn K (.ref f10) = true)
    (a11 : PySem.W.nsIn K mainGlobals "_law_draw" = some (some (.ref f11))) (l11 : K.lookup f11 = some ⟨oc11, od11, .func (PySem.W.fnOf "_law_draw" "_law_draw" (defArgs s_law_draw) (defBody s_law_draw) (defScope s_law_draw) .none kV11 dc11 pm11 an11 cd11 ct11), sl11⟩) (c11 : PySem.W.codeIn K cd11 "_law_draw" = true) (k11 : PySem.W.keepIn K (.ref f11) = true)
    (a12 : PySem.W.nsIn K mainGlobals "_law_pick" = some (some (.ref f12))) (l12 : K.lookup f12 = some ⟨oc12, od12, .func (PySem.W.fnOf "_law_pick" "_law_pick" (defArgs s_law_pick) (defBody s_law_pick) (defScope s_law_pick) .none kV12 dc12 pm12 an12 cd12 ct12), sl12⟩) (c12 : PySem.W.codeIn K cd12 "_law_pick" = true) (k12 : PySem.W.keepIn K (.ref f12) = true)
    (a13 : PySem.W.nsIn K mainGlobals "_law_same" = some (some (.ref f13))) (l13 : K.lookup f13 = some ⟨oc13, od13, .func (PySem.W.fnOf "_law_same" "_law_same" (defArgs s_law_same) (defBody s_law_same) (defScope s_law_same) .none kV13 dc13 pm13 an13 cd13 ct13), sl13⟩) (c13 : PySem.W.codeIn K cd13 "_law_same" = true) (k13 : PySem.W.keepIn K (.ref f13) = true)
    (a14 : PySem.W.nsIn K mainGlobals "_law_stride" = some (some (.ref f14))) (l14 : K.lookup f14 = some ⟨oc14, od14, .func (PySem.W.fnOf "_law_stride" "_law_stride" (defArgs s_law_stride) (defBody s_law_stride) (defScope s_law_stride) .none kV14 dc14 pm14 an14 cd14 ct14), sl14⟩) (c14 : PySem.W.codeIn K cd14 "_law_stride" = true) (k14 : PySem.W.keepIn K (.ref f14) = true)
    (a15 : PySem.W.nsIn K mainGlobals "_law_own_way" = some (some (.ref f15))) (l15 : K.lookup f15 = some ⟨oc15, od15, .func (PySem.W.fnOf "_law_own_way" "_law_own_way" (defArgs s_law_own_way) (defBody s_law_own_way) (defScope s_law_own_way) .none kV15 dc15 pm15 an15 cd15 ct15), sl15⟩) (c15 : PySem.W.codeIn K cd15 "_law_own_way" = true) (k15 : PySem.W.keepIn K (.ref f15) = true)
    (a16 : PySem.W.nsIn K mainGlobals "_law_places" = some (some (.ref f16))) (l16 : K.lookup f16 = some ⟨oc16, od16, .func (PySem.W.fnOf "_law_places" "_law_places" (defArgs s_law_places) (defBody s_law_places) (defScope s_law_places) .none kV16 dc16 pm16 an16 cd16 ct16), sl16⟩) (c16 : PySem.W.codeIn K cd16 "_law_places" = true) (k16 : PySem.W.keepIn K (.ref f16) = true)
    (a17 : PySem.W.nsIn K mainGlobals "_law_put" = some (some (.ref f17))) (l17 : K.lookup f17 = some ⟨oc17, od17, .func (PySem.W.fnOf "_law_put" "_law_put" (defArgs s_law_put) (defBody s_law_put) (defScope s_law_put) .none kV17 dc17 pm17 an17 cd17 ct17), sl17⟩) (c17 : PySem.W.codeIn K cd17 "_law_put" = true) (k17 : PySem.W.keepIn K (.ref f17) = true)
    (a18 : PySem.W.nsIn K mainGlobals "_law_orderly" = some (some (.ref f18))) (l18 : K.lookup f18 = some ⟨oc18, od18, .func (PySem.W.fnOf "_law_orderly" "_law_orderly" (defArgs s_law_orderly) (defBody s_law_orderly) (defScope s_law_orderly) .none kV18 dc18 pm18 an18 cd18 ct18), sl18⟩) (c18 : PySem.W.codeIn K cd18 "_law_orderly" = true) (k18 : PySem.W.keepIn K (.ref f18) = true)
    (a19 : PySem.W.nsIn K mainGlobals "_law_is_let" = some (some (.ref f19))) (l19 : K.lookup f19 = some ⟨oc19, od19, .func (PySem.W.fnOf "_law_is_let" "_law_is_let" (defArgs s_law_is_let) (defBody s_law_is_let) (defScope s_law_is_let) .none kV19 dc19 pm19 an19 cd19 ct19), sl19⟩) (c19 : PySem.W.codeIn K cd19 "_law_is_let" = true) (k19 : PySem.W.keepIn K (.ref f19) = true)
    (a20 : PySem.W.nsIn K mainGlobals "_law_longer" = some (some (.ref f20))) (l20 : K.lookup f20 = some ⟨oc20, od20, .func (PySem.W.fnOf "_law_longer" "_law_longer" (defArgs s_law_longer) (defBody s_law_longer) (defScope s_law_longer) .none kV20 dc20 pm20 an20 cd20 ct20), sl20⟩) (c20 : PySem.W.codeIn K cd20 "_law_longer" = true) (k20 : PySem.W.keepIn K (.ref f20) = true)
    (a21 : PySem.W.nsIn K mainGlobals "_law_otherwise" = some (some (.ref f21))) (l21 : K.lookup f21 = some ⟨oc21, od21, .func (PySem.W.fnOf "_law_otherwise" "_law_otherwise" (defArgs s_law_otherwise) (defBody s_law_otherwise) (defScope s_law_otherwise) .none kV21 dc21 pm21 an21 cd21 ct21), sl21⟩) (c21 : PySem.W.codeIn K cd21 "_law_otherwise" = true) (k21 : PySem.W.keepIn K (.ref f21) = true)
    (a22 : PySem.W.nsIn K mainGlobals "_law_least" = some (some (.ref f22))) (l22 : K.lookup f22 = some ⟨oc22, od22, .func (PySem.W.fnOf "_law_least" "_law_least" (defArgs s_law_least) (defBody s_law_least) (defScope s_law_least) .none kV22 dc22 pm22 an22 cd22 ct22), sl22⟩) (c22 : PySem.W.codeIn K cd22 "_law_least" = true) (k22 : PySem.W.keepIn K (.ref f22) = true)
    (a23 : PySem.W.nsIn K mainGlobals "_law_factorial" = some (some (.ref f23))) (l23 : K.lookup f23 = some ⟨oc23, od23, .func (PySem.W.fnOf "_law_factorial" "_law_factorial" (defArgs s_law_factorial) (defBody s_law_factorial) (defScope s_law_factorial) .none kV23 dc23 pm23 an23 cd23 ct23), sl23⟩) (c23 : PySem.W.codeIn K cd23 "_law_factorial" = true) (k23 : PySem.W.keepIn K (.ref f23) = true)
    (a24 : PySem.W.nsIn K mainGlobals "_law_row" = some (some (.ref f24))) (l24 : K.lookup f24 = some ⟨oc24, od24, .func (PySem.W.fnOf "_law_row" "_law_row" (defArgs s_law_row) (defBody s_law_row) (defScope s_law_row) .none kV24 dc24 pm24 an24 cd24 ct24), sl24⟩) (c24 : PySem.W.codeIn K cd24 "_law_row" = true) (k24 : PySem.W.keepIn K (.ref f24) = true)
    (a25 : PySem.W.nsIn K mainGlobals "_law_back" = some (some (.ref f25))) (l25 : K.lookup f25 = some ⟨oc25, od25, .func (PySem.W.fnOf "_law_back" "_law_back" (defArgs s_law_back) (defBody s_law_back) (defScope s_law_back) .none kV25 dc25 pm25 an25 cd25 ct25), sl25⟩) (c25 : PySem.W.codeIn K cd25 "_law_back" = true) (k25 : PySem.W.keepIn K (.ref f25) = true)
    (a26 : PySem.W.nsIn K mainGlobals "_law_is_reduced" = some (some (.ref f26))) (l26 : K.lookup f26 = some ⟨oc26, od26, .func (PySem.W.fnOf "_law_is_reduced" "_law_is_reduced" (defArgs s_law_is_reduced) (defBody s_law_is_reduced) (defScope s_law_is_reduced) .none kV26 dc26 pm26 an26 cd26 ct26), sl26⟩) (c26 : PySem.W.codeIn K cd26 "_law_is_reduced" = true) (k26 : PySem.W.keepIn K (.ref f26) = true)
    (a27 : PySem.W.nsIn K mainGlobals "_law_is_same_word" = some (some (.ref f27))) (l27 : K.lookup f27 = some ⟨oc27, od27, .func (PySem.W.fnOf "_law_is_same_word" "_law_is_same_word" (defArgs s_law_is_same_word) (defBody s_law_is_same_word) (defScope s_law_is_same_word) .none kV27 dc27 pm27 an27 cd27 ct27), sl27⟩) (c27 : PySem.W.codeIn K cd27 "_law_is_same_word" = true) (k27 : PySem.W.keepIn K (.ref f27) = true)
    (a28 : PySem.W.nsIn K mainGlobals "_law_built" = some (some (.ref f28))) (l28 : K.lookup f28 = some ⟨oc28, od28, .func (PySem.W.fnOf "_law_built" "_law_built" (defArgs s_law_built) (defBody s_law_built) (defScope s_law_built) .none kV28 dc28 pm28 an28 cd28 ct28), sl28⟩) (c28 : PySem.W.codeIn K cd28 "_law_built" = true) (k28 : PySem.W.keepIn K (.ref f28) = true)
    (a29 : PySem.W.nsIn K mainGlobals "_law_is_order_right" = some (some (.ref f29))) (l29 : K.lookup f29 = some ⟨oc29, od29, .func (PySem.W.fnOf "_law_is_order_right" "_law_is_order_right" (defArgs s_law_is_order_right) (defBody s_law_is_order_right) (defScope s_law_is_order_right) .none kV29 dc29 pm29 an29 cd29 ct29), sl29⟩) (c29 : PySem.W.codeIn K cd29 "_law_is_order_right" = true) (k29 : PySem.W.keepIn K (.ref f29) = true)
    (a30 : PySem.W.nsIn K mainGlobals "_law_are_long_right" = some (some (.ref f30))) (l30 : K.lookup f30 = some ⟨oc30, od30, .func (PySem.W.fnOf "_law_are_long_right" "_law_are_long_right" (defArgs s_law_are_long_right) (defBody s_law_are_long_right) (defScope s_law_are_long_right) .none kV30 dc30 pm30 an30 cd30 ct30), sl30⟩) (c30 : PySem.W.codeIn K cd30 "_law_are_long_right" = true) (k30 : PySem.W.keepIn K (.ref f30) = true)
    (a31 : PySem.W.nsIn K mainGlobals "_law_are_odd_right" = some (some (.ref f31))) (l31 : K.lookup f31 = some ⟨oc31, od31, .func (PySem.W.fnOf "_law_are_odd_right" "_law_are_odd_right" (defArgs s_law_are_odd_right) (defBody s_law_are_odd_right) (defScope s_law_are_odd_right) .none kV31 dc31 pm31 an31 cd31 ct31), sl31⟩) (c31 : PySem.W.codeIn K cd31 "_law_are_odd_right" = true) (k31 : PySem.W.keepIn K (.ref f31) = true)
    (a32 : PySem.W.nsIn K mainGlobals "_law_are_sums_kept" = some (some (.ref f32))) (l32 : K.lookup f32 = some ⟨oc32, od32, .func (PySem.W.fnOf "_law_are_sums_kept" "_law_are_sums_kept" (defArgs s_law_are_sums_kept) (defBody s_law_are_sums_kept) (defScope s_law_are_sums_kept) .none kV32 dc32 pm32 an32 cd32 ct32), sl32⟩) (c32 : PySem.W.codeIn K cd32 "_law_are_sums_kept" = true) (k32 : PySem.W.keepIn K (.ref f32) = true)
    (a33 : PySem.W.nsIn K mainGlobals "_law_is_join" = some (some (.ref f33))) (l33 : K.lookup f33 = some ⟨oc33, od33, .func (PySem.W.fnOf "_law_is_join" "_law_is_join" (defArgs s_law_is_join) (defBody s_law_is_join) (defScope s_law_is_join) .none kV33 dc33 pm33 an33 cd33 ct33), sl33⟩) (c33 : PySem.W.codeIn K cd33 "_law_is_join" = true) (k33 : PySem.W.keepIn K (.ref f33) = true)
    (a34 : PySem.W.nsIn K mainGlobals "_law_are_joins_right" = some (some (.ref f34))) (l34 : K.lookup f34 = some ⟨oc34, od34, .func (PySem.W.fnOf "_law_are_joins_right" "_law_are_joins_right" (defArgs s_law_are_joins_right) (defBody s_law_are_joins_right) (defScope s_law_are_joins_right) .none kV34 dc34 pm34 an34 cd34 ct34), sl34⟩) (c34 : PySem.W.codeIn K cd34 "_law_are_joins_right" = true) (k34 : PySem.W.keepIn K (.ref f34) = true)
    (a35 : PySem.W.nsIn K mainGlobals "_law_are_great_right" = some (some (.ref f35))) (l35 : K.lookup f35 = some ⟨oc35, od35, .func (PySem.W.fnOf "_law_are_great_right" "_law_are_great_right" (defArgs s_law_are_great_right) (defBody s_law_are_great_right) (defScope s_law_are_great_right) .none kV35 dc35 pm35 an35 cd35 ct35), sl35⟩) (c35 : PySem.W.codeIn K cd35 "_law_are_great_right" = true) (k35 : PySem.W.keepIn K (.ref f35) = true)
    (a36 : PySem.W.nsIn K mainGlobals "_law_asks" = some (some (.ref f36))) (l36 : K.lookup f36 = some ⟨oc36, od36, .func (PySem.W.fnOf "_law_asks" "_law_asks" (defArgs s_law_asks) (defBody s_law_asks) (defScope s_law_asks) .none kV36 dc36 pm36 an36 cd36 ct36), sl36⟩) (c36 : PySem.W.codeIn K cd36 "_law_asks" = true) (k36 : PySem.W.keepIn K (.ref f36) = true)
    (a37 : PySem.W.nsIn K mainGlobals "law" = some (some (.ref f37))) (l37 : K.lookup f37 = some ⟨oc37, od37, .func (PySem.W.fnOf "law" "law" (defArgs s_law) (defBody s_law) (defScope s_law) .none kV37 dc37 pm37 an37 cd37 ct37), sl37⟩) (c37 : PySem.W.codeIn K cd37 "law" = true) (k37 : PySem.W.keepIn K (.ref f37) = true)
    {c_SumError c_Unfit c_TooMany c_BadText c_BadSum c_BadLog c_Refused c_NothingToUndo c_NothingToRedo c_NoName c_NoVersion : Addr}
    (g_SumError : PySem.W.nsIn K mainGlobals "SumError" = some (some (.ref c_SumError)))
    (g_Unfit : PySem.W.nsIn K mainGlobals "Unfit" = some (some (.ref c_Unfit)))
    (g_TooMany : PySem.W.nsIn K mainGlobals "TooMany" = some (some (.ref c_TooMany)))
    (g_BadText : PySem.W.nsIn K mainGlobals "BadText" = some (some (.ref c_BadText)))
    (g_BadSum : PySem.W.nsIn K mainGlobals "BadSum" = some (some (.ref c_BadSum)))
    (g_BadLog : PySem.W.nsIn K mainGlobals "BadLog" = some (some (.ref c_BadLog)))
    (g_Refused : PySem.W.nsIn K mainGlobals "Refused" = some (some (.ref c_Refused)))
    (g_NothingToUndo : PySem.W.nsIn K mainGlobals "NothingToUndo" = some (some (.ref c_NothingToUndo)))
    (g_NothingToRedo : PySem.W.nsIn K mainGlobals "NothingToRedo" = some (some (.ref c_NothingToRedo)))
    (g_NoName : PySem.W.nsIn K mainGlobals "NoName" = some (some (.ref c_NoName)))
    (g_NoVersion : PySem.W.nsIn K mainGlobals "NoVersion" = some (some (.ref c_NoVersion)))
    (z_super : PySem.W.nsIn K mainGlobals "super" = some none) (z_opq : PySem.W.nsIn K PySem.cStatics "thirdparty.any" = some none) (z_top : (l.prog.main.scope.names.lookup ("super" : Str)).isSome = false)
    (z_gc : PySem.W.specialIn K (.builtin "object.__class__") "__get__" = some (some (.builtin "getset_descriptor.__get__"))) (z_tk : PySem.W.takesIn K (.builtin "object.__class__") = some true)
    {nm_TooMany q_TooMany : Str} {N_TooMany : Addr} {bs_TooMany : List Value} {sn_TooMany : List Str} {sub_TooMany : List Value} {ab_TooMany : Bool} {col_TooMany : Option Bool} {dd_TooMany : Option Addr} {k0_TooMany k1_TooMany k2_TooMany k3_TooMany k5_TooMany : Option Value}
    (xL_TooMany : K.lookup c_TooMany = some (excClassObj nm_TooMany q_TooMany c_TooMany N_TooMany bs_TooMany [.ref c_SumError, .type "ValueError", .type "Exception", .type "BaseException", .type "object"] true sn_TooMany sub_TooMany ab_TooMany col_TooMany dd_TooMany k0_TooMany k1_TooMany k2_TooMany k3_TooMany k5_TooMany "ValueError.__new__"))
    (sa_TooMany : PySem.W.findIn K (.ref c_TooMany) "__setattr__" = some (some (.builtin "object.__setattr__")))
    (ga_TooMany : PySem.W.findIn K (.ref c_TooMany) "__getattribute__" = some (some (.builtin "BaseException.__getattribute__")))
    (gg_TooMany : PySem.W.findIn K (.ref c_TooMany) "__getattr__" = some none)
    (nb_TooMany : PySem.W.findIn K (.ref c_TooMany) "limit" = some none)
    (cl_TooMany : PySem.W.findIn K (.ref c_TooMany) "__class__" = some (some (.builtin "object.__class__")))
    (eC_TooMany : PySem.W.subIn K (.ref c_TooMany) (.type "BaseException") = some true)
    (tC_TooMany : PySem.W.typeIn K (.ref c_TooMany) = some (.type "type"))
    (hC_TooMany : PySem.W.hasDictIn K c_TooMany = true)
    (kC_TooMany : PySem.W.keepIn K (.ref c_TooMany) = true)
    (iC_TooMany : PySem.W.isClsIn K c_TooMany = true)
    (sC_TooMany : PySem.W.subIn K (.ref c_TooMany) (.ref c_TooMany) = some true)
    (vE_TooMany : PySem.W.subIn K (.ref c_TooMany) (.type "ValueError") = some true)
    (se_TooMany : PySem.W.mroIn K c_TooMany (.ref c_TooMany) = some true)
    (mo_TooMany : PySem.W.mroIn K c_TooMany (.type "object") = some true)
    (su_TooMany : PySem.W.ks_superIn K c_TooMany c_TooMany "__init__" = some (some (.builtin "ValueError.__init__")))
    {fi_TooMany cda_TooMany cc_TooMany : Addr} {ioc_TooMany idoc_TooMany ipm_TooMany ict_TooMany ccl_TooMany cl2_TooMany : Value} {iod_TooMany ian_TooMany cdd_TooMany cld_TooMany : Option Addr} {iq_TooMany ifile_TooMany : Str} {iosl_TooMany ccs_TooMany csl_TooMany : Array (Option Value)} {ivs_TooMany : Array Value} {itf_TooMany : Tok} {p1_TooMany p2_TooMany r1_TooMany r2_TooMany r3_TooMany r4_TooMany r5_TooMany r6_TooMany q1_TooMany q2_TooMany q3_TooMany q4_TooMany : Pos} {in_TooMany : Nat}
    (a1_TooMany : PySem.W.findIn K (.ref c_TooMany) "__init__" = some (some (.ref fi_TooMany))) (t1_TooMany : PySem.W.typeIn K (.ref fi_TooMany) = some (.type "function"))
    (l1_TooMany : K.lookup fi_TooMany = some ⟨ioc_TooMany, iod_TooMany, .func (PySem.W.fnX "__init__" iq_TooMany (Fz.Own.iA "limit" p1_TooMany p2_TooMany) (Fz.Own.iB "too many" "limit" r1_TooMany r2_TooMany r3_TooMany r4_TooMany r5_TooMany r6_TooMany q1_TooMany q2_TooMany q3_TooMany q4_TooMany in_TooMany) (Fz.Own.iS "limit") [("__class__", cc_TooMany)] .none .none idoc_TooMany ipm_TooMany ian_TooMany (.ref cda_TooMany) ict_TooMany), iosl_TooMany⟩)
    (c1_TooMany : PySem.W.codeIn K (.ref cda_TooMany) iq_TooMany = true) (lc_TooMany : K.lookup cda_TooMany = some ⟨ccl_TooMany, cdd_TooMany, .fields ivs_TooMany, ccs_TooMany⟩) (lx_TooMany : K.lookup cc_TooMany = some ⟨cl2_TooMany, cld_TooMany, .cell (some (.ref c_TooMany)), csl_TooMany⟩)
    (vs_TooMany : ivs_TooMany[2]? = some (.str ifile_TooMany itf_TooMany)) (fl_TooMany : ((l.prog.main.file : Str) == ifile_TooMany) = true) (ln_TooMany : (r3_TooMany.endLine == r5_TooMany.line) = true)
    (k_TooMany_SumError : PySem.W.kitOne K (.ref c_TooMany) (.ref c_SumError) = some true)
    (k_TooMany_Unfit : PySem.W.kitOne K (.ref c_TooMany) (.ref c_Unfit) = some false)
    (k_TooMany_TooMany : PySem.W.kitOne K (.ref c_TooMany) (.ref c_TooMany) = some true)
    (k_TooMany_BadText : PySem.W.kitOne K (.ref c_TooMany) (.ref c_BadText) = some false)
    (k_TooMany_BadSum : PySem.W.kitOne K (.ref c_TooMany) (.ref c_BadSum) = some false)
    (k_TooMany_BadLog : PySem.W.kitOne K (.ref c_TooMany) (.ref c_BadLog) = some false)
    (k_TooMany_Refused : PySem.W.kitOne K (.ref c_TooMany) (.ref c_Refused) = some false)
    (k_TooMany_NothingToUndo : PySem.W.kitOne K (.ref c_TooMany) (.ref c_NothingToUndo) = some false)
    (k_TooMany_NothingToRedo : PySem.W.kitOne K (.ref c_TooMany) (.ref c_NothingToRedo) = some false)
    (k_TooMany_NoName : PySem.W.kitOne K (.ref c_TooMany) (.ref c_NoName) = some false)
    (k_TooMany_NoVersion : PySem.W.kitOne K (.ref c_TooMany) (.ref c_NoVersion) = some false)
    (kv_TooMany : PySem.W.kitOne K (.ref c_TooMany) (.type "ValueError") = some true)
    (z0 : PySem.W.nsIn K mainGlobals "len" = some none)
    (z1 : PySem.W.nsIn K mainGlobals "tuple" = some none)
    (z2 : PySem.W.nsIn K mainGlobals "abs" = some none)
    (z3 : PySem.W.nsIn K mainGlobals "range" = some none)
    (z4 : PySem.W.nsIn K mainGlobals "enumerate" = some none)
    (z5 : PySem.W.nsIn K mainGlobals "list" = some none)
    (z6 : PySem.W.nsIn K mainGlobals "int" = some none)
    (z7 : PySem.W.nsIn K mainGlobals "reversed" = some none)
    (z8 : PySem.W.nsIn K mainGlobals "repr" = some none)
    (z9 : PySem.W.nsIn K mainGlobals "all" = some none)
    (z10 : PySem.W.nsIn K mainGlobals "isinstance" = some none)
    (z11 : PySem.W.nsIn K mainGlobals "ValueError" = some none)
    (z12 : PySem.W.nsIn K mainGlobals "sum" = some none)
    (y0 : PySem.W.nsIn K mainGlobals "MAX_GREAT_WAY" = some (some (.int 16 t0)))
    : ∃ fd : FuncData, (∀ (s : Shared) (v : Value), BindsTo s fd ⟨[v], []⟩ [("script", v)]) ∧ ∀ base : Heap, K.In base → base.Ns mainGlobals mg → base.NoSeer → GOk l.prog w K mg base 47 fa fd ["script"] (spLaw K) := by
  have e := hfa.symm.trans (PySem.W.mg_of X G a37)
  cases e
  have F0 := fun_mk (st := s_joined_ways) l0 c0 k0
  have F1 := fun_mk (st := s_turned_way) l1 c1 k1
  have F2 := fun_mk (st := s_reduced_way) l2 c2 k2
  have F3 := fun_mk (st := s_are_same_ways) l3 c3 k3
  have F4 := fun_mk (st := s_common_measure) l4 c4 k4
  have F5 := fun_mk (st := s_fraction_of) l5 c5 k5
  have F6 := fun_mk (st := s_fraction_plus) l6 c6 k6
  have F7 := fun_mk (st := s_fraction_times) l7 c7 k7
  have F8 := fun_mk (st := s_stride_shares) l8 c8 k8
  have F9 := fun_mk (st := s_way_sum) l9 c9 k9
  have F10 := fun_mk (st := s_law_bag) l10 c10 k10
  have F11 := fun_mk (st := s_law_draw) l11 c11 k11
  have F12 := fun_mk (st := s_law_pick) l12 c12 k12
  have F13 := fun_mk (st := s_law_same) l13 c13 k13
  have F14 := fun_mk (st := s_law_stride) l14 c14 k14
  have F15 := fun_mk (st := s_law_own_way) l15 c15 k15
  have F16 := fun_mk (st := s_law_places) l16 c16 k16
  have F17 := fun_mk (st := s_law_put) l17 c17 k17
  have F18 := fun_mk (st := s_law_orderly) l18 c18 k18
  have F19 := fun_mk (st := s_law_is_let) l19 c19 k19
  have F20 := fun_mk (st := s_law_longer) l20 c20 k20
  have F21 := fun_mk (st := s_law_otherwise) l21 c21 k21
  have F22 := fun_mk (st := s_law_least) l22 c22 k22
  have F23 := fun_mk (st := s_law_factorial) l23 c23 k23
  have F24 := fun_mk (st := s_law_row) l24 c24 k24
  have F25 := fun_mk (st := s_law_back) l25 c25 k25
  have F26 := fun_mk (st := s_law_is_reduced) l26 c26 k26
  have F27 := fun_mk (st := s_law_is_same_word) l27 c27 k27
  have F28 := fun_mk (st := s_law_built) l28 c28 k28
  have F29 := fun_mk (st := s_law_is_order_right) l29 c29 k29
  have F30 := fun_mk (st := s_law_are_long_right) l30 c30 k30
  have F31 := fun_mk (st := s_law_are_odd_right) l31 c31 k31
  have F32 := fun_mk (st := s_law_are_sums_kept) l32 c32 k32
  have F33 := fun_mk (st := s_law_is_join) l33 c33 k33
  have F34 := fun_mk (st := s_law_are_joins_right) l34 c34 k34
  have F35 := fun_mk (st := s_law_are_great_right) l35 c35 k35
  have F36 := fun_mk (st := s_law_asks) l36 c36 k36
  have F37 := fun_mk (st := s_law) l37 c37 k37
  have b0 := F0.binds (ps := ["one", "other"]) fun _ _ _ _ _ _ us hl => match us, hl with | [_, _], _ => rfl
  have b1 := F1.binds (ps := ["way"]) fun _ _ _ _ _ _ us hl => match us, hl with | [_], _ => rfl
  have b2 := F2.binds (ps := ["way"]) fun _ _ _ _ _ _ us hl => match us, hl with | [_], _ => rfl
  have b3 := F3.binds (ps := ["one", "other"]) fun _ _ _ _ _ _ us hl => match us, hl with | [_, _], _ => rfl
  have b4 := F4.binds (ps := ["one", "other"]) fun _ _ _ _ _ _ us hl => match us, hl with | [_, _], _ => rfl
  have b5 := F5.binds (ps := ["top", "bottom"]) fun _ _ _ _ _ _ us hl => match us, hl with | [_, _], _ => rfl
  have b6 := F6.binds (ps := ["one", "other"]) fun _ _ _ _ _ _ us hl => match us, hl with | [_, _], _ => rfl
  have b7 := F7.binds (ps := ["one", "other"]) fun _ _ _ _ _ _ us hl => match us, hl with | [_, _], _ => rfl
  have b8 := F8.binds (ps := ["length", "many"]) fun _ _ _ _ _ _ us hl => match us, hl with | [_, _], _ => rfl
  have b9 := F9.binds (ps := ["way", "word"]) fun _ _ _ _ _ _ us hl => match us, hl with | [_, _], _ => rfl
  have b10 := F10.binds (ps := ["script"]) fun _ _ _ _ _ _ us hl => match us, hl with | [_], _ => rfl
  have b11 := F11.binds (ps := ["bag", "below"]) fun _ _ _ _ _ _ us hl => match us, hl with | [_, _], _ => rfl
  have b12 := F12.binds (ps := ["bag", "some"]) fun _ _ _ _ _ _ us hl => match us, hl with | [_, _], _ => rfl
  have b13 := F13.binds (ps := ["told", "due"]) fun _ _ _ _ _ _ us hl => match us, hl with | [_, _], _ => rfl
  have b14 := F14.binds (ps := ["bag"]) fun _ _ _ _ _ _ us hl => match us, hl with | [_], _ => rfl
  have b15 := F15.binds (ps := ["bag", "k", "most"]) fun _ _ _ _ _ _ us hl => match us, hl with | [_, _, _], _ => rfl
  have b16 := F16.binds (ps := ["way"]) fun _ _ _ _ _ _ us hl => match us, hl with | [_], _ => rfl
  have b17 := F17.binds (ps := ["way", "at"]) fun _ _ _ _ _ _ us hl => match us, hl with | [_, _], _ => rfl
  have b18 := F18.binds (ps := ["bag", "way"]) fun _ _ _ _ _ _ us hl => match us, hl with | [_, _], _ => rfl
  have b19 := F19.binds (ps := ["way"]) fun _ _ _ _ _ _ us hl => match us, hl with | [_], _ => rfl
  have b20 := F20.binds (ps := ["bag", "k", "way", "most"]) fun _ _ _ _ _ _ us hl => match us, hl with | [_, _, _, _], _ => rfl
  have b21 := F21.binds (ps := ["bag", "k", "way", "kind"]) fun _ _ _ _ _ _ us hl => match us, hl with | [_, _, _, _], _ => rfl
  have b22 := F22.binds (ps := ["upper", "lower"]) fun _ _ _ _ _ _ us hl => match us, hl with | [_, _], _ => rfl
  have b23 := F23.binds (ps := ["many"]) fun _ _ _ _ _ _ us hl => match us, hl with | [_], _ => rfl
  have b24 := F24.binds (ps := ["way", "word"]) fun _ _ _ _ _ _ us hl => match us, hl with | [_, _], _ => rfl
  have b25 := F25.binds (ps := ["way"]) fun _ _ _ _ _ _ us hl => match us, hl with | [_], _ => rfl
  have b26 := F26.binds (ps := ["way", "due"]) fun _ _ _ _ _ _ us hl => match us, hl with | [_, _], _ => rfl
  have b27 := F27.binds (ps := ["one", "other", "due"]) fun _ _ _ _ _ _ us hl => match us, hl with | [_, _, _], _ => rfl
  have b28 := F28.binds (ps := ["way"]) fun _ _ _ _ _ _ us hl => match us, hl with | [_], _ => rfl
  have b29 := F29.binds (ps := ["bag", "way"]) fun _ _ _ _ _ _ us hl => match us, hl with | [_, _], _ => rfl
  have b30 := F30.binds (ps := ["bag", "k", "one"]) fun _ _ _ _ _ _ us hl => match us, hl with | [_, _, _], _ => rfl
  have b31 := F31.binds (ps := ["bag", "one"]) fun _ _ _ _ _ _ us hl => match us, hl with | [_, _], _ => rfl
  have b32 := F32.binds (ps := ["bag", "k", "way"]) fun _ _ _ _ _ _ us hl => match us, hl with | [_, _, _], _ => rfl
  have b33 := F33.binds (ps := ["one", "other"]) fun _ _ _ _ _ _ us hl => match us, hl with | [_, _], _ => rfl
  have b34 := F34.binds (ps := ["bag", "k"]) fun _ _ _ _ _ _ us hl => match us, hl with | [_, _], _ => rfl
  have b35 := F35.binds (ps := ["bag", "one"]) fun _ _ _ _ _ _ us hl => match us, hl with | [_, _], _ => rfl
  have b36 := F36.binds (ps := ["script"]) fun _ _ _ _ _ _ us hl => match us, hl with | [_], _ => rfl
  have b37 := F37.binds (ps := ["script"]) fun _ _ _ _ _ _ us hl => match us, hl with | [_], _ => rfl
  refine ⟨PySem.W.fnOf "law" "law" (defArgs s_law) (defBody s_law) (defScope s_law) .none kV37 dc37 pm37 an37 cd37 ct37, fun s v => .of_eq rfl, fun base _ _ hN => ?_⟩
  have T : Bt l.prog mg base := ⟨PySem.W.mg_none_of X G z0, PySem.W.mg_none_of X G z1, PySem.W.mg_none_of X G z2, PySem.W.mg_none_of X G z3, PySem.W.mg_none_of X G z4, PySem.W.mg_none_of X G z5, PySem.W.mg_none_of X G z6, PySem.W.mg_none_of X G z7, PySem.W.mg_none_of X G z8, PySem.W.mg_none_of X G z9, PySem.W.mg_none_of X G z10, PySem.W.mg_none_of X G z11, PySem.W.mg_none_of X G z12, ⟨t0, PySem.W.mg_of X G y0⟩, hN, ht⟩
  have V : Cs l.prog K mg ⟨c_SumError, c_Unfit, c_TooMany, c_BadText, c_BadSum, c_BadLog, c_Refused, c_NothingToUndo, c_NothingToRedo, c_NoName, c_NoVersion, fi_TooMany⟩ := ⟨PySem.W.mg_of X G g_SumError, PySem.W.mg_of X G g_Unfit, PySem.W.mg_of X G g_TooMany, PySem.W.mg_of X G g_BadText, PySem.W.mg_of X G g_BadSum, PySem.W.mg_of X G g_BadLog, PySem.W.mg_of X G g_Refused, PySem.W.mg_of X G g_NothingToUndo, PySem.W.mg_of X G g_NothingToRedo, PySem.W.mg_of X G g_NoName, PySem.W.mg_of X G g_NoVersion, { gC := PySem.W.mg_of X G g_TooMany, cls := ⟨_, _, _, _, _, _, _, _, _, _, _, _, _, _, _, xL_TooMany, (by first | rfl | exact (by decide +kernel : PySem.HandSPX.refsVE [.type "ValueError", .type "Exception", .type "BaseException", .type "object"] = true))⟩, sa := sa_TooMany, ga := ga_TooMany, gg := gg_TooMany, noN := nb_TooMany, iC := a1_TooMany, tC := t1_TooMany, kC := kC_TooMany, exC := eC_TooMany, tyC := tC_TooMany, hdC := hC_TooMany, te := PySem.W.exm_ref eC_TooMany hC_TooMany tC_TooMany sC_TooMany, sup := su_TooMany, opq := z_opq, vE := vE_TooMany, self := se_TooMany, gS := PySem.W.mg_none_of X G z_super, top := z_top, fok := by decide, fn := ⟨_, _, _, _, _, _, _, _, _, _, _, _, _, _, _, _, _, _, _, _, _, _, _, _, _, _, _, _, _, _, _, _, l1_TooMany, c1_TooMany, lc_TooMany, vs_TooMany, fl_TooMany, lx_TooMany, ln_TooMany⟩ }, ⟨ga_TooMany, gg_TooMany, eC_TooMany, hC_TooMany, cl_TooMany, z_gc, z_tk, mo_TooMany⟩, k_TooMany_SumError, k_TooMany_Unfit, k_TooMany_TooMany, k_TooMany_BadText, k_TooMany_BadSum, k_TooMany_BadLog, k_TooMany_Refused, k_TooMany_NothingToUndo, k_TooMany_NothingToRedo, k_TooMany_NoName, k_TooMany_NoVersion, kv_TooMany⟩
  have Ookd_law_bag := okd_law_bag (w := w) F10 T 
  have D_law_bag := Df.mk' Ookd_law_bag (PySem.W.mg_of X G a10) k10 b10
  have Ookd_law_draw := okd_law_draw (w := w) F11 T 
  have D_law_draw := Df.mk' Ookd_law_draw (PySem.W.mg_of X G a11) k11 b11
  have Ook_law_draw := ok_law_draw (w := w) F11 T 
  have C_law_draw := Df.mk' Ook_law_draw (PySem.W.mg_of X G a11) k11 b11
  have Ookd_law_pick := okd_law_pick (w := w) F12 T C_law_draw
  have D_law_pick := Df.mk' Ookd_law_pick (PySem.W.mg_of X G a12) k12 b12
  have Ookd_law_stride := okd_law_stride (w := w) F14 T D_law_pick D_law_draw
  have D_law_stride := Df.mk' Ookd_law_stride (PySem.W.mg_of X G a14) k14 b14
  have Ookd_law_own_way := okd_law_own_way (w := w) F15 T D_law_pick D_law_draw D_law_stride
  have D_law_own_way := Df.mk' Ookd_law_own_way (PySem.W.mg_of X G a15) k15 b15
  have Ookd_law_places := okd_law_places (w := w) F16 T 
  have D_law_places := Df.mk' Ookd_law_places (PySem.W.mg_of X G a16) k16 b16
  have Ookd_law_put := okd_law_put (w := w) F17 T 
  have D_law_put := Df.mk' Ookd_law_put (PySem.W.mg_of X G a17) k17 b17
  have Ookd_law_orderly := okd_law_orderly (w := w) F18 T D_law_places D_law_put D_law_pick
  have D_law_orderly := Df.mk' Ookd_law_orderly (PySem.W.mg_of X G a18) k18 b18
  have Ookd_law_is_let := okd_law_is_let (w := w) F19 T 
  have D_law_is_let := Df.mk' Ookd_law_is_let (PySem.W.mg_of X G a19) k19 b19
  have Ookd_law_otherwise := okd_law_otherwise (w := w) F21 T D_law_draw D_law_stride
  have D_law_otherwise := Df.mk' Ookd_law_otherwise (PySem.W.mg_of X G a21) k21 b21
  have Ookd_law_same := okd_law_same (w := w) F13 T 
  have D_law_same := GDf.mk' Ookd_law_same (PySem.W.mg_of X G a13) k13 b13
  have Ookd_reduced_way := okd_reduced_way (w := w) F2 T 
  have D_reduced_way := Df.mk' Ookd_reduced_way (PySem.W.mg_of X G a2) k2 b2
  have DK_reduced_way_way : DfK l.prog w K mg base _ "reduced_way" ["way"] ["way"] (kwG 1 [0]) (kwG 1 [0]) _ := ⟨_, _, Ookd_reduced_way, PySem.W.mg_of X G a2, k2, kb1 rfl fun _ => rfl⟩
  have Ookd_law_is_reduced := okd_law_is_reduced (w := w) F26 T D_law_same D_reduced_way DK_reduced_way_way
  have D_law_is_reduced := GDf.mk' Ookd_law_is_reduced (PySem.W.mg_of X G a26) k26 b26
  have Ook_reduced_way := ok_reduced_way (w := w) F2 T 
  have C_reduced_way := Df.mk' Ook_reduced_way (PySem.W.mg_of X G a2) k2 b2
  have Ookd_are_same_ways := okd_are_same_ways (w := w) F3 T C_reduced_way
  have D_are_same_ways := Df.mk' Ookd_are_same_ways (PySem.W.mg_of X G a3) k3 b3
  have DK_are_same_ways_one_other : DfK l.prog w K mg base _ "are_same_ways" ["one", "other"] ["one", "other"] (kwG 2 [0, 1]) (kwG 2 [0, 1]) _ := ⟨_, _, Ookd_are_same_ways, PySem.W.mg_of X G a3, k3, kb2 rfl fun _ _ => rfl⟩
  have Ookd_law_is_same_word := okd_law_is_same_word (w := w) F27 T D_law_same D_are_same_ways DK_are_same_ways_one_other
  have D_law_is_same_word := GDf.mk' Ookd_law_is_same_word (PySem.W.mg_of X G a27) k27 b27
  have Ookd_law_are_odd_right := okd_law_are_odd_right (w := w) F31 T D_law_pick D_law_orderly D_law_stride D_law_is_let D_law_otherwise D_law_draw D_law_is_reduced D_law_is_same_word
  have D_law_are_odd_right := GDf.mk' Ookd_law_are_odd_right (PySem.W.mg_of X G a31) k31 b31
  have Ookd_law_least := okd_law_least (w := w) F22 T 
  have D_law_least := Df.mk' Ookd_law_least (PySem.W.mg_of X G a22) k22 b22
  have Ookd_law_factorial := okd_law_factorial (w := w) F23 T 
  have D_law_factorial := Df.mk' Ookd_law_factorial (PySem.W.mg_of X G a23) k23 b23
  have Ookd_law_row := okd_law_row (w := w) F24 T 
  have D_law_row := Df.mk' Ookd_law_row (PySem.W.mg_of X G a24) k24 b24
  have Ook_common_measure := ok_common_measure (w := w) F4 T 
  have C_common_measure := Df.mk' Ook_common_measure (PySem.W.mg_of X G a4) k4 b4
  have Ook_fraction_of := ok_fraction_of (w := w) F5 T C_common_measure
  have C_fraction_of := Df.mk' Ook_fraction_of (PySem.W.mg_of X G a5) k5 b5
  have Ook_stride_shares := ok_stride_shares (w := w) F8 T C_fraction_of
  have C_stride_shares := Df.mk' Ook_stride_shares (PySem.W.mg_of X G a8) k8 b8
  have Ook_fraction_plus := ok_fraction_plus (w := w) F6 T C_fraction_of
  have C_fraction_plus := Df.mk' Ook_fraction_plus (PySem.W.mg_of X G a6) k6 b6
  have Ook_fraction_times := ok_fraction_times (w := w) F7 T C_fraction_of
  have C_fraction_times := Df.mk' Ook_fraction_times (PySem.W.mg_of X G a7) k7 b7
  have Ookd_way_sum := okd_way_sum (w := w) F9 T C_stride_shares C_fraction_plus C_fraction_times
  have D_way_sum := Df.mk' Ookd_way_sum (PySem.W.mg_of X G a9) k9 b9
  have DK_way_sum_way_word : DfK l.prog w K mg base _ "way_sum" ["way", "word"] ["way", "word"] (kwG 2 [0, 1]) (kwG 2 [0, 1]) _ := ⟨_, _, Ookd_way_sum, PySem.W.mg_of X G a9, k9, kb2 rfl fun _ _ => rfl⟩
  have Ookd_law_are_sums_kept := okd_law_are_sums_kept (w := w) F32 T D_reduced_way D_law_least D_law_orderly D_law_factorial D_law_draw D_law_row D_law_same D_way_sum DK_way_sum_way_word
  have D_law_are_sums_kept := GDf.mk' Ookd_law_are_sums_kept (PySem.W.mg_of X G a32) k32 b32
  have Ookd_turned_way := okd_turned_way (w := w) F1 T 
  have D_turned_way := Df.mk' Ookd_turned_way (PySem.W.mg_of X G a1) k1 b1
  have DK_turned_way_way : DfK l.prog w K mg base _ "turned_way" ["way"] ["way"] (kwG 1 [0]) (kwG 1 [0]) _ := ⟨_, _, Ookd_turned_way, PySem.W.mg_of X G a1, k1, kb1 rfl fun _ => rfl⟩
  have Ookd_law_back := okd_law_back (w := w) F25 T 
  have D_law_back := Df.mk' Ookd_law_back (PySem.W.mg_of X G a25) k25 b25
  have Ookd_law_is_order_right := okd_law_is_order_right (w := w) F29 T D_law_orderly D_reduced_way D_turned_way D_law_is_reduced D_law_same D_law_is_let D_law_back D_law_is_same_word DK_turned_way_way
  have D_law_is_order_right := GDf.mk' Ookd_law_is_order_right (PySem.W.mg_of X G a29) k29 b29
  have Ookd_law_longer := okd_law_longer (w := w) F20 T D_law_draw D_law_stride
  have D_law_longer := Df.mk' Ookd_law_longer (PySem.W.mg_of X G a20) k20 b20
  have Ookd_joined_ways := okd_joined_ways (w := w) F0 T 
  have D_joined_ways := Df.mk' Ookd_joined_ways (PySem.W.mg_of X G a0) k0 b0
  have Ookd_law_built := okd_law_built (w := w) F28 T D_joined_ways
  have D_law_built := Df.mk' Ookd_law_built (PySem.W.mg_of X G a28) k28 b28
  have Ookd_law_are_long_right := okd_law_are_long_right (w := w) F30 T D_law_longer D_law_otherwise D_law_is_same_word D_law_pick D_law_draw D_law_built D_law_same D_turned_way D_law_orderly D_law_is_reduced D_reduced_way D_law_back
  have D_law_are_long_right := GDf.mk' Ookd_law_are_long_right (PySem.W.mg_of X G a30) k30 b30
  have Ookx_joined_ways := okx_joined_ways (w := w) F0 T V
  have DX_joined_ways := DfX.mk' Ookx_joined_ways (PySem.W.mg_of X G a0) k0 b0
  have DXK_joined_ways_one_other : DfXK l.prog w K mg base _ "joined_ways" ["one", "other"] ["one", "other"] (kwG 2 [0, 1]) (kwG 2 [0, 1]) _ := ⟨_, _, Ookx_joined_ways, PySem.W.mg_of X G a0, k0, kb2 rfl fun _ _ => rfl⟩
  have Ookd_law_is_join := okd_law_is_join (w := w) F33 T V D_law_same DX_joined_ways DXK_joined_ways_one_other
  have D_law_is_join := GDf.mk' Ookd_law_is_join (PySem.W.mg_of X G a33) k33 b33
  have Ookd_law_are_joins_right := okd_law_are_joins_right (w := w) F34 T D_law_built D_law_draw D_joined_ways D_law_is_join D_law_stride D_law_same
  have D_law_are_joins_right := GDf.mk' Ookd_law_are_joins_right (PySem.W.mg_of X G a34) k34 b34
  have Ookd_law_are_great_right := okd_law_are_great_right (w := w) F35 T D_reduced_way D_joined_ways D_turned_way D_law_is_same_word D_law_orderly D_law_is_reduced D_law_same D_law_is_join D_law_back D_law_pick
  have D_law_are_great_right := GDf.mk' Ookd_law_are_great_right (PySem.W.mg_of X G a35) k35 b35
  have Ookd_law_asks := okd_law_asks (w := w) F36 T D_law_bag D_law_draw D_law_own_way D_law_are_odd_right D_law_are_sums_kept D_law_is_order_right D_law_are_long_right D_law_orderly D_law_is_same_word D_law_are_joins_right D_law_are_great_right
  have D_law_asks := GDf.mk' Ookd_law_asks (PySem.W.mg_of X G a36) k36 b36
  exact okd_law F37 T D_law_asks
end K86
open PySem PySem.W PyProof.Rows
set_option maxHeartbeats 0 in
theorem PySem.Challenge.cw_cutandjoin_k86_whole_reduced_ways_holds : PySem.Challenge.rw_cutandjoin_k86_whole_reduced_ways.Holds := by
  w_on; o_law; k_head; (case hw => w_witness2)
  k_fill
  refine Fz.walk_ofG (l := PySem.Challenge.rw_cutandjoin_k86_whole_reduced_ways) (n := 63) (k := 47) (x := "script") (sp := fun w => Fz.spLaw _) rfl (by decide) rfl ⟨rfl, by decide, by decide⟩ ?him (fun w h Y => PySem.W.kIn_of Y) ?F (fun _ _ a ns hl _ hS => ⟨a, ns, rfl, hS, hl, fun _ => rfl⟩)
  case him => first | rfl | decide +kernel
  case F =>
    intro w mg fa h KX G hmg
    refine' K86.all_mk KX G hmg rfl ?a0 ?l0 ?c0 ?k0 ?a1 ?l1 ?c1 ?k1 ?a2 ?l2 ?c2 ?k2 ?a3 ?l3 ?c3 ?k3 ?a4 ?l4 ?c4 ?k4 ?a5 ?l5 ?c5 ?k5 ?a6 ?l6 ?c6 ?k6 ?a7 ?l7 ?c7 ?k7 ?a8 ?l8 ?c8 ?k8 ?a9 ?l9 ?c9 ?k9 ?a10 ?l10 ?c10 ?k10 ?a11 ?l11 ?c11 ?k11 ?a12 ?l12 ?c12 ?k12 ?a13 ?l13 ?c13 ?k13 ?a14 ?l14 ?c14 ?k14 ?a15 ?l15 ?c15 ?k15 ?a16 ?l16 ?c16 ?k16 ?a17 ?l17 ?c17 ?k17 ?a18 ?l18 ?c18 ?k18 ?a19 ?l19 ?c19 ?k19 ?a20 ?l20 ?c20 ?k20 ?a21 ?l21 ?c21 ?k21 ?a22 ?l22 ?c22 ?k22 ?a23 ?l23 ?c23 ?k23 ?a24 ?l24 ?c24 ?k24 ?a25 ?l25 ?c25 ?k25 ?a26 ?l26 ?c26 ?k26 ?a27 ?l27 ?c27 ?k27 ?a28 ?l28 ?c28 ?k28 ?a29 ?l29 ?c29 ?k29 ?a30 ?l30 ?c30 ?k30 ?a31 ?l31 ?c31 ?k31 ?a32 ?l32 ?c32 ?k32 ?a33 ?l33 ?c33 ?k33 ?a34 ?l34 ?c34 ?k34 ?a35 ?l35 ?c35 ?k35 ?a36 ?l36 ?c36 ?k36 ?a37 ?l37 ?c37 ?k37 ?g_SumError ?g_Unfit ?g_TooMany ?g_BadText ?g_BadSum ?g_BadLog ?g_Refused ?g_NothingToUndo ?g_NothingToRedo ?g_NoName ?g_NoVersion ?z_super ?z_opq ?z_top ?z_gc ?z_tk ?xL_TooMany ?sa_TooMany ?ga_TooMany ?gg_TooMany ?nb_TooMany ?cl_TooMany ?eC_TooMany ?tC_TooMany ?hC_TooMany ?kC_TooMany ?iC_TooMany ?sC_TooMany ?vE_TooMany ?se_TooMany ?mo_TooMany ?su_TooMany ?a1_TooMany ?t1_TooMany ?l1_TooMany ?c1_TooMany ?lc_TooMany ?lx_TooMany ?vs_TooMany ?fl_TooMany ?ln_TooMany ?k_TooMany_SumError ?k_TooMany_Unfit ?k_TooMany_TooMany ?k_TooMany_BadText ?k_TooMany_BadSum ?k_TooMany_BadLog ?k_TooMany_Refused ?k_TooMany_NothingToUndo ?k_TooMany_NothingToRedo ?k_TooMany_NoName ?k_TooMany_NoVersion ?kv_TooMany ?z0 ?z1 ?z2 ?z3 ?z4 ?z5 ?z6 ?z7 ?z8 ?z9 ?z10 ?z11 ?z12 ?y0
    (case a0 => k_is); (case l0 => k_is); (case c0 => k_is); (case k0 => k_is); (case a1 => k_is); (case l1 => k_is); (case c1 => k_is); (case k1 => k_is); (case a2 => k_is); (case l2 => k_is); (case c2 => k_is); (case k2 => k_is); (case a3 => k_is); (case l3 => k_is); (case c3 => k_is); (case k3 => k_is); (case a4 => k_is); (case l4 => k_is); (case c4 => k_is); (case k4 => k_is); (case a5 => k_is); (case l5 => k_is); (case c5 => k_is); (case k5 => k_is); (case a6 => k_is); (case l6 => k_is); (case c6 => k_is); (case k6 => k_is); (case a7 => k_is); (case l7 => k_is); (case c7 => k_is); (case k7 => k_is); (case a8 => k_is); (case l8 => k_is); (case c8 => k_is); (case k8 => k_is); (case a9 => k_is); (case l9 => k_is); (case c9 => k_is); (case k9 => k_is); (case a10 => k_is); (case l10 => k_is); (case c10 => k_is); (case k10 => k_is); (case a11 => k_is); (case l11 => k_is); (case c11 => k_is); (case k11 => k_is); (case a12 => k_is); (case l12 => k_is); (case c12 => k_is); (case k12 => k_is); (case a13 => k_is); (case l13 => k_is); (case c13 => k_is); (case k13 => k_is); (case a14 => k_is); (case l14 => k_is); (case c14 => k_is); (case k14 => k_is); (case a15 => k_is); (case l15 => k_is); (case c15 => k_is); (case k15 => k_is); (case a16 => k_is); (case l16 => k_is); (case c16 => k_is); (case k16 => k_is); (case a17 => k_is); (case l17 => k_is); (case c17 => k_is); (case k17 => k_is); (case a18 => k_is); (case l18 => k_is); (case c18 => k_is); (case k18 => k_is); (case a19 => k_is); (case l19 => k_is); (case c19 => k_is); (case k19 => k_is); (case a20 => k_is); (case l20 => k_is); (case c20 => k_is); (case k20 => k_is); (case a21 => k_is); (case l21 => k_is); (case c21 => k_is); (case k21 => k_is); (case a22 => k_is); (case l22 => k_is); (case c22 => k_is); (case k22 => k_is); (case a23 => k_is); (case l23 => k_is); (case c23 => k_is); (case k23 => k_is); (case a24 => k_is); (case l24 => k_is); (case c24 => k_is); (case k24 => k_is); (case a25 => k_is); (case l25 => k_is); (case c25 => k_is); (case k25 => k_is); (case a26 => k_is); (case l26 => k_is); (case c26 => k_is); (case k26 => k_is); (case a27 => k_is); (case l27 => k_is); (case c27 => k_is); (case k27 => k_is); (case a28 => k_is); (case l28 => k_is); (case c28 => k_is); (case k28 => k_is); (case a29 => k_is); (case l29 => k_is); (case c29 => k_is); (case k29 => k_is); (case a30 => k_is); (case l30 => k_is); (case c30 => k_is); (case k30 => k_is); (case a31 => k_is); (case l31 => k_is); (case c31 => k_is); (case k31 => k_is); (case a32 => k_is); (case l32 => k_is); (case c32 => k_is); (case k32 => k_is); (case a33 => k_is); (case l33 => k_is); (case c33 => k_is); (case k33 => k_is); (case a34 => k_is); (case l34 => k_is); (case c34 => k_is); (case k34 => k_is); (case a35 => k_is); (case l35 => k_is); (case c35 => k_is); (case k35 => k_is); (case a36 => k_is); (case l36 => k_is); (case c36 => k_is); (case k36 => k_is); (case a37 => k_is); (case l37 => k_is); (case c37 => k_is); (case k37 => k_is); (case g_SumError => first | k_is | rfl | decide +kernel); (case g_Unfit => first | k_is | rfl | decide +kernel); (case g_TooMany => first | k_is | rfl | decide +kernel); (case g_BadText => first | k_is | rfl | decide +kernel); (case g_BadSum => first | k_is | rfl | decide +kernel); (case g_BadLog => first | k_is | rfl | decide +kernel); (case g_Refused => first | k_is | rfl | decide +kernel); (case g_NothingToUndo => first | k_is | rfl | decide +kernel); (case g_NothingToRedo => first | k_is | rfl | decide +kernel); (case g_NoName => first | k_is | rfl | decide +kernel); (case g_NoVersion => first | k_is | rfl | decide +kernel); (case z_super => first | k_is | rfl | decide +kernel); (case z_opq => first | k_is | rfl | decide +kernel); (case z_top => first | k_is | rfl | decide +kernel); (case z_gc => first | k_is | rfl | decide +kernel); (case z_tk => first | k_is | rfl | decide +kernel); (case xL_TooMany => first | k_is | rfl | decide +kernel); (case sa_TooMany => first | k_is | rfl | decide +kernel); (case ga_TooMany => first | k_is | rfl | decide +kernel); (case gg_TooMany => first | k_is | rfl | decide +kernel); (case nb_TooMany => first | k_is | rfl | decide +kernel); (case cl_TooMany => first | k_is | rfl | decide +kernel); (case eC_TooMany => first | k_is | rfl | decide +kernel); (case tC_TooMany => first | k_is | rfl | decide +kernel); (case hC_TooMany => first | k_is | rfl | decide +kernel); (case kC_TooMany => first | k_is | rfl | decide +kernel); (case iC_TooMany => first | k_is | rfl | decide +kernel); (case sC_TooMany => first | k_is | rfl | decide +kernel); (case vE_TooMany => first | k_is | rfl | decide +kernel); (case se_TooMany => first | k_is | rfl | decide +kernel); (case mo_TooMany => first | k_is | rfl | decide +kernel); (case su_TooMany => first | k_is | rfl | decide +kernel); (case a1_TooMany => first | k_is | rfl | decide +kernel); (case t1_TooMany => first | k_is | rfl | decide +kernel); (case l1_TooMany => first | k_is | rfl | decide +kernel); (case c1_TooMany => first | k_is | rfl | decide +kernel); (case lc_TooMany => first | k_is | rfl | decide +kernel); (case lx_TooMany => first | k_is | rfl | decide +kernel); (case vs_TooMany => first | k_is | rfl | decide +kernel); (case fl_TooMany => first | k_is | rfl | decide +kernel); (case ln_TooMany => first | k_is | rfl | decide +kernel); (case k_TooMany_SumError => first | k_is | rfl | decide +kernel); (case k_TooMany_Unfit => first | k_is | rfl | decide +kernel); (case k_TooMany_TooMany => first | k_is | rfl | decide +kernel); (case k_TooMany_BadText => first | k_is | rfl | decide +kernel); (case k_TooMany_BadSum => first | k_is | rfl | decide +kernel); (case k_TooMany_BadLog => first | k_is | rfl | decide +kernel); (case k_TooMany_Refused => first | k_is | rfl | decide +kernel); (case k_TooMany_NothingToUndo => first | k_is | rfl | decide +kernel); (case k_TooMany_NothingToRedo => first | k_is | rfl | decide +kernel); (case k_TooMany_NoName => first | k_is | rfl | decide +kernel); (case k_TooMany_NoVersion => first | k_is | rfl | decide +kernel); (case kv_TooMany => first | k_is | rfl | decide +kernel); (case z0 => k_is); (case z1 => k_is); (case z2 => k_is); (case z3 => k_is); (case z4 => k_is); (case z5 => k_is); (case z6 => k_is); (case z7 => k_is); (case z8 => k_is); (case z9 => k_is); (case z10 => k_is); (case z11 => k_is); (case z12 => k_is); (case y0 => k_is)
