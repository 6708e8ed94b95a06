import PyProof.Rows.All
import Wide.All
import OpenK.AllK
import Wide.FinOn
import HandS.ForMost
import HandS.Wide
import HandS.TupAny
import HandS.Evl
import HandS.More
import HandS.Conv
import HandS.Rev
import HandS.Dict
import PyProof.ReprRoads
import HandS.RevTup
import PyProof.SumAny
import HandS.TupMul
import KE.KDictDisplayH
import HandS.Style
import PySem.Challenge.RW_cutandjoin_k80_whole_main_cards
/-! ## Fz -/
set_option Elab.async false
set_option linter.all false
set_option maxRecDepth 100000
set_option maxHeartbeats 2000000
set_option autoImplicit false
/-! Fz: a small logic over the hand layer. Data is frozen in a part F of the heap; what may change is owned, one by one, in a list L. -/
namespace Fz
open PySem L2

/-! ### extension -/
def Sub (F H : Hp) : Prop := ∀ a o, F a = some o → H a = some o
theorem Sub.rfl' (F : Hp) : Sub F F := fun _ _ h => h
theorem Sub.tr {F G H : Hp} (x : Sub F G) (y : Sub G H) : Sub F H := fun a o h => y a o (x a o h)
theorem sub_none {F H : Hp} (x : Sub F H) {p : Addr} (h : H p = none) : F p = none := by
  cases e : F p with
  | none => rfl
  | some o => rw [x p o e] at h; cases h
theorem sub_upd {F H : Hp} (x : Sub F H) (p : Addr) (o : HO) : Sub (upd F p o) (upd H p o) := fun a u h => by
  by_cases e : a = p
  · subst e; rw [upd_same] at h ⊢; exact h
  · rw [upd_ne e] at h ⊢; exact x a u h
theorem sub_fresh {F : Hp} {p : Addr} {o : HO} (h : F p = none) : Sub F (upd F p o) := fun a u e => by
  rw [upd_ne (ne_of_none e h)]; exact e
theorem rd_sub {F H : Hp} (x : Sub F H) {a : Addr} {u : HO} (h : Rd F a u) : Rd H a u := by
  rcases h with h | ⟨o, h⟩
  · exact .inl (x _ _ h)
  · exact .inr ⟨o, x _ _ h⟩
theorem sql_sub {K : PySem.W.Frag} {F H : Hp} (x : Sub F H) {a : Addr} {xs : List V} (h : SqL K F a xs) : SqL K H a xs := by
  rcases h with h | h
  · exact .inl (rd_sub x h)
  · exact .inr h
theorem sqt_sub {K : PySem.W.Frag} {F H : Hp} (x : Sub F H) {a : Addr} {xs : List V} (h : SqT K F a xs) : SqT K H a xs := by
  rcases h with h | h
  · exact .inl (rd_sub x h)
  · exact .inr h
theorem tq_sub {K : PySem.W.Frag} {F H : Hp} (x : Sub F H) {a : Addr} {xs : List V} (h : F a = some (.tup xs)) : SqT K H a xs := .inl (.inl (x _ _ h))
mutual
/-- data: what a value stands for; lists are tracked as lists -/
inductive Dq (K : PySem.W.Frag) (H : Hp) : V → PyData → Prop
  | non : Dq K H .non .none
  | bl (b : Bool) : Dq K H (.bl b) (.bool b)
  | int (i : Int) : Dq K H (.int i) (.int i)
  | str (x : Str) : Dq K H (.str x) (.str x)
  | lst {a : Addr} {xs : List V} {ds : List PyData} : H a = some (.lst xs) → DqAll K H xs ds → Dq K H (.ref a) (.list ds)
  | tup {a : Addr} {xs : List V} {ds : List PyData} : H a = some (.tup xs) → DqAll K H xs ds → Dq K H (.ref a) (.tuple ds)
inductive DqAll (K : PySem.W.Frag) (H : Hp) : List V → List PyData → Prop
  | nil : DqAll K H [] []
  | cons {v : V} {vs : List V} {d : PyData} {ds : List PyData} : Dq K H v d → DqAll K H vs ds → DqAll K H (v :: vs) (d :: ds)
end
mutual
theorem dq_dp {K : PySem.W.Frag} {F : Hp} : ∀ {d : PyData} {v : V}, Dq K F v d → L2.Dp K F v d
  | .none, _, h => by cases h; exact .non
  | .bool _, _, h => by cases h; exact .bl _
  | .int _, _, h => by cases h; exact .int _
  | .str _, _, h => by cases h; exact .str _
  | .list ds, _, h => by
    cases h with
    | lst a b => exact .lst (.inl (.inl a)) (dqa_dpa b)
  | .tuple ds, _, h => by
    cases h with
    | tup a b => exact .tup (.inl (.inl a)) (dqa_dpa b)
  | .dict _, _, h => by cases h
theorem dqa_dpa {K : PySem.W.Frag} {F : Hp} : ∀ {ds : List PyData} {vs : List V}, DqAll K F vs ds → L2.DpAll K F vs ds
  | [], _, h => by cases h; exact .nil
  | _ :: _, _, h => by
    cases h with
    | cons a b => exact .cons (dq_dp a) (dqa_dpa b)
end
mutual
theorem dp_sub {K : PySem.W.Frag} {F H : Hp} (x : Sub F H) : ∀ {d : PyData} {v : V}, Dq K F v d → Dq K H v d
  | .none, _, h => by cases h; exact .non
  | .bool _, _, h => by cases h; exact .bl _
  | .int _, _, h => by cases h; exact .int _
  | .str _, _, h => by cases h; exact .str _
  | .list ds, _, h => by
    cases h with
    | lst a b => exact .lst (x _ _ a) (dpa_sub x b)
  | .tuple ds, _, h => by
    cases h with
    | tup a b => exact .tup (x _ _ a) (dpa_sub x b)
  | .dict _, _, h => by cases h
theorem dpa_sub {K : PySem.W.Frag} {F H : Hp} (x : Sub F H) : ∀ {ds : List PyData} {vs : List V}, DqAll K F vs ds → DqAll K H vs ds
  | [], _, h => by cases h; exact .nil
  | _ :: _, _, h => by
    cases h with
    | cons a b => exact .cons (dp_sub x a) (dpa_sub x b)
end
section
variable {K : PySem.W.Frag} {F : Hp}
theorem dpa_len : ∀ {vs : List V} {ds : List PyData}, DqAll K F vs ds → vs.length = ds.length
  | _, _, .nil => rfl
  | _, _, .cons _ t => by rw [List.length_cons, List.length_cons, dpa_len t]
theorem dpa_app : ∀ {vs ws : List V} {ds es : List PyData}, DqAll K F vs ds → DqAll K F ws es → DqAll K F (vs ++ ws) (ds ++ es)
  | _, _, _, _, .nil, h => h
  | _, _, _, _, .cons a t, h => .cons a (dpa_app t h)
theorem dpa_get : ∀ {vs : List V} {ds : List PyData} {i : Nat} {d : PyData}, DqAll K F vs ds → ds[i]? = some d → ∃ v, vs[i]? = some v ∧ Dq K F v d
  | _, _, _, _, .nil, e => by simp at e
  | _, _, 0, _, .cons a _, e => by simp at e; subst e; exact ⟨_, rfl, a⟩
  | _, _, i + 1, _, .cons _ t, e => by
    obtain ⟨v, h1, h2⟩ := dpa_get t (i := i) (by simpa using e)
    exact ⟨v, by simpa using h1, h2⟩
theorem dpa_take : ∀ {vs : List V} {ds : List PyData} (n : Nat), DqAll K F vs ds → DqAll K F (vs.take n) (ds.take n)
  | _, _, 0, _ => .nil
  | _, _, _ + 1, .nil => .nil
  | _, _, n + 1, .cons a t => .cons a (dpa_take n t)
theorem dpa_drop : ∀ {vs : List V} {ds : List PyData} (n : Nat), DqAll K F vs ds → DqAll K F (vs.drop n) (ds.drop n)
  | _, _, 0, h => h
  | _, _, _ + 1, .nil => .nil
  | _, _, n + 1, .cons _ t => dpa_drop n t
theorem dpa_rev : ∀ {vs : List V} {ds : List PyData}, DqAll K F vs ds → DqAll K F vs.reverse ds.reverse
  | _, _, .nil => .nil
  | _, _, .cons a t => by
    rw [List.reverse_cons, List.reverse_cons]
    exact dpa_app (dpa_rev t) (.cons a .nil)
theorem dpa_set {v : V} {d : PyData} (h : Dq K F v d) : ∀ {vs : List V} {ds : List PyData} (n : Nat), DqAll K F vs ds → DqAll K F (vs.set n v) (ds.set n d)
  | _, _, _, .nil => .nil
  | _, _, 0, .cons _ t => .cons h t
  | _, _, n + 1, .cons a t => .cons a (dpa_set h n t)
theorem dpa_erase : ∀ {vs : List V} {ds : List PyData} (n : Nat), DqAll K F vs ds → DqAll K F (vs.eraseIdx n) (ds.eraseIdx n)
  | _, _, _, .nil => .nil
  | _, _, 0, .cons _ t => t
  | _, _, n + 1, .cons a t => .cons a (dpa_erase n t)
theorem dpa_last : ∀ {vs : List V} {ds : List PyData}, DqAll K F vs ds → DqAll K F vs.dropLast ds.dropLast
  | _, _, .nil => .nil
  | _, _, .cons _ .nil => .nil
  | _, _, .cons a (.cons b t) => .cons a (dpa_last (.cons b t))
theorem dpa_ints : ∀ (ns : List Int), DqAll K F (ns.map V.int) (ns.map PyData.int)
  | [] => .nil
  | _ :: t => .cons (.int _) (dpa_ints t)
theorem dpa_int_inv : ∀ {ns : List Int} {vs : List V}, DqAll K F vs (ns.map PyData.int) → vs = ns.map V.int
  | [], _, h => by cases h; rfl
  | _ :: ns, _, h => by
    cases h with
    | cons a t => cases a; rw [dpa_int_inv t]; rfl
theorem dpa_bool_inv : ∀ {bs : List Bool} {vs : List V}, DqAll K F vs (bs.map PyData.bool) → vs = bs.map V.bl
  | [], _, h => by cases h; rfl
  | _ :: ns, _, h => by
    cases h with
    | cons a t => cases a; rw [dpa_bool_inv t]; rfl
end

/-! ### states -/
/-- what is known of a value: it itself, or the data that it stands for -/
inductive AD where
  | v (x : V)
  | d (x : PyData)
def AD.ok (K : PySem.W.Frag) (F : Hp) : AD → V → Prop
  | .v x, y => y = x
  | .d x, y => Dq K F y x
theorem AD.ok.sub {K : PySem.W.Frag} {F G : Hp} (x : Sub F G) : ∀ {a : AD} {y : V}, a.ok K F y → a.ok K G y
  | .v _, _, h => h
  | .d _, _, h => dp_sub x h
/-- what is owned -/
inductive MO where
  | lst (p : Addr) (ds : List PyData)
  | raw (p : Addr) (o : HO)
  | bag (pb pc : Addr) (cells : List Int) (cur mix : Int)
  | know (v : V) (d : PyData)
  | seq (p : Addr) (ds : List PyData)
def MO.fp : MO → List Addr
  | .lst p _ => [p]
  | .raw p _ => [p]
  | .bag pb pc _ _ _ => [pb, pc]
  | .know _ _ => []
  | .seq _ _ => []
def BagAt (H : Hp) (pb pc : Addr) (cells : List Int) (cur mix : Int) : Prop :=
  H pb = some (.lst [.ref pc, .int cur, .int mix]) ∧ H pc = some (.lst (cells.map V.int))
def MO.ok (K : PySem.W.Frag) (F H : Hp) : MO → Prop
  | .lst p ds => ∃ vs, H p = some (.lst vs) ∧ DqAll K F vs ds
  | .raw p o => H p = some o ∧ ∀ xs, o ≠ .tup xs
  | .bag pb pc cs x m => BagAt H pb pc cs x m
  | .know v d => Dq K F v d
  | .seq p ds => ∃ vs, SqL K F p vs ∧ DqAll K F vs ds
theorem MO.ok.subF {K : PySem.W.Frag} {F G H : Hp} (x : Sub F G) : ∀ {m : MO}, m.ok K F H → m.ok K G H
  | .lst _ _, ⟨vs, a, b⟩ => ⟨vs, a, dpa_sub x b⟩
  | .raw _ _, h => h
  | .bag _ _ _ _ _, h => h
  | .know _ _, h => dp_sub x h
  | .seq _ _, ⟨vs, a, b⟩ => ⟨vs, sql_sub x a, dpa_sub x b⟩
theorem MO.ok.same {K : PySem.W.Frag} {F H H' : Hp} : ∀ {m : MO}, m.ok K F H → (∀ p ∈ m.fp, ∀ o, H p = some o → H' p = some o) → m.ok K F H'
  | .lst p _, ⟨vs, a, b⟩, k => ⟨vs, k p List.mem_cons_self _ a, b⟩
  | .raw p _, h, k => ⟨k p List.mem_cons_self _ h.1, h.2⟩
  | .bag pb pc _ _ _, h, k => ⟨k pb List.mem_cons_self _ h.1, k pc (List.mem_cons_of_mem _ List.mem_cons_self) _ h.2⟩
  | .know _ _, h, _ => h
  | .seq _ _, h, _ => h
theorem MO.ok.there {K : PySem.W.Frag} {F H : Hp} : ∀ {m : MO}, m.ok K F H → ∀ p ∈ m.fp, ∃ o, H p = some o ∧ ∀ xs, o ≠ .tup xs
  | .lst p _, ⟨vs, a, b⟩, q, hq => by rw [List.mem_singleton.mp hq]; exact ⟨_, a, fun _ z => nomatch z⟩
  | .raw p _, h, q, hq => by rw [List.mem_singleton.mp hq]; exact ⟨_, h.1, h.2⟩
  | .bag pb pc _ _ _, h, q, hq => by
    rcases List.mem_cons.mp hq with e | e
    · rw [e]; exact ⟨_, h.1, fun _ z => nomatch z⟩
    · rw [List.mem_singleton.mp e]; exact ⟨_, h.2, fun _ z => nomatch z⟩
  | .know _ _, _, q, hq => nomatch hq
  | .seq _ _, _, q, hq => nomatch hq

/-- the background: at the entry -/
structure Bg where
  K : PySem.W.Frag
  F0 : Hp
  H0 : Hp
  M : List Addr
def SlOk (K : PySem.W.Frag) (F : Hp) : Option AD → Option V → Prop
  | none, _ => True
  | some a, s => ∃ y, s = some y ∧ a.ok K F y
abbrev Eps := List (Option AD)
abbrev Own := List MO
def fps (L : Own) : List Addr := L.flatMap MO.fp
structure Rep (B : Bg) (ε : Eps) (L : Own) (F : Hp) (σ : St) (H : Hp) : Prop where
  sub : Sub F H
  own : ∀ m ∈ L, m.ok B.K F H
  off : ∀ p ∈ fps L, F p = none ∧ (p ∈ B.M ∨ B.H0 p = none)
  nd : (fps L).Nodup
  sl : ∀ (i : Nat) (x : Option AD), ε[i]? = some x → ∃ s, σ[i]? = some s ∧ SlOk B.K F x s
  len : σ.length = ε.length
  f0 : Sub B.F0 F
  h0 : ∀ a o, a ∉ B.M → B.H0 a = some o → H a = some o
  nc : ∀ a, B.F0 a = none → B.H0 a ≠ none → F a = none ∨ ∃ xs, B.H0 a = some (.tup xs)
  mm : ∀ p ∈ B.M, p ∈ fps L
theorem mem_fps {L : Own} {m : MO} (h : m ∈ L) {p : Addr} (hp : p ∈ m.fp) : p ∈ fps L := List.mem_flatMap.mpr ⟨m, h, hp⟩

theorem fps_sub {L L' : Own} (h : L'.Sublist L) : (fps L').Sublist (fps L) := by
  induction h with
  | slnil => exact List.Sublist.refl _
  | cons a _ ih => exact List.Sublist.trans ih (List.sublist_append_right a.fp _)
  | cons_cons a _ ih => exact List.Sublist.append (List.Sublist.refl a.fp) ih
section
variable {B : Bg} {ε : Eps} {L : Own} {F : Hp} {σ : St} {H : Hp}
theorem Rep.thereN (r : Rep B ε L F σ H) {p : Addr} (hp : p ∈ fps L) : ∃ o, H p = some o ∧ ∀ xs, o ≠ .tup xs := by
  obtain ⟨m, hm, h⟩ := List.mem_flatMap.mp hp
  exact (r.own m hm).there p h
theorem Rep.there (r : Rep B ε L F σ H) {p : Addr} (hp : p ∈ fps L) : ∃ o, H p = some o :=
  let ⟨o, h, _⟩ := r.thereN hp
  ⟨o, h⟩
theorem Rep.noT (r : Rep B ε L F σ H) {p : Addr} (hp : p ∈ fps L) {xs : List V} (h : H p = some (.tup xs)) : False := by
  obtain ⟨o, h1, h2⟩ := r.thereN hp
  rw [h] at h1; cases h1; exact h2 xs rfl
theorem Rep.new (r : Rep B ε L F σ H) {p : Addr} (hp : H p = none) : p ∉ fps L := fun h => by
  obtain ⟨o, e⟩ := r.there h
  rw [hp] at e; cases e
theorem Rep.newM (r : Rep B ε L F σ H) {p : Addr} (hp : H p = none) : p ∉ B.M := fun h => r.new hp (r.mm p h)
theorem Rep.newH (r : Rep B ε L F σ H) {p : Addr} (hp : H p = none) : B.H0 p = none := by
  cases e : B.H0 p with
  | none => rfl
  | some o => rw [r.h0 p o (r.newM hp) e] at hp; cases hp
/-- the heap grows by things that do not matter -/
theorem Rep.heap (r : Rep B ε L F σ H) {H' : Hp} (k : Sub H H') : Rep B ε L F σ H' :=
  ⟨r.sub.tr k, fun m hm => (r.own m hm).same fun p _ o e => k p o e, r.off, r.nd, r.sl, r.len, r.f0, fun a o h e => k a o (r.h0 a o h e), r.nc, r.mm⟩
theorem SlOk.sub {K : PySem.W.Frag} {F G : Hp} (x : Sub F G) : ∀ {a : Option AD} {s : Option V}, SlOk K F a s → SlOk K G a s
  | none, _, _ => trivial
  | some _, _, ⟨y, e, h⟩ => ⟨y, e, h.sub x⟩
/-- a new frozen object -/
theorem Rep.grow (r : Rep B ε L F σ H) {p : Addr} {o : HO} (hp : H p = none) : Rep B ε L (upd F p o) σ (upd H p o) := by
  have hF := sub_none r.sub hp
  refine ⟨sub_upd r.sub p o, fun m hm => ((r.own m hm).subF (sub_fresh hF)).same fun q hq u e => ?_, fun q hq => ?_, r.nd, fun i x e => ?_, r.len, r.f0.tr (sub_fresh hF), fun a u h e => sub_fresh hp a u (r.h0 a u h e), fun a h1 h2 => ?_, r.mm⟩
  · exact sub_fresh hp q u e
  · have : q ≠ p := fun e => r.new hp (e ▸ hq)
    exact ⟨by rw [upd_ne this]; exact (r.off q hq).1, (r.off q hq).2⟩
  · obtain ⟨s, h1, h2⟩ := r.sl i x e
    exact ⟨s, h1, h2.sub (sub_fresh hF)⟩
  · have : a ≠ p := fun e => h2 (e ▸ r.newH hp)
    rw [upd_ne this]; exact r.nc a h1 h2
/-- a new owned object -/
theorem Rep.alloc (r : Rep B ε L F σ H) {p : Addr} {o : HO} {m : MO} (hp : H p = none) (hm : m.fp = [p]) (ok : m.ok B.K F (upd H p o)) : Rep B ε (m :: L) F σ (upd H p o) := by
  have hF := sub_none r.sub hp
  have e1 : fps (m :: L) = p :: fps L := by unfold fps; rw [List.flatMap_cons, hm]; rfl
  refine ⟨r.sub.tr (sub_fresh hp), fun x hx => ?_, fun q hq => ?_, ?_, r.sl, r.len, r.f0, fun a u h e => sub_fresh hp a u (r.h0 a u h e), r.nc, fun q hq => ?_⟩
  · rcases List.mem_cons.mp hx with e | e
    · rw [e]; exact ok
    · exact (r.own x e).same fun q _ u e => sub_fresh hp q u e
  · rw [e1] at hq
    rcases List.mem_cons.mp hq with e | e
    · rw [e]; exact ⟨hF, .inr (r.newH hp)⟩
    · exact r.off q e
  · rw [e1]; exact List.nodup_cons.mpr ⟨r.new hp, r.nd⟩
  · rw [e1]; exact List.mem_cons_of_mem _ (r.mm q hq)
theorem fps_set : ∀ {L : Own} {k : Nat} {m m' : MO}, L[k]? = some m → m'.fp = m.fp → fps (L.set k m') = fps L
  | [], _, _, _, h, _ => by simp at h
  | x :: L, 0, m, m', h, e => by
    simp at h; subst h
    show m'.fp ++ fps L = x.fp ++ fps L
    rw [e]
  | x :: L, k + 1, m, m', h, e => by
    show x.fp ++ fps (L.set k m') = x.fp ++ fps L
    rw [fps_set (by simpa using h) e]
theorem fps_apart : ∀ {L : Own} {k j : Nat} {m x : MO}, (fps L).Nodup → L[k]? = some m → L[j]? = some x → k ≠ j → ∀ p ∈ m.fp, p ∉ x.fp
  | [], _, _, _, _, _, h, _, _ => by simp at h
  | y :: L, 0, 0, _, _, _, _, _, n => absurd rfl n
  | y :: L, 0, j + 1, m, x, nd, h, h', _ => by
    simp at h; subst h
    have nd' : (y.fp ++ fps L).Nodup := nd
    intro p hp hx
    exact (List.nodup_append.mp nd').2.2 p hp p (mem_fps (List.mem_of_getElem? (by simpa using h')) hx) rfl
  | y :: L, k + 1, 0, m, x, nd, h, h', _ => by
    simp at h'; subst h'
    have nd' : (y.fp ++ fps L).Nodup := nd
    intro p hp hx
    exact (List.nodup_append.mp nd').2.2 p hx p (mem_fps (List.mem_of_getElem? (by simpa using h)) hp) rfl
  | y :: L, k + 1, j + 1, m, x, nd, h, h', n => by
    have nd' : (y.fp ++ fps L).Nodup := nd
    exact fps_apart (List.nodup_append.mp nd').2.1 (by simpa using h) (by simpa using h') fun e => n (by rw [e])
/-- an owned thing changes: all else stays -/
theorem Rep.chg (r : Rep B ε L F σ H) {k : Nat} {m m' : MO} {H' : Hp} (hk : L[k]? = some m) (hf : m'.fp = m.fp) (ok : m'.ok B.K F H') (keep : ∀ a o, a ∉ m.fp → H a = some o → H' a = some o) : Rep B ε (L.set k m') F σ H' := by
  have ef := fps_set (m' := m') hk hf
  have hmem : ∀ p ∈ m.fp, p ∈ fps L := fun p hp => mem_fps (List.mem_of_getElem? hk) hp
  have kf : ∀ a o, F a = some o → H' a = some o := fun a o e => keep a o (fun h => by rw [(r.off a (hmem a h)).1] at e; cases e) (r.sub a o e)
  refine ⟨kf, fun x hx => ?_, by rw [ef]; exact r.off, by rw [ef]; exact r.nd, r.sl, r.len, r.f0, fun a o h e => ?_, r.nc, by rw [ef]; exact r.mm⟩
  · obtain ⟨j, hj⟩ := List.mem_iff_getElem?.mp hx
    rw [List.getElem?_set] at hj
    split at hj
    · split at hj
      · cases hj; exact ok
      · cases hj
    · rename_i ne
      exact (r.own x (List.mem_of_getElem? hj)).same fun p hp o e => keep p o (fun h => fps_apart r.nd hk hj ne p h hp) e
  · refine keep a o (fun hm => ?_) (r.h0 a o h e)
    rcases (r.off a (hmem a hm)).2 with q | q
    · exact h q
    · rw [q] at e; cases e
theorem Rep.slot (r : Rep B ε L F σ H) {i : Nat} {a : AD} {y : V} (h : a.ok B.K F y) : Rep B (ε.set i (some a)) L F (σ.set i (some y)) H := by
  refine ⟨r.sub, r.own, r.off, r.nd, fun j x e => ?_, by rw [List.length_set, List.length_set]; exact r.len, r.f0, r.h0, r.nc, r.mm⟩
  rw [List.getElem?_set] at e
  rw [List.getElem?_set, r.len]
  split at e
  · rename_i ij
    subst ij
    split at e
    · rename_i il
      cases e
      rw [if_pos rfl, if_pos il]
      exact ⟨_, rfl, y, rfl, h⟩
    · cases e
  · rename_i ij
    rw [if_neg ij]
    exact r.sl j x e
/-- forget slots -/
def Wk : Eps → Eps → Prop
  | [], [] => True
  | a :: x, b :: y => (b = none ∨ b = a) ∧ Wk x y
  | _, _ => False
theorem Wk.refl : ∀ x : Eps, Wk x x
  | [] => trivial
  | _ :: x => ⟨.inr rfl, Wk.refl x⟩
theorem Wk.len : ∀ {x y : Eps}, Wk x y → x.length = y.length
  | [], [], _ => rfl
  | _ :: _, _ :: _, h => by rw [List.length_cons, List.length_cons, Wk.len h.2]
theorem Wk.get : ∀ {x y : Eps}, Wk x y → ∀ (i : Nat) b, y[i]? = some b → b = none ∨ x[i]? = some b
  | [], [], _, i, b, e => by simp at e
  | a :: x, c :: y, h, 0, b, e => by
    simp at e; subst e
    rcases h.1 with z | z
    · exact .inl z
    · exact .inr (by rw [z]; rfl)
  | a :: x, c :: y, h, i + 1, b, e => by
    rcases Wk.get h.2 i b (by simpa using e) with z | z
    · exact .inl z
    · exact .inr (by simpa using z)
theorem Rep.wk (r : Rep B ε L F σ H) {ε' : Eps} (w : Wk ε ε') : Rep B ε' L F σ H := by
  refine ⟨r.sub, r.own, r.off, r.nd, fun j x e => ?_, by rw [r.len, w.len], r.f0, r.h0, r.nc, r.mm⟩
  rcases w.get j x e with z | z
  · subst z
    have : j < σ.length := by
      rw [r.len, w.len]
      exact (List.getElem?_eq_some_iff.mp e).1
    exact ⟨_, List.getElem?_eq_getElem this, trivial⟩
  · exact r.sl j x z
/-- one more thing known -/
theorem Rep.learn (r : Rep B ε L F σ H) {v : V} {d : PyData} (h : Dq B.K F v d) : Rep B ε (L ++ [.know v d]) F σ H := by
  have e1 : fps (L ++ [.know v d]) = fps L := by unfold fps; rw [List.flatMap_append]; show _ ++ [] = _; rw [List.append_nil]
  refine ⟨r.sub, fun m hm => ?_, by rw [e1]; exact r.off, by rw [e1]; exact r.nd, r.sl, r.len, r.f0, r.h0, r.nc, by rw [e1]; exact r.mm⟩
  rcases List.mem_append.mp hm with q | q
  · exact r.own m q
  · rw [List.mem_singleton.mp q]; exact h
/-- what is known is forgotten; what is owned (and is not the entry's) is given up -/
theorem Rep.drop (r : Rep B ε L F σ H) {k : Nat} {m : MO} (hk : L[k]? = some m) (hM : ∀ p ∈ m.fp, p ∉ B.M) : Rep B ε (L.eraseIdx k) F σ H := by
  have hs : ∀ x ∈ L.eraseIdx k, x ∈ L := fun x hx => List.mem_of_mem_eraseIdx hx
  have hp : ∀ p ∈ fps (L.eraseIdx k), p ∈ fps L := fun p hp => by
    obtain ⟨x, h1, h2⟩ := List.mem_flatMap.mp hp
    exact mem_fps (hs x h1) h2
  refine ⟨r.sub, fun x hx => r.own x (hs x hx), fun p h => r.off p (hp p h), ?_, r.sl, r.len, r.f0, r.h0, r.nc, fun p hpM => ?_⟩
  · have : (fps (L.eraseIdx k)).Sublist (fps L) := fps_sub (List.eraseIdx_sublist L k)
    exact r.nd.sublist this
  · obtain ⟨x, h1, h2⟩ := List.mem_flatMap.mp (r.mm p hpM)
    refine List.mem_flatMap.mpr ⟨x, ?_, h2⟩
    obtain ⟨j, hj⟩ := List.mem_iff_getElem?.mp h1
    have ne : j ≠ k := fun e => by
      subst e
      rw [hk] at hj; cases hj
      exact hM p h2 hpM
    rw [List.mem_eraseIdx_iff_getElem?]
    exact ⟨j, ne, hj⟩
end

/-! ### judgements -/
section
variable (B : Bg)
def Ho (P : St → Hp → Prop) (ε : Eps) (L : Own) : Prop := ∀ F σ H, Rep B ε L F σ H → P σ H
def EX (te : TE) (ε : Eps) (L : Own) (a : AD) (L' : Own) : Prop := ∀ F σ H, Rep B ε L F σ H → ∀ Q : VK, (∀ v F' H', Sub F F' → Rep B ε L' F' σ H' → a.ok B.K F' v → Q v H') → te σ H Q
/-- a new list, owned: it stands at the head of L' -/
def EN (te : TE) (ε : Eps) (L : Own) (ds : List PyData) (L' : Own) : Prop := ∀ F σ H, Rep B ε L F σ H → ∀ Q : VK, (∀ p F' H', Sub F F' → p ∉ B.M → Rep B ε (.lst p ds :: L') F' σ H' → Q (.ref p) H') → te σ H Q
def ETt (tt : TT) (ε : Eps) (L : Own) (b : Bool) (L' : Own) : Prop := ∀ F σ H, Rep B ε L F σ H → ∀ Q : Bool → Hp → Prop, (∀ F' H', Sub F F' → Rep B ε L' F' σ H' → Q b H') → tt σ H Q
def AdAll (K : PySem.W.Frag) (F : Hp) : List AD → List V → Prop
  | [], [] => True
  | a :: as, v :: vs => a.ok K F v ∧ AdAll K F as vs
  | _, _ => False
def EA (ta : TA) (ε : Eps) (L : Own) (as : List AD) (L' : Own) : Prop := ∀ F σ H, Rep B ε L F σ H → ∀ Q : List V → Hp → Prop, (∀ vs F' H', Sub F F' → Rep B ε L' F' σ H' → AdAll B.K F' as vs → Q vs H') → ta σ H Q
def EO (to : TO) (ε : Eps) (L : Own) (o : Option Int) (L' : Own) : Prop := ∀ F σ H, Rep B ε L F σ H → ∀ Q : Option Int → Hp → Prop, (∀ F' H', Sub F F' → Rep B ε L' F' σ H' → Q o H') → to σ H Q
def GT (g : TG) (a : AD) (ε ε' : Eps) : Prop := ∀ L F σ H v, Rep B ε L F σ H → a.ok B.K F v → ∀ P : St → Hp → Prop, (∀ σ', Rep B ε' L F σ' H → P σ' H) → g v σ H P
def AbsP (I : Eps → Own → Prop) : St → Hp → Prop := fun σ H => ∃ ε L F, I ε L ∧ Rep B ε L F σ H
end
theorem AdAll.sub {K : PySem.W.Frag} {F G : Hp} (x : Sub F G) : ∀ {as : List AD} {vs : List V}, AdAll K F as vs → AdAll K G as vs
  | [], [], h => h
  | _ :: _, _ :: _, h => ⟨h.1.sub x, AdAll.sub x h.2⟩

section
variable {B : Bg} {ε ε' : Eps} {L L' L0 L1 L2 L3 : Own} {te ta tb : TE} {tt tu : TT} {tas tr : TA} {a b : AD} {D : Ends} {ts tc : TS}
/-! #### names, constants -/
theorem ex_v {i : Nat} (h : ε[i]? = some (some a)) : EX B (tVar i) ε L a L := fun F σ H r Q q => by
  obtain ⟨s, h1, y, rfl, h2⟩ := r.sl i _ h
  exact ⟨y, h1, q y F H (Sub.rfl' F) r h2⟩
theorem ex_cI {i : Int} : EX B (tC (.int i)) ε L (.d (.int i)) L := fun F σ H r Q q => q _ F H (Sub.rfl' F) r (.int i)
theorem ex_cB {i : Bool} : EX B (tC (.bl i)) ε L (.d (.bool i)) L := fun F σ H r Q q => q _ F H (Sub.rfl' F) r (.bl i)
theorem ex_cN : EX B (tC .non) ε L (.d .none) L := fun F σ H r Q q => q _ F H (Sub.rfl' F) r .non
theorem ex_cS {s : Str} : EX B (tC (.str s)) ε L (.d (.str s)) L := fun F σ H r Q q => q _ F H (Sub.rfl' F) r (.str s)
/-! #### two places -/
/-- what an operation gives, by what is known of its places -/
def RX (B : Bg) (r : R2) (ε : Eps) (L : Own) (x y z : AD) (L' : Own) : Prop := ∀ F σ H v w, Rep B ε L F σ H → x.ok B.K F v → y.ok B.K F w → ∀ Q : VK, (∀ u F' H', Sub F F' → Rep B ε L' F' σ H' → z.ok B.K F' u → Q u H') → r v w H Q
def RN (B : Bg) (r : R2) (ε : Eps) (L : Own) (x y : AD) (ds : List PyData) (L' : Own) : Prop := ∀ F σ H v w, Rep B ε L F σ H → x.ok B.K F v → y.ok B.K F w → ∀ Q : VK, (∀ p F' H', Sub F F' → p ∉ B.M → Rep B ε (.lst p ds :: L') F' σ H' → Q (.ref p) H') → r v w H Q
variable {r : R2} {x y z : AD}
theorem ex_op (ha : EX B ta ε L x L1) (hb : EX B tb ε L1 y L2) (hr : RX B r ε L2 x y z L3) : EX B (tOp r ta tb) ε L z L3 := fun F σ H rp Q q =>
  ha F σ H rp _ fun v F1 H1 s1 r1 o1 => hb F1 σ H1 r1 _ fun w F2 H2 s2 r2 o2 => hr F2 σ H2 v w r2 (o1.sub s2) o2 Q fun u F3 H3 s3 r3 o3 => q u F3 H3 ((s1.tr s2).tr s3) r3 o3
theorem en_op {ds : List PyData} (ha : EX B ta ε L x L1) (hb : EX B tb ε L1 y L2) (hr : RN B r ε L2 x y ds L3) : EN B (tOp r ta tb) ε L ds L3 := fun F σ H rp Q q =>
  ha F σ H rp _ fun v F1 H1 s1 r1 o1 => hb F1 σ H1 r1 _ fun w F2 H2 s2 r2 o2 => hr F2 σ H2 v w r2 (o1.sub s2) o2 Q fun u F3 H3 s3 hp r3 => q u F3 H3 ((s1.tr s2).tr s3) hp r3
theorem int_inv {K : PySem.W.Frag} {F : Hp} {v : V} {i : Int} (h : (AD.d (.int i)).ok K F v) : v = .int i := by cases h; rfl
theorem bool_inv {K : PySem.W.Frag} {F : Hp} {v : V} {i : Bool} (h : (AD.d (.bool i)).ok K F v) : v = .bl i := by cases h; rfl
theorem rx_I0 {g : Int → Int → V} {d : PyData} {i j : Int} (hd : ∀ K F, Dq K F (g i j) d) : RX B (rI0 g) ε L (.d (.int i)) (.d (.int j)) (.d d) L := fun F σ H v w rp hv hw Q q =>
  ⟨i, j, int_inv hv, int_inv hw, q _ F H (Sub.rfl' F) rp (hd _ _)⟩
theorem rx_I {C : Int → Int → Prop} {g : Int → Int → V} {d : PyData} {i j : Int} (hc : C i j) (hd : ∀ K F, Dq K F (g i j) d) : RX B (rI C g) ε L (.d (.int i)) (.d (.int j)) (.d d) L := fun F σ H v w rp hv hw Q q =>
  ⟨i, j, int_inv hv, int_inv hw, hc, q _ F H (Sub.rfl' F) rp (hd _ _)⟩
variable {i j : Int}
theorem ex_add (ha : EX B ta ε L (.d (.int i)) L1) (hb : EX B tb ε L1 (.d (.int j)) L2) : EX B (tOp (rI0 fun i j => .int (i + j)) ta tb) ε L (.d (.int (i + j))) L2 := ex_op ha hb (rx_I0 fun _ _ => .int _)
theorem ex_sub (ha : EX B ta ε L (.d (.int i)) L1) (hb : EX B tb ε L1 (.d (.int j)) L2) : EX B (tOp (rI0 fun i j => .int (i - j)) ta tb) ε L (.d (.int (i - j))) L2 := ex_op ha hb (rx_I0 fun _ _ => .int _)
theorem ex_mul (ha : EX B ta ε L (.d (.int i)) L1) (hb : EX B tb ε L1 (.d (.int j)) L2) (hc : CMulW i j) : EX B (tOp (rI CMulW fun i j => .int (i * j)) ta tb) ε L (.d (.int (i * j))) L2 := ex_op ha hb (rx_I hc fun _ _ => .int _)
theorem ex_pow (ha : EX B ta ε L (.d (.int i)) L1) (hb : EX B tb ε L1 (.d (.int j)) L2) (hc : CPow i j) : EX B (tOp (rI CPow fun i j => .int (i ^ j.toNat)) ta tb) ε L (.d (.int (i ^ j.toNat))) L2 := ex_op ha hb (rx_I hc fun _ _ => .int _)
theorem ex_mod (ha : EX B ta ε L (.d (.int i)) L1) (hb : EX B tb ε L1 (.d (.int j)) L2) (hc : 0 < j) : EX B (tOp (rI (fun _ j => 0 < j) fun i j => .int (i % j)) ta tb) ε L (.d (.int (i % j))) L2 := ex_op ha hb (rx_I hc fun _ _ => .int _)
theorem ex_fdiv (ha : EX B ta ε L (.d (.int i)) L1) (hb : EX B tb ε L1 (.d (.int j)) L2) (hc : CDivW i j) : EX B (tOp (rI CDivW fun i j => .int (i / j)) ta tb) ε L (.d (.int (i / j))) L2 := ex_op ha hb (rx_I hc fun _ _ => .int _)
theorem ex_lt (ha : EX B ta ε L (.d (.int i)) L1) (hb : EX B tb ε L1 (.d (.int j)) L2) : EX B (tOp (rI0 fun i j => .bl (decide (i < j))) ta tb) ε L (.d (.bool (decide (i < j)))) L2 := ex_op ha hb (rx_I0 fun _ _ => .bl _)
theorem ex_le (ha : EX B ta ε L (.d (.int i)) L1) (hb : EX B tb ε L1 (.d (.int j)) L2) : EX B (tOp (rI0 fun i j => .bl (decide (i ≤ j))) ta tb) ε L (.d (.bool (decide (i ≤ j)))) L2 := ex_op ha hb (rx_I0 fun _ _ => .bl _)
theorem ex_gt (ha : EX B ta ε L (.d (.int i)) L1) (hb : EX B tb ε L1 (.d (.int j)) L2) : EX B (tOp (rI0 fun i j => .bl (decide (j < i))) ta tb) ε L (.d (.bool (decide (j < i)))) L2 := ex_op ha hb (rx_I0 fun _ _ => .bl _)
theorem ex_ge (ha : EX B ta ε L (.d (.int i)) L1) (hb : EX B tb ε L1 (.d (.int j)) L2) : EX B (tOp (rI0 fun i j => .bl (decide (j ≤ i))) ta tb) ε L (.d (.bool (decide (j ≤ i)))) L2 := ex_op ha hb (rx_I0 fun _ _ => .bl _)
theorem ex_eqI (ha : EX B ta ε L (.d (.int i)) L1) (hb : EX B tb ε L1 (.d (.int j)) L2) : EX B (tOp rEq ta tb) ε L (.d (.bool (decide (i = j)))) L2 := ex_op ha hb fun F σ H v w rp hv hw Q q => by
  rw [int_inv hv, int_inv hw]
  refine ⟨rfl, ?_⟩
  have e : decide ((V.int i) = V.int j) = decide (i = j) := by
    by_cases h : i = j
    · subst h; simp
    · rw [decide_eq_false h, decide_eq_false fun z => h (V.int.inj z)]
  rw [e]
  exact q _ F H (Sub.rfl' F) rp (.bl _)
theorem ex_neI (ha : EX B ta ε L (.d (.int i)) L1) (hb : EX B tb ε L1 (.d (.int j)) L2) : EX B (tOp rNe ta tb) ε L (.d (.bool (!decide (i = j)))) L2 := ex_op ha hb fun F σ H v w rp hv hw Q q => by
  rw [int_inv hv, int_inv hw]
  refine ⟨rfl, ?_⟩
  have e : decide ((V.int i) = V.int j) = decide (i = j) := by
    by_cases h : i = j
    · subst h; simp
    · rw [decide_eq_false h, decide_eq_false fun z => h (V.int.inj z)]
  rw [e]
  exact q _ F H (Sub.rfl' F) rp (.bl _)
theorem ex_neS {s t : Str} (ha : EX B ta ε L (.d (.str s)) L1) (hb : EX B tb ε L1 (.d (.str t)) L2) : EX B (tOp rNe ta tb) ε L (.d (.bool (!decide (s = t)))) L2 := ex_op ha hb fun F σ H v w rp hv hw Q q => by
  have e1 : v = .str s := by cases hv; rfl
  have e2 : w = .str t := by cases hw; rfl
  rw [e1, e2]
  refine ⟨rfl, ?_⟩
  have e : decide ((V.str s) = V.str t) = decide (s = t) := by
    by_cases h : s = t
    · subst h; simp
    · rw [decide_eq_false h, decide_eq_false fun z => h (V.str.inj z)]
  rw [e]
  exact q _ F H (Sub.rfl' F) rp (.bl _)
theorem ex_eqS {s t : Str} (ha : EX B ta ε L (.d (.str s)) L1) (hb : EX B tb ε L1 (.d (.str t)) L2) : EX B (tOp rEq ta tb) ε L (.d (.bool (decide (s = t)))) L2 := ex_op ha hb fun F σ H v w rp hv hw Q q => by
  have e1 : v = .str s := by cases hv; rfl
  have e2 : w = .str t := by cases hw; rfl
  rw [e1, e2]
  refine ⟨rfl, ?_⟩
  have e : decide ((V.str s) = V.str t) = decide (s = t) := by
    by_cases h : s = t
    · subst h; simp
    · rw [decide_eq_false h, decide_eq_false fun z => h (V.str.inj z)]
  rw [e]
  exact q _ F H (Sub.rfl' F) rp (.bl _)
/-- == and != of data -/
theorem ex_eqD {d e : PyData} (ha : EX B ta ε L (.d d) L1) (hb : EX B tb ε L1 (.d e) L2) (h1 : SeqAt.shaped d = true) (h2 : SeqAt.shaped e = true) : EX B (tOp (rEqD B.K) ta tb) ε L (.d (.bool (PyData.eqv d e))) L2 := ex_op ha hb fun F σ H v w rp hv hw Q q =>
  ⟨d, e, dq_dp (dp_sub rp.sub hv), dq_dp (dp_sub rp.sub hw), h1, h2, q _ F H (Sub.rfl' F) rp (.bl _)⟩
theorem ex_neD {d e : PyData} (ha : EX B ta ε L (.d d) L1) (hb : EX B tb ε L1 (.d e) L2) (h1 : SeqAt.shaped d = true) (h2 : SeqAt.shaped e = true) : EX B (tOp (rNeD B.K) ta tb) ε L (.d (.bool (!PyData.eqv d e))) L2 := ex_op ha hb fun F σ H v w rp hv hw Q q =>
  ⟨d, e, dq_dp (dp_sub rp.sub hv), dq_dp (dp_sub rp.sub hw), h1, h2, q _ F H (Sub.rfl' F) rp (.bl _)⟩
def isNoneD : PyData → Bool
  | .none => true
  | _ => false
theorem ex_isN {d : PyData} (ha : EX B ta ε L (.d d) L1) : EX B (tIsN ta) ε L (.d (.bool (isNoneD d))) L1 := fun F σ H rp Q q =>
  ha F σ H rp _ fun v F1 H1 s1 r1 o1 => by
    have e : decide (v = V.non) = isNoneD d := by
      have o2 : Dq B.K F1 v d := o1
      cases o2 <;> rfl
    show Q (.bl (decide (v = .non))) H1
    rw [e]
    exact q _ F1 H1 s1 r1 (.bl _)
theorem ex_notN {d : PyData} (ha : EX B ta ε L (.d d) L1) : EX B (tNotN ta) ε L (.d (.bool (!isNoneD d))) L1 := fun F σ H rp Q q =>
  ha F σ H rp _ fun v F1 H1 s1 r1 o1 => by
    have e : (!decide (v = V.non)) = (!isNoneD d) := by
      have o2 : Dq B.K F1 v d := o1
      cases o2 <;> rfl
    show Q (.bl (!decide (v = .non))) H1
    rw [e]
    exact q _ F1 H1 s1 r1 (.bl _)
theorem ex_neg (ha : EX B ta ε L (.d (.int i)) L1) : EX B (tUn (rU fun i => .int (-i)) ta) ε L (.d (.int (-i))) L1 := fun F σ H rp Q q =>
  ha F σ H rp _ fun v F1 H1 s1 r1 o1 => ⟨i, int_inv o1, q _ F1 H1 s1 r1 (.int _)⟩
/-- the result said otherwise -/
theorem ex_is {c : AD} (h : EX B te ε L a L1) (e : a = c) : EX B te ε L c L1 := e ▸ h
theorem ex_int {k : Int} (h : EX B te ε L (.d (.int i)) L1) (e : i = k) : EX B te ε L (.d (.int k)) L1 := e ▸ h
theorem ex_boolE {b c : Bool} (h : EX B te ε L (.d (.bool b)) L1) (e : b = c) : EX B te ε L (.d (.bool c)) L1 := e ▸ h
theorem et_is {b c : Bool} (h : ETt B tt ε L b L1) (e : b = c) : ETt B tt ε L c L1 := e ▸ h
/-! #### tests -/
theorem et_test {b : Bool} (h : EX B te ε L (.d (.bool b)) L1) : ETt B (tTest te) ε L b L1 := fun F σ H rp Q q => h F σ H rp _ fun v F1 H1 s1 r1 o1 => ⟨b, bool_inv o1, q F1 H1 s1 r1⟩
theorem et_B {b : Bool} (h : EX B te ε L (.d (.bool b)) L1) : ETt B (tB te) ε L b L1 := fun F σ H rp Q q => h F σ H rp _ fun v F1 H1 s1 r1 o1 => ⟨b, bool_inv o1, q F1 H1 s1 r1⟩
theorem et_and {b c : Bool} (h1 : ETt B tt ε L b L1) (h2 : b = true → ETt B tu ε L1 c L2) (hL : b = false → L1 = L2) : ETt B (tAnd tt tu) ε L (b && c) L2 := fun F σ H rp Q q => h1 F σ H rp _ fun F1 H1 s1 r1 => by
  cases b with
  | true => exact h2 rfl F1 σ H1 r1 Q fun F2 H2 s2 r2 => q F2 H2 (s1.tr s2) r2
  | false => exact q F1 H1 s1 (hL rfl ▸ r1)
theorem et_or {b c : Bool} (h1 : ETt B tt ε L b L1) (h2 : b = false → ETt B tu ε L1 c L2) (hL : b = true → L1 = L2) : ETt B (tOr tt tu) ε L (b || c) L2 := fun F σ H rp Q q => h1 F σ H rp _ fun F1 H1 s1 r1 => by
  cases b with
  | false => exact h2 rfl F1 σ H1 r1 Q fun F2 H2 s2 r2 => q F2 H2 (s1.tr s2) r2
  | true => exact q F1 H1 s1 (hL rfl ▸ r1)
theorem et_not {b : Bool} (h : ETt B tt ε L b L1) : ETt B (tNot tt) ε L (!b) L1 := fun F σ H rp Q q => h F σ H rp _ fun F1 H1 s1 r1 => q F1 H1 s1 r1
theorem ex_notV {b : Bool} (h : EX B te ε L (.d (.bool b)) L1) : EX B (tNotV te) ε L (.d (.bool (!b))) L1 := fun F σ H rp Q q => h F σ H rp _ fun v F1 H1 s1 r1 o1 => ⟨b, bool_inv o1, q _ F1 H1 s1 r1 (.bl _)⟩
theorem ex_andV {b c : Bool} (h1 : EX B ta ε L (.d (.bool b)) L1) (h2 : b = true → EX B tb ε L1 (.d (.bool c)) L2) (hL : b = false → L1 = L2) : EX B (tAndV ta tb) ε L (.d (.bool (b && c))) L2 := fun F σ H rp Q q => h1 F σ H rp _ fun v F1 H1 s1 r1 o1 => ⟨b, bool_inv o1, by
  cases b with
  | true => exact h2 rfl F1 σ H1 r1 Q fun v2 F2 H2 s2 r2 o2 => q v2 F2 H2 (s1.tr s2) r2 o2
  | false => exact q _ F1 H1 s1 (hL rfl ▸ r1) (.bl _)⟩
theorem ex_orV {b c : Bool} (h1 : EX B ta ε L (.d (.bool b)) L1) (h2 : b = false → EX B tb ε L1 (.d (.bool c)) L2) (hL : b = true → L1 = L2) : EX B (tOrV ta tb) ε L (.d (.bool (b || c))) L2 := fun F σ H rp Q q => h1 F σ H rp _ fun v F1 H1 s1 r1 o1 => ⟨b, bool_inv o1, by
  cases b with
  | false => exact h2 rfl F1 σ H1 r1 Q fun v2 F2 H2 s2 r2 o2 => q v2 F2 H2 (s1.tr s2) r2 o2
  | true => exact q _ F1 H1 s1 (hL rfl ▸ r1) (.bl _)⟩
theorem ex_if {b : Bool} (h : ETt B tt ε L b L1) (h1 : b = true → EX B ta ε L1 a L2) (h2 : b = false → EX B tb ε L1 a L2) : EX B (tIf tt ta tb) ε L a L2 := fun F σ H rp Q q => h F σ H rp _ fun F1 H1 s1 r1 => by
  cases b with
  | true => exact h1 rfl F1 σ H1 r1 Q fun v2 F2 H2 s2 r2 o2 => q v2 F2 H2 (s1.tr s2) r2 o2
  | false => exact h2 rfl F1 σ H1 r1 Q fun v2 F2 H2 s2 r2 o2 => q v2 F2 H2 (s1.tr s2) r2 o2
/-- x if c else y, on ints -/
theorem ex_ifI {b : Bool} (h : ETt B tt ε L b L1) (h1 : b = true → EX B ta ε L1 (.d (.int i)) L2) (h2 : b = false → EX B tb ε L1 (.d (.int j)) L2) : EX B (tIf tt ta tb) ε L (.d (.int (if b then i else j))) L2 :=
  ex_if h (fun e => ex_int (h1 e) (by rw [e]; rfl)) (fun e => ex_int (h2 e) (by rw [e]; rfl))
/-! #### arguments, displays -/
theorem ea_nil : EA B tNil ε L [] L := fun F σ H rp Q q => q [] F H (Sub.rfl' F) rp trivial
theorem ea_cons {as : List AD} (h : EX B te ε L a L1) (hr : EA B tr ε L1 as L2) : EA B (tCons te tr) ε L (a :: as) L2 := fun F σ H rp Q q =>
  h F σ H rp _ fun v F1 H1 s1 r1 o1 => hr F1 σ H1 r1 _ fun vs F2 H2 s2 r2 o2 => q _ F2 H2 (s1.tr s2) r2 ⟨o1.sub s2, o2⟩
theorem ad_data {K : PySem.W.Frag} {F : Hp} : ∀ {ds : List PyData} {vs : List V}, AdAll K F (ds.map AD.d) vs → DqAll K F vs ds
  | [], [], _ => .nil
  | _ :: _, _ :: _, h => .cons h.1 (ad_data h.2)
theorem ex_tup {ds : List PyData} (h : EA B tas ε L (ds.map AD.d) L1) (hl : ds.length ≤ 100000) : EX B (tTup tas) ε L (.d (.tuple ds)) L1 := fun F σ H rp Q q =>
  h F σ H rp _ fun vs F1 H1 s1 r1 o1 => by
    have oa := ad_data o1
    refine ⟨Evl.sz_of (by rw [dpa_len oa]; exact hl), fun p hp => ?_⟩
    have hF := sub_none r1.sub hp
    exact q _ _ _ (s1.tr (sub_fresh hF)) (r1.grow hp) (.tup upd_same (dpa_sub (sub_fresh hF) oa))
theorem en_lst {ds : List PyData} (h : EA B tas ε L (ds.map AD.d) L1) (hl : ds.length ≤ 100000) : EN B (tLst tas) ε L ds L1 := fun F σ H rp Q q =>
  h F σ H rp _ fun vs F1 H1 s1 r1 o1 => by
    have oa := ad_data o1
    exact ⟨Evl.sz_of (by rw [dpa_len oa]; exact hl), fun p hp => q p F1 _ s1 (r1.newM hp) (r1.alloc hp rfl ⟨vs, upd_same, oa⟩)⟩
/-- a new list that will not change -/
theorem ex_frz {ds : List PyData} (h : EN B te ε L ds L1) : EX B te ε L (.d (.list ds)) L1 := fun F σ H rp Q q =>
  h F σ H rp _ fun p F1 H1 s1 hp r1 => by
    obtain ⟨vs, h1, h2⟩ := r1.own _ List.mem_cons_self
    have e1 : fps (.lst p ds :: L1) = p :: fps L1 := rfl
    have of := r1.off p (by rw [e1]; exact List.mem_cons_self)
    have nd := r1.nd
    rw [e1] at nd
    have nd' := List.nodup_cons.mp nd
    have sF : Sub F1 (upd F1 p (.lst vs)) := sub_fresh of.1
    have h0p : B.H0 p = none := of.2.resolve_left hp
    refine q _ (upd F1 p (.lst vs)) H1 (s1.tr sF) ⟨fun a o e => ?_, fun m hm => (r1.own m (List.mem_cons_of_mem _ hm)).subF sF, fun x hx => ?_, nd'.2, fun k x e => ?_, r1.len, r1.f0.tr sF, r1.h0, fun a g1 g2 => ?_, fun x hx => ?_⟩ (.lst upd_same (dpa_sub sF h2))
    · by_cases z : a = p
      · subst z; rw [upd_same] at e; cases e; exact h1
      · rw [upd_ne z] at e; exact r1.sub a o e
    · have ne : x ≠ p := fun z => nd'.1 (z ▸ hx)
      have := r1.off x (by rw [e1]; exact List.mem_cons_of_mem _ hx)
      exact ⟨by rw [upd_ne ne]; exact this.1, this.2⟩
    · obtain ⟨s, q1, q2⟩ := r1.sl k x e
      exact ⟨s, q1, q2.sub sF⟩
    · have ne : a ≠ p := fun z => g2 (z ▸ h0p)
      rw [upd_ne ne]; exact r1.nc a g1 g2
    · have := r1.mm x hx
      rw [e1] at this
      rcases List.mem_cons.mp this with z | z
      · exact absurd (z ▸ hx) hp
      · exact z
/-! #### lists and tuples read -/
/-- a list at hand: frozen, or owned -/
inductive IsL (L : Own) : AD → List PyData → Prop
  | d {ds : List PyData} : IsL L (.d (.list ds)) ds
  | o {p : Addr} {ds : List PyData} {k : Nat} (h : L[k]? = some (.lst p ds)) : IsL L (.v (.ref p)) ds
  | r {p : Addr} {ds : List PyData} {k : Nat} (h : L[k]? = some (.seq p ds)) : IsL L (.v (.ref p)) ds
theorem IsL.get {F : Hp} {σ : St} {H : Hp} {v : V} {ds : List PyData} (h : IsL L a ds) (rp : Rep B ε L F σ H) (o : a.ok B.K F v) : ∃ p vs, v = .ref p ∧ SqL B.K H p vs ∧ DqAll B.K F vs ds := by
  cases h with
  | d =>
    have o' : Dq B.K F v (.list ds) := o
    cases o' with
    | lst h1 h2 => exact ⟨_, _, rfl, .inl (.inl (rp.sub _ _ h1)), h2⟩
  | o hk =>
    obtain ⟨vs, h1, h2⟩ := rp.own _ (List.mem_of_getElem? hk)
    exact ⟨_, vs, o, .inl (.inl h1), h2⟩
  | r hk =>
    obtain ⟨vs, h1, h2⟩ := rp.own _ (List.mem_of_getElem? hk)
    exact ⟨_, vs, o, sql_sub rp.sub h1, h2⟩
theorem tup_inv {K : PySem.W.Frag} {F : Hp} {v : V} {ds : List PyData} (h : (AD.d (.tuple ds)).ok K F v) : ∃ p vs, v = .ref p ∧ F p = some (.tup vs) ∧ DqAll K F vs ds := by
  have o' : Dq K F v (.tuple ds) := h
  cases o' with
  | tup h1 h2 => exact ⟨_, _, rfl, h1, h2⟩
theorem ixN_lt {n : Nat} {i : Int} {k : Nat} (h : ixN n i = some k) : k < n := by
  unfold ixN at h
  split at h
  · split at h
    · cases h; omega
    · cases h
  · split at h
    · cases h; omega
    · cases h
theorem atI_dp {K : PySem.W.Frag} {F : Hp} {vs : List V} {ds : List PyData} {d : PyData} (h : DqAll K F vs ds) (e : atI ds i = some d) : ∃ v, atI vs i = some v ∧ Dq K F v d := by
  unfold atI at e ⊢
  rw [dpa_len h]
  cases hx : ixN ds.length i with
  | none => rw [hx] at e; cases e
  | some k =>
    rw [hx] at e
    exact dpa_get h e
theorem ex_ixL {ds : List PyData} {d : PyData} (ha : EX B ta ε L x L1) (hb : EX B tb ε L1 (.d (.int i)) L2) (hx : IsL L2 x ds) (hi : atI ds i = some d) : EX B (tOp (rIxL B.K) ta tb) ε L (.d d) L2 := ex_op ha hb fun F σ H v w rp hv hw Q q => by
  obtain ⟨p, vs, rfl, h1, h2⟩ := hx.get rp hv
  obtain ⟨u, e1, e2⟩ := atI_dp h2 hi
  exact ⟨p, vs, i, u, rfl, int_inv hw, h1, e1, q u F H (Sub.rfl' F) rp e2⟩
theorem ex_ixT {ds : List PyData} {d : PyData} (ha : EX B ta ε L (.d (.tuple ds)) L1) (hb : EX B tb ε L1 (.d (.int i)) L2) (hi : atI ds i = some d) : EX B (tOp (rIxT B.K) ta tb) ε L (.d d) L2 := ex_op ha hb fun F σ H v w rp hv hw Q q => by
  obtain ⟨p, vs, rfl, h1, h2⟩ := tup_inv hv
  obtain ⟨u, e1, e2⟩ := atI_dp h2 hi
  exact ⟨p, vs, i, u, rfl, int_inv hw, tq_sub rp.sub h1, e1, q u F H (Sub.rfl' F) rp e2⟩
theorem eo_n : EO B tNoPart ε L none L := fun F σ H rp Q q => q F H (Sub.rfl' F) rp
theorem eo_s (h : EX B te ε L (.d (.int i)) L1) : EO B (tPart te) ε L (some i) L1 := fun F σ H rp Q q => h F σ H rp _ fun v F1 H1 s1 r1 o1 => ⟨i, int_inv o1, q F1 H1 s1 r1⟩
def cutD (xs : List PyData) (lo hi : Option Int) : List PyData := (xs.drop (HT.sIx xs.length 0 lo)).take (HT.sIx xs.length xs.length hi - HT.sIx xs.length 0 lo)
theorem cut_dp {K : PySem.W.Frag} {F : Hp} {vs : List V} {ds : List PyData} {lo hi : Option Int} (h : DqAll K F vs ds) : DqAll K F (cutV vs lo hi) (cutD ds lo hi) := by
  unfold cutV cutD
  rw [dpa_len h]
  exact dpa_take _ (dpa_drop _ h)
theorem en_slL {tl th : TO} {lo hi : Option Int} {ds : List PyData} (h : EX B te ε L x L1) (h1 : EO B tl ε L1 lo L2) (h2 : EO B th ε L2 hi L3) (hx : IsL L3 x ds) : EN B (tSl (rSlL B.K) te tl th) ε L (cutD ds lo hi) L3 := fun F σ H rp Q q =>
  h F σ H rp _ fun v F1 H1 s1 r1 o1 => h1 F1 σ H1 r1 _ fun F2 H2 s2 r2 => h2 F2 σ H2 r2 _ fun F3 H3 s3 r3 => by
    obtain ⟨p, vs, rfl, g1, g2⟩ := hx.get r3 (o1.sub (s2.tr s3))
    exact ⟨p, vs, rfl, g1, fun p' hp => q p' F3 _ ((s1.tr s2).tr s3) (r3.newM hp) (r3.alloc hp rfl ⟨_, upd_same, cut_dp g2⟩)⟩
theorem ex_slT {tl th : TO} {lo hi : Option Int} {ds : List PyData} (h : EX B te ε L (.d (.tuple ds)) L1) (h1 : EO B tl ε L1 lo L2) (h2 : EO B th ε L2 hi L3) : EX B (tSl (rSlA B.K) te tl th) ε L (.d (.tuple (cutD ds lo hi))) L3 := fun F σ H rp Q q =>
  h F σ H rp _ fun v F1 H1 s1 r1 o1 => h1 F1 σ H1 r1 _ fun F2 H2 s2 r2 => h2 F2 σ H2 r2 _ fun F3 H3 s3 r3 => by
    obtain ⟨p, vs, rfl, g1, g2⟩ := tup_inv (o1.sub (s2.tr s3))
    refine ⟨p, vs, rfl, tq_sub r3.sub g1, fun c => ?_, fun _ p' hp => ?_⟩
    · refine q _ F3 H3 ((s1.tr s2).tr s3) r3 (.tup g1 ?_)
      have e := cut_dp (lo := lo) (hi := hi) g2
      have e2 : cutV vs lo hi = vs := by
        unfold cutV
        rw [c.1, c.2, List.drop_zero, Nat.sub_zero, List.take_length]
      rw [e2] at e
      exact e
    · have hF := sub_none r3.sub hp
      exact q _ _ _ (((s1.tr s2).tr s3).tr (sub_fresh hF)) (r3.grow hp) (.tup upd_same (dpa_sub (sub_fresh hF) (cut_dp g2)))
theorem ex_catT {ds es : List PyData} (ha : EX B ta ε L (.d (.tuple ds)) L1) (hb : EX B tb ε L1 (.d (.tuple es)) L2) (hl : ds.length + es.length ≤ 100000) : EX B (tOp (rCatA B.K) ta tb) ε L (.d (.tuple (ds ++ es))) L2 := ex_op ha hb fun F σ H v w rp hv hw Q q => by
  obtain ⟨p, vs, rfl, g1, g2⟩ := tup_inv hv
  obtain ⟨p', ws, rfl, g3, g4⟩ := tup_inv hw
  have app := dpa_app g2 g4
  refine ⟨p, p', vs, ws, rfl, rfl, tq_sub rp.sub g1, tq_sub rp.sub g3, Evl.sz_of (by rw [dpa_len g2, dpa_len g4]; exact hl), fun e => ?_, fun _ e => ?_, fun _ _ n hn => ?_⟩
  · subst e
    exact q _ F H (Sub.rfl' F) rp (.tup g3 app)
  · subst e
    rw [List.append_nil] at app
    exact q _ F H (Sub.rfl' F) rp (.tup g1 app)
  · have hF := sub_none rp.sub hn
    exact q _ _ _ (sub_fresh hF) (rp.grow hn) (.tup upd_same (dpa_sub (sub_fresh hF) app))
theorem ex_lenL {ds : List PyData} {r : List V → Hp → VK → Prop} (h : EX B te ε L x L1) (hx : IsL L1 x ds) (hr : r = fun xs H Q => ∃ p ys, xs = [.ref p] ∧ (SqL B.K H p ys ∨ SqT B.K H p ys) ∧ Q (.int ys.length) H) :
    EX B (tCB r (tCons te tNil)) ε L (.d (.int (ds.length : Int))) L1 := fun F σ H rp Q q =>
  h F σ H rp _ fun v F1 H1 s1 r1 o1 => by
    obtain ⟨p, vs, rfl, g1, g2⟩ := hx.get r1 o1
    show r [.ref p] H1 Q
    rw [hr]
    refine ⟨p, vs, rfl, .inl g1, ?_⟩
    rw [dpa_len g2]
    exact q _ F1 H1 s1 r1 (.int _)
theorem ex_lenT {ds : List PyData} {r : List V → Hp → VK → Prop} (h : EX B te ε L (.d (.tuple ds)) L1) (hr : r = fun xs H Q => ∃ p ys, xs = [.ref p] ∧ (SqL B.K H p ys ∨ SqT B.K H p ys) ∧ Q (.int ys.length) H) :
    EX B (tCB r (tCons te tNil)) ε L (.d (.int (ds.length : Int))) L1 := fun F σ H rp Q q =>
  h F σ H rp _ fun v F1 H1 s1 r1 o1 => by
    obtain ⟨p, vs, rfl, g1, g2⟩ := tup_inv o1
    show r [.ref p] H1 Q
    rw [hr]
    refine ⟨p, vs, rfl, .inr (tq_sub r1.sub g1), ?_⟩
    rw [dpa_len g2]
    exact q _ F1 H1 s1 r1 (.int _)
end
end Fz

/-! ## Fz2 -/
set_option Elab.async false
set_option linter.all false
set_option maxRecDepth 100000
set_option maxHeartbeats 2000000
set_option autoImplicit false
/-! Fz2: statements, loops, comprehensions, calls. -/
namespace Fz
open PySem L2

section
variable {B : Bg} {ε ε' : Eps} {L L' L0 L1 L2 L3 : Own} {te ta tb : TE} {tt tu : TT} {tas tr : TA} {a b : AD} {D : Ends} {ts tc tw : TS} {g : TG}
/-! ### statements -/
theorem gt_name {j : Nat} : GT B (gName j) a ε (ε.set j (some a)) := fun L F σ H v r o P p => p _ (r.slot o)
theorem x_asg (h : EX B te ε L a L1) (hg : GT B g a ε ε') (k : Ho B D.nx ε' L1) : Ho B (tAsg te g D) ε L := fun F σ H r =>
  h F σ H r _ fun v F1 H1 _ r1 o1 => hg L1 F1 σ H1 v r1 o1 _ fun σ' r2 => k F1 σ' H1 r2
theorem x_set {i : Nat} (h : EX B te ε L a L1) (k : Ho B D.nx (ε.set i (some a)) L1) : Ho B (tAsg te (gName i) D) ε L := x_asg h gt_name k
theorem x_setN {i : Nat} {ds : List PyData} (h : EN B te ε L ds L1) (k : ∀ p, p ∉ B.M → Ho B D.nx (ε.set i (some (.v (.ref p)))) (.lst p ds :: L1)) : Ho B (tAsg te (gName i) D) ε L := fun F σ H r =>
  h F σ H r _ fun p F1 H1 _ hp r1 => k p hp F1 _ H1 (r1.slot (a := .v (.ref p)) rfl)
theorem x_drop (h : EX B te ε L a L1) (k : Ho B D.nx ε L1) : Ho B (tDrop te D) ε L := fun F σ H r => h F σ H r _ fun v F1 H1 _ r1 o1 => k F1 σ H1 r1
theorem x_seq (h : Ho B (ts { D with nx := tc D }) ε L) : Ho B (tSeq ts tc D) ε L := h
/-- a statement, then the rest from what M says -/
theorem x_cut {M : Eps → Own → Prop} (h : Ho B (ts { D with nx := AbsP B M }) ε L) (k : ∀ ε' L', M ε' L' → Ho B (tc D) ε' L') : Ho B (Evl.tCut ts tc D) ε L := fun F σ H r =>
  ⟨AbsP B M, h F σ H r, fun σ' H' ⟨ε', L', F', hm, r'⟩ => k ε' L' hm F' σ' H' r'⟩
theorem x_next (h : Ho B D.nx ε L) : Ho B (tNext D) ε L := h
theorem x_cont (h : Ho B D.ct ε L) : Ho B (tCont D) ε L := h
theorem x_break (h : Ho B D.bk ε L) : Ho B (tBreak D) ε L := h
theorem x_if {b : Bool} (h : ETt B tt ε L b L1) (h1 : b = true → Ho B (ts D) ε L1) (h2 : b = false → Ho B (tw D) ε L1) : Ho B (tIfS tt ts tw D) ε L := fun F σ H r =>
  h F σ H r _ fun F1 H1 _ r1 => by
    cases b with
    | true => exact h1 rfl F1 σ H1 r1
    | false => exact h2 rfl F1 σ H1 r1
theorem x_ret {d : PyData} (h : EX B te ε L (.d d) L1) (k : ∀ v F σ H, Rep B ε L1 F σ H → Dq B.K F v d → D.rt v H) : Ho B (tRet te D) ε L := fun F σ H r =>
  h F σ H r _ fun v F1 H1 _ r1 o1 => k v F1 σ H1 r1 o1
theorem x_retV {v : V} (h : EX B te ε L (.v v) L1) (k : ∀ F σ H, Rep B ε L1 F σ H → D.rt v H) : Ho B (tRet te D) ε L := fun F σ H r =>
  h F σ H r _ fun w F1 H1 _ r1 o1 => by
    have e : w = v := o1
    rw [e]; exact k F1 σ H1 r1
theorem x_par {i j : Nat} {a b : AD} (h : EA B tas ε L [a, b] L1) (k : Ho B D.nx ((ε.set i (some a)).set j (some b)) L1) : Ho B (tPar i j tas D) ε L := fun F σ H r =>
  h F σ H r _ fun vs F1 H1 _ r1 o1 => by
    match vs, o1 with
    | [v, w], o => exact ⟨v, w, rfl, k F1 _ H1 ((r1.slot o.1).slot o.2.1)⟩
/-- what is wanted holds from what is known, junk forgotten -/
theorem x_abs {I : Eps → Own → Prop} (h : I ε' L) (w : Wk ε ε') : Ho B (AbsP B I) ε L := fun F σ H r => ⟨ε', L, F, h, r.wk w⟩
theorem ho_wk {P : St → Hp → Prop} (h : Ho B P ε' L) (w : Wk ε ε') : Ho B P ε L := fun F σ H r => h F σ H (r.wk w)
theorem ho_abs {P : St → Hp → Prop} {I : Eps → Own → Prop} (h : ∀ ε L, I ε L → Ho B P ε L) {σ : St} {H : Hp} (x : AbsP B I σ H) : P σ H :=
  let ⟨ε, L, F, i, r⟩ := x
  h ε L i F σ H r
/-- an owned thing, or a thing known, given up -/
theorem ho_drop {P : St → Hp → Prop} {k : Nat} {m : MO} (h : Ho B P ε (L.eraseIdx k)) (hk : L[k]? = some m) (hM : ∀ p ∈ m.fp, p ∉ B.M) : Ho B P ε L := fun F σ H r => h F σ H (r.drop hk hM)

/-! ### targets that are tuples -/
theorem gt_tup2 {i j : Nat} {d e : PyData} : GT B (gTup B.K 2 (gCons (gName i) (gCons (gName j) gNil))) (.d (.tuple [d, e])) ε ((ε.set i (some (.d d))).set j (some (.d e))) := fun L F σ H v r o P p => by
  obtain ⟨q, vs, rfl, h1, h2⟩ := tup_inv o
  cases h2 with
  | cons a t =>
    cases t with
    | cons b t =>
      cases t
      exact ⟨q, _, rfl, tq_sub r.sub h1, rfl, _, _, rfl, _, _, rfl, rfl, p _ ((r.slot (a := .d d) a).slot (a := .d e) b)⟩
theorem gt_tup3 {i j k : Nat} {d e f : PyData} : GT B (gTup B.K 3 (gCons (gName i) (gCons (gName j) (gCons (gName k) gNil)))) (.d (.tuple [d, e, f])) ε (((ε.set i (some (.d d))).set j (some (.d e))).set k (some (.d f))) := fun L F σ H v r o P p => by
  obtain ⟨q, vs, rfl, h1, h2⟩ := tup_inv o
  cases h2 with
  | cons a t =>
    cases t with
    | cons b t =>
      cases t with
      | cons c t =>
        cases t
        exact ⟨q, _, rfl, tq_sub r.sub h1, rfl, _, _, rfl, _, _, rfl, _, _, rfl, rfl, p _ (((r.slot (a := .d d) a).slot (a := .d e) b).slot (a := .d f) c)⟩

/-! ### loops -/
theorem x_forR1 {j : Nat} {n : Int} (h : EA B tas ε L [.d (.int n)] L1) (hn : -(2 ^ 62) ≤ n ∧ n < 2 ^ 62) (I : Nat → Eps → Own → Prop) (h0 : I 0 ε L1)
    (hs : ∀ (i : Nat) ε' L', (i : Int) < n → I i ε' L' → Ho B (tc { D with nx := AbsP B (I (i + 1)), ct := AbsP B (I (i + 1)), bk := D.nx }) (ε'.set j (some (.d (.int (i : Int))))) L')
    (hd : ∀ ε' L', I n.toNat ε' L' → Ho B D.nx ε' L') : Ho B (tFor (iRng1 tas) (gName j) tc D) ε L := fun F σ H r =>
  h F σ H r _ fun vs F1 H1 _ r1 o1 => by
    match vs, o1 with
    | [v], o =>
      have ev : v = .int n := int_inv o.1
      subst ev
      refine ⟨n, rfl, hn.1, hn.2, for_range (lo := 0) (n := n.toNat) (fun i => AbsP B (I i)) ⟨ε, L1, F1, h0, r1⟩ (fun i σ' H' hi p => ?_) fun σ' H' p => ho_abs hd p⟩
      obtain ⟨ε', L', F', hI, r'⟩ := p
      have e0 : (0 : Int) + (i : Int) = (i : Int) := Int.zero_add _
      show tc _ (σ'.set j (some (.int ((0 : Int) + (i : Int))))) H'
      rw [e0]
      exact hs i ε' L' (by omega) hI F' _ H' (r'.slot (a := .d (.int (i : Int))) (.int _))
theorem x_forR2 {j : Nat} {lo n : Int} (h : EA B tas ε L [.d (.int lo), .d (.int n)] L1) (hn : (-(2 ^ 62) ≤ lo ∧ lo < 2 ^ 62) ∧ -(2 ^ 62) ≤ n ∧ n < 2 ^ 62) (I : Nat → Eps → Own → Prop) (h0 : I 0 ε L1)
    (hs : ∀ (i : Nat) ε' L', lo + (i : Int) < n → I i ε' L' → Ho B (tc { D with nx := AbsP B (I (i + 1)), ct := AbsP B (I (i + 1)), bk := D.nx }) (ε'.set j (some (.d (.int (lo + (i : Int)))))) L')
    (hd : ∀ ε' L', I (n - lo).toNat ε' L' → Ho B D.nx ε' L') : Ho B (tFor (iRng2 tas) (gName j) tc D) ε L := fun F σ H r =>
  h F σ H r _ fun vs F1 H1 _ r1 o1 => by
    match vs, o1 with
    | [v, w], o =>
      have ev : v = .int lo := int_inv o.1
      have ew : w = .int n := int_inv o.2.1
      subst ev ew
      refine ⟨lo, n, rfl, ⟨hn.1.1, hn.1.2, hn.2.1, hn.2.2⟩, for_range (lo := lo) (n := (n - lo).toNat) (fun i => AbsP B (I i)) ⟨ε, L1, F1, h0, r1⟩ (fun i σ' H' hi p => ?_) fun σ' H' p => ho_abs hd p⟩
      obtain ⟨ε', L', F', hI, r'⟩ := p
      exact hs i ε' L' (by omega) hI F' _ H' (r'.slot (a := .d (.int (lo + (i : Int)))) (.int _))
/-- over a frozen list -/
theorem x_forL {ds : List PyData} (h : EX B te ε L (.d (.list ds)) L1) (I : V → Nat → Eps → Own → Prop) (h0 : ∀ v, I v 0 ε (L1 ++ [.know v (.list ds)])) (hl : ∀ v i ε' L', I v i ε' L' → MO.know v (.list ds) ∈ L')
    (hs : ∀ v i d ε' L', ds[i]? = some d → I v i ε' L' → ∃ ε'', GT B g (.d d) ε' ε'' ∧ Ho B (tc { D with nx := AbsP B (I v (i + 1)), ct := AbsP B (I v (i + 1)), bk := D.nx }) ε'' L')
    (hd : ∀ v ε' L', I v ds.length ε' L' → Ho B D.nx ε' L') : Ho B (tFor (iList B.K te) g tc D) ε L := fun F σ H r =>
  h F σ H r _ fun v F1 H1 _ r1 o1 => by
    have o' : Dq B.K F1 v (.list ds) := o1
    have r2 := r1.learn o'
    cases o' with
    | @lst p vs _ q1 q2 =>
      have back : ∀ {i : Nat} {ε' : Eps} {L' : Own} {F' : Hp} {σ' : St} {H' : Hp}, I (.ref p) i ε' L' → Rep B ε' L' F' σ' H' → ∃ ws, SqL B.K H' p ws ∧ DqAll B.K F' ws ds := fun hI r' => by
        have k : Dq B.K _ (.ref p) (.list ds) := r'.own _ (hl _ _ _ _ hI)
        cases k with
        | lst k1 k2 => exact ⟨_, .inl (.inl (r'.sub _ _ k1)), k2⟩
      refine ⟨p, rfl, ⟨vs, .inl (.inl (r1.sub _ _ q1))⟩, ⟨fun i m σ' H' => m = ds.length - i ∧ i ≤ ds.length ∧ AbsP B (I (.ref p) i) σ' H', ⟨_, rfl, Nat.zero_le _, ε, _, F1, h0 _, r2⟩, ?_⟩⟩
      rintro i m σ' H' ⟨rfl, hi, ε', L', F', hI, r'⟩
      obtain ⟨ws, k1, k2⟩ := back hI r'
      by_cases hlt : i < ds.length
      · obtain ⟨d, hdi⟩ : ∃ d, ds[i]? = some d := ⟨_, List.getElem?_eq_getElem hlt⟩
        obtain ⟨w, e1, e2⟩ := dpa_get k2 hdi
        obtain ⟨ε'', hg, hb⟩ := hs _ i d ε' L' hdi hI
        refine .inr ⟨⟨ws, w, k1, e1⟩, AbsP B (I (.ref p) (i + 1)), fun σ2 H2 hN => ⟨ds.length - (i + 1), by omega, rfl, hlt, hN⟩, fun x H2 hy => ?_⟩
        obtain ⟨rfl, hx⟩ := hy
        have ex : x = w := Option.some.inj ((hx ws k1).symm.trans e1)
        subst ex
        exact hg L' F' σ' _ x r' e2 _ fun σ3 r3 => hb F' σ3 _ r3
      · have ei : i = ds.length := by omega
        subst ei
        exact .inl ⟨⟨ws, k1, by rw [dpa_len k2]; exact Nat.le_refl _⟩, hd _ _ _ hI F' σ' H' r'⟩
/-- over an owned list that the loop leaves -/
theorem x_forO {p : Addr} {ds : List PyData} (h : EX B te ε L (.v (.ref p)) L1) (I : Nat → Eps → Own → Prop) (h0 : I 0 ε L1) (hl : ∀ i ε' L', I i ε' L' → MO.lst p ds ∈ L')
    (hs : ∀ i d ε' L', ds[i]? = some d → I i ε' L' → ∃ ε'', GT B g (.d d) ε' ε'' ∧ Ho B (tc { D with nx := AbsP B (I (i + 1)), ct := AbsP B (I (i + 1)), bk := D.nx }) ε'' L')
    (hd : ∀ ε' L', I ds.length ε' L' → Ho B D.nx ε' L') : Ho B (tFor (iList B.K te) g tc D) ε L := fun F σ H r =>
  h F σ H r _ fun v F1 H1 _ r1 o1 => by
    have ev : v = .ref p := o1
    subst ev
    have back : ∀ {i : Nat} {ε' : Eps} {L' : Own} {F' : Hp} {σ' : St} {H' : Hp}, I i ε' L' → Rep B ε' L' F' σ' H' → ∃ ws, SqL B.K H' p ws ∧ DqAll B.K F' ws ds := fun hI r' => by
      obtain ⟨ws, k1, k2⟩ := r'.own _ (hl _ _ _ hI)
      exact ⟨ws, .inl (.inl k1), k2⟩
    obtain ⟨vs, q1, q2⟩ := back h0 r1
    refine ⟨p, rfl, ⟨vs, q1⟩, ⟨fun i m σ' H' => m = ds.length - i ∧ i ≤ ds.length ∧ AbsP B (I i) σ' H', ⟨_, rfl, Nat.zero_le _, ε, _, F1, h0, r1⟩, ?_⟩⟩
    rintro i m σ' H' ⟨rfl, hi, ε', L', F', hI, r'⟩
    obtain ⟨ws, k1, k2⟩ := back hI r'
    by_cases hlt : i < ds.length
    · obtain ⟨d, hdi⟩ : ∃ d, ds[i]? = some d := ⟨_, List.getElem?_eq_getElem hlt⟩
      obtain ⟨w, e1, e2⟩ := dpa_get k2 hdi
      obtain ⟨ε'', hg, hb⟩ := hs i d ε' L' hdi hI
      refine .inr ⟨⟨ws, w, k1, e1⟩, AbsP B (I (i + 1)), fun σ2 H2 hN => ⟨ds.length - (i + 1), by omega, rfl, hlt, hN⟩, fun x H2 hy => ?_⟩
      obtain ⟨rfl, hx⟩ := hy
      have ex : x = w := Option.some.inj ((hx ws k1).symm.trans e1)
      subst ex
      exact hg L' F' σ' _ x r' e2 _ fun σ3 r3 => hb F' σ3 _ r3
    · have ei : i = ds.length := by omega
      subst ei
      exact .inl ⟨⟨ws, k1, by rw [dpa_len k2]; exact Nat.le_refl _⟩, hd _ _ hI F' σ' H' r'⟩
/-- over a tuple -/
theorem x_forT {ds : List PyData} (h : EX B te ε L (.d (.tuple ds)) L1) (I : V → Nat → Eps → Own → Prop) (h0 : ∀ v, I v 0 ε (L1 ++ [.know v (.tuple ds)])) (hl : ∀ v i ε' L', I v i ε' L' → MO.know v (.tuple ds) ∈ L')
    (hs : ∀ v i d ε' L', ds[i]? = some d → I v i ε' L' → ∃ ε'', GT B g (.d d) ε' ε'' ∧ Ho B (tc { D with nx := AbsP B (I v (i + 1)), ct := AbsP B (I v (i + 1)), bk := D.nx }) ε'' L')
    (hd : ∀ v ε' L', I v ds.length ε' L' → Ho B D.nx ε' L') : Ho B (tFor (iTup B.K te) g tc D) ε L := fun F σ H r =>
  h F σ H r _ fun v F1 H1 _ r1 o1 => by
    have o' : Dq B.K F1 v (.tuple ds) := o1
    have r2 := r1.learn o'
    cases o' with
    | @tup p vs _ q1 q2 =>
      have back : ∀ {i : Nat} {ε' : Eps} {L' : Own} {F' : Hp} {σ' : St} {H' : Hp}, I (.ref p) i ε' L' → Rep B ε' L' F' σ' H' → ∃ ws, SqT B.K H' p ws ∧ DqAll B.K F' ws ds := fun hI r' => by
        have k : Dq B.K _ (.ref p) (.tuple ds) := r'.own _ (hl _ _ _ _ hI)
        cases k with
        | tup k1 k2 => exact ⟨_, tq_sub r'.sub k1, k2⟩
      refine ⟨p, rfl, ⟨vs, tq_sub r1.sub q1⟩, ⟨fun i m σ' H' => m = ds.length - i ∧ i ≤ ds.length ∧ AbsP B (I (.ref p) i) σ' H', ⟨_, rfl, Nat.zero_le _, ε, _, F1, h0 _, r2⟩, ?_⟩⟩
      rintro i m σ' H' ⟨rfl, hi, ε', L', F', hI, r'⟩
      obtain ⟨ws, k1, k2⟩ := back hI r'
      by_cases hlt : i < ds.length
      · obtain ⟨d, hdi⟩ : ∃ d, ds[i]? = some d := ⟨_, List.getElem?_eq_getElem hlt⟩
        obtain ⟨w, e1, e2⟩ := dpa_get k2 hdi
        obtain ⟨ε'', hg, hb⟩ := hs _ i d ε' L' hdi hI
        refine .inr ⟨⟨ws, w, k1, e1⟩, AbsP B (I (.ref p) (i + 1)), fun σ2 H2 hN => ⟨ds.length - (i + 1), by omega, rfl, hlt, hN⟩, fun x H2 hy => ?_⟩
        obtain ⟨rfl, hx⟩ := hy
        have ex : x = w := Option.some.inj ((hx ws k1).symm.trans e1)
        subst ex
        exact hg L' F' σ' _ x r' e2 _ fun σ3 r3 => hb F' σ3 _ r3
      · have ei : i = ds.length := by omega
        subst ei
        exact .inl ⟨⟨ws, k1, by rw [dpa_len k2]; exact Nat.le_refl _⟩, hd _ _ _ hI F' σ' H' r'⟩
/-- over enumerate of a frozen list -/
theorem x_forE {ds : List PyData} (h : EA B tas ε L [.d (.list ds)] L1) (I : V → Nat → Eps → Own → Prop) (h0 : ∀ v, I v 0 ε (L1 ++ [.know v (.list ds)])) (hl : ∀ v i ε' L', I v i ε' L' → MO.know v (.list ds) ∈ L')
    (hs : ∀ v i d ε' L', ds[i]? = some d → I v i ε' L' → ∃ ε'', GT B g (.d (.tuple [.int (i : Int), d])) ε' ε'' ∧ Ho B (tc { D with nx := AbsP B (I v (i + 1)), ct := AbsP B (I v (i + 1)), bk := D.nx }) ε'' L')
    (hd : ∀ v ε' L', I v ds.length ε' L' → Ho B D.nx ε' L') : Ho B (tFor (iEnum B.K tas) g tc D) ε L := fun F σ H r =>
  h F σ H r _ fun vs0 F1 H1 _ r1 o1 => by
    match vs0, o1 with
    | [v], o =>
    have o' : Dq B.K F1 v (.list ds) := o.1
    have r2 := r1.learn o'
    cases o' with
    | @lst p vs _ q1 q2 =>
      have back : ∀ {i : Nat} {ε' : Eps} {L' : Own} {F' : Hp} {σ' : St} {H' : Hp}, I (.ref p) i ε' L' → Rep B ε' L' F' σ' H' → ∃ ws, SqL B.K H' p ws ∧ DqAll B.K F' ws ds := fun hI r' => by
        have k : Dq B.K _ (.ref p) (.list ds) := r'.own _ (hl _ _ _ _ hI)
        cases k with
        | lst k1 k2 => exact ⟨_, .inl (.inl (r'.sub _ _ k1)), k2⟩
      refine ⟨p, vs, rfl, .inl (.inl (r1.sub _ _ q1)), ⟨fun i m σ' H' => m = ds.length - i ∧ i ≤ ds.length ∧ AbsP B (I (.ref p) i) σ' H', ⟨_, rfl, Nat.zero_le _, ε, _, F1, h0 _, r2⟩, ?_⟩⟩
      rintro i m σ' H' ⟨rfl, hi, ε', L', F', hI, r'⟩
      obtain ⟨ws, k1, k2⟩ := back hI r'
      by_cases hlt : i < ds.length
      · obtain ⟨d, hdi⟩ : ∃ d, ds[i]? = some d := ⟨_, List.getElem?_eq_getElem hlt⟩
        obtain ⟨w, e1, e2⟩ := dpa_get k2 hdi
        obtain ⟨ε'', hg, hb⟩ := hs _ i d ε' L' hdi hI
        refine .inr ⟨⟨ws, w, k1, e1⟩, AbsP B (I (.ref p) (i + 1)), fun σ2 H2 hN => ⟨ds.length - (i + 1), by omega, rfl, hlt, hN⟩, fun x H2 hy => ?_⟩
        obtain ⟨T, y, rfl, hT, rfl, hx⟩ := hy
        have ex : y = w := Option.some.inj ((hx ws k1).symm.trans e1)
        subst ex
        have hF := sub_none r'.sub hT
        exact hg L' _ σ' _ _ (r'.grow hT) (.tup upd_same (.cons (.int _) (.cons (dp_sub (sub_fresh hF) e2) .nil))) _ fun σ3 r3 => hb _ σ3 _ r3
      · have ei : i = ds.length := by omega
        subst ei
        exact .inl ⟨⟨ws, k1, by rw [dpa_len k2]; exact Nat.le_refl _⟩, hd _ _ _ hI F' σ' H' r'⟩
theorem x_while (I : Nat → Eps → Own → Prop) {m0 : Nat} (h0 : I m0 ε L)
    (hs : ∀ m ε' L', I m ε' L' → ∃ b L'', ETt B tt ε' L' b L'' ∧ (b = true → Ho B (tc { D with nx := AbsP B (fun ε L => ∃ m', m' < m ∧ I m' ε L), ct := AbsP B (fun ε L => ∃ m', m' < m ∧ I m' ε L), bk := D.nx }) ε' L'') ∧ (b = false → Ho B D.nx ε' L'')) :
    Ho B (tWhile tt tc D) ε L := fun F σ H r => by
  refine ⟨fun m => AbsP B (I m), ⟨m0, ε, L, F, h0, r⟩, ?_⟩
  rintro m σ' H' ⟨ε', L', F', hI, r'⟩
  obtain ⟨b, L'', ht, h1, h2⟩ := hs m ε' L' hI
  refine ht F' σ' H' r' _ fun F2 H2 _ r2 => ?_
  cases b with
  | true =>
    refine ⟨AbsP B (fun ε L => ∃ m', m' < m ∧ I m' ε L), fun σ3 H3 ⟨ε3, L3, F3, ⟨m', hm, hI'⟩, r3⟩ => ⟨m', hm, ε3, L3, F3, hI', r3⟩, ?_⟩
    exact h1 rfl F2 σ' H2 r2
  | false => exact h2 rfl F2 σ' H2 r2
end

/-! ### comprehensions -/
def wipeE (ε : Eps) : List Nat → Eps
  | [] => ε
  | v :: vs => (wipeE ε vs).set v none
section
variable {B : Bg} {ε ε' : Eps} {L L' L0 L1 L2 L3 : Own} {F : Hp} {σ : St} {H : Hp}
theorem Rep.forget (r : Rep B ε L F σ H) {i : Nat} : Rep B (ε.set i none) L F (σ.set i none) H := by
  refine ⟨r.sub, r.own, r.off, r.nd, fun j x e => ?_, by rw [List.length_set, List.length_set]; exact r.len, r.f0, r.h0, r.nc, r.mm⟩
  rw [List.getElem?_set] at e
  rw [List.getElem?_set, r.len]
  split at e
  · rename_i ij
    subst ij
    split at e
    · rename_i il
      cases e
      rw [if_pos rfl, if_pos il]
      exact ⟨_, rfl, trivial⟩
    · cases e
  · rename_i ij
    rw [if_neg ij]
    exact r.sl j x e
theorem Rep.wipe (r : Rep B ε L F σ H) : ∀ vs : List Nat, Rep B (wipeE ε vs) L F (_root_.L2.wipe σ vs) H
  | [] => r
  | _ :: vs => (r.wipe vs).forget
/-- the slots as they were, the heap as it is -/
theorem Rep.reslot {σ' : St} {ε0 : Eps} {L0 : Own} {F0 H0 : Hp} (r : Rep B ε L F σ H) (r0 : Rep B ε0 L0 F0 σ' H0) (s : Sub F0 F) : Rep B ε0 L F σ' H :=
  ⟨r.sub, r.own, r.off, r.nd, fun i x e => let ⟨y, a, b⟩ := r0.sl i x e; ⟨y, a, b.sub s⟩, r0.len, r.f0, r.h0, r.nc, r.mm⟩
theorem fps_rot (m : MO) (L : Own) : (fps (L ++ [m])).Perm (fps (m :: L)) := by
  have e : fps (L ++ [m]) = fps L ++ m.fp := by unfold fps; rw [List.flatMap_append]; show _ ++ (m.fp ++ []) = _; rw [List.append_nil]
  rw [e]
  exact List.perm_append_comm
theorem Rep.perm (r : Rep B ε L F σ H) (h1 : ∀ m, m ∈ L' → m ∈ L) (h2 : (fps L).Perm (fps L')) : Rep B ε L' F σ H :=
  ⟨r.sub, fun m hm => r.own m (h1 m hm), fun p hp => r.off p (h2.mem_iff.mpr hp), h2.nodup r.nd, r.sl, r.len, r.f0, r.h0, r.nc, fun p hp => h2.mem_iff.mp (r.mm p hp)⟩
theorem Rep.toEnd {m : MO} (r : Rep B ε (m :: L) F σ H) : Rep B ε (L ++ [m]) F σ H := r.perm (fun x hx => by
  rcases List.mem_append.mp hx with h | h
  · exact List.mem_cons_of_mem _ h
  · rw [List.mem_singleton.mp h]; exact List.mem_cons_self) (fps_rot m L).symm
theorem Rep.toHead {m : MO} (r : Rep B ε (L ++ [m]) F σ H) : Rep B ε (m :: L) F σ H := r.perm (fun x hx => by
  rcases List.mem_cons.mp hx with h | h
  · rw [h]; exact List.mem_append_right _ List.mem_cons_self
  · exact List.mem_append_left _ h) (fps_rot m L)
end
end Fz

/-! ## Fz3 -/
set_option Elab.async false
set_option linter.all false
set_option maxRecDepth 100000
set_option maxHeartbeats 2000000
set_option autoImplicit false
/-! Fz3: comprehensions, calls, methods of lists, built-ins. -/
namespace Fz
open PySem L2

section
variable {B : Bg} {ε ε' : Eps} {L L' La Lb Lc Ld : Own} {te ta tb tl : TE} {tt tu : TT} {tas tr : TA} {a b x : AD} {D : Ends} {ts tc tw : TS} {g : TG} {vs : List Nat}
/-! ### comprehensions: I says what is gathered behind i items, and what is owned then -/
def CW (B : Bg) (ε : Eps) (vs : List Nat) (F1 : Hp) (σ : St) (I : Nat → List PyData → Own → Prop) (Dl : Addr) (i : Nat) (H : Hp) : Prop :=
  ∃ acc L F, Sub F1 F ∧ I i acc L ∧ Rep B (wipeE ε vs) (L ++ [.lst Dl acc]) F (wipe σ vs) H
/-- one turn of a comprehension, said of data -/
def CTurn (B : Bg) (g : TG) (tt : TT) (te : TE) (ε : Eps) (vs : List Nat) (I : Nat → List PyData → Own → Prop) (i : Nat) (d : PyData) : Prop :=
  ∀ acc L', I i acc L' → acc.length < 100000 ∧ ∃ ε2, GT B g (.d d) (wipeE ε vs) ε2 ∧ ∃ b L2, (∀ m, ETt B tt ε2 (L' ++ [m]) b (L2 ++ [m])) ∧ (b = true → ∃ e L3, (∀ m, EX B te ε2 (L2 ++ [m]) (.d e) (L3 ++ [m])) ∧ I (i + 1) (acc ++ [e]) L3) ∧ (b = false → I (i + 1) acc L2)
theorem get_last {L : Own} {m : MO} : (L ++ [m])[L.length]? = some m := by rw [List.getElem?_append_right (Nat.le_refl _), Nat.sub_self]; rfl
theorem set_last {L : Own} {m n : MO} : (L ++ [m]).set L.length n = L ++ [n] := by rw [List.set_append_right _ _ (Nat.le_refl _), Nat.sub_self]; rfl
theorem cturn_go {F1 : Hp} {σ : St} {I : Nat → List PyData → Own → Prop} {Dl : Addr} {i : Nat} {H : Hp} {d : PyData} {w : V} (hw : ∀ v σ H P, (g v (wipe σ vs) H P ↔ g v (wipe σ vs) H fun σ2 H2 => wipe σ2 vs = wipe σ vs ∧ P σ2 H2))
    (ct : CTurn B g tt te ε vs I i d) (c : CW B ε vs F1 σ I Dl i H) (hd : ∀ F acc L, Sub F1 F → Rep B (wipeE ε vs) (L ++ [.lst Dl acc]) F (wipe σ vs) H → Dq B.K F w d) :
    g w (wipe σ vs) H fun σ2 H2 => wipe σ2 vs = wipe σ vs ∧ tt σ2 H2 fun b H3 =>
      if b = true then te σ2 H3 fun y H4 => ∃ acc, H4 Dl = some (.lst acc) ∧ acc.length < sizeLine ∧ CW B ε vs F1 σ I Dl (i + 1) (upd H4 Dl (.lst (acc ++ [y]))) else CW B ε vs F1 σ I Dl (i + 1) H3 := by
  obtain ⟨acc, L', F, s, hI, r⟩ := c
  obtain ⟨hz, ε2, hg, b, L2, h1, h2, h3⟩ := ct acc L' hI
  refine (hw w σ H _).mp (hg _ F _ H w r (hd F acc L' s r) _ fun σ2 r2 => ?_)
  refine h1 _ F σ2 H r2 _ fun F3 H3 s3 r3 => ?_
  cases b with
  | true =>
    obtain ⟨e, L3, h4, h5⟩ := h2 rfl
    show te σ2 H3 _
    refine h4 _ F3 σ2 H3 r3 _ fun y F4 H4 s4 r4 o4 => ?_
    obtain ⟨ws, k1, k2⟩ := r4.own _ (List.mem_append_right _ List.mem_cons_self)
    have hz2 : ws.length < sizeLine := by rw [dpa_len k2]; exact Evl.sz_lt hz
    refine ⟨ws, k1, hz2, acc ++ [e], L3, F4, (s.tr s3).tr s4, h5, ?_⟩
    have r5 : Rep B (wipeE ε vs) (L3 ++ [.lst Dl acc]) F4 (wipe σ vs) H4 := r4.reslot r ((s3).tr s4)
    have r6 := r5.chg (m' := .lst Dl (acc ++ [e])) (H' := upd H4 Dl (.lst (ws ++ [y]))) get_last rfl ⟨_, upd_same, dpa_app k2 (.cons o4 .nil)⟩ fun q o hq e => by
      rw [upd_ne (fun z => hq (by rw [z]; exact List.mem_cons_self))]; exact e
    rw [set_last] at r6
    exact r6
  | false =>
    exact ⟨acc, L2, F3, s.tr s3, h3 rfl, r3.reslot r s3⟩
/-- targets that store in slots of the comprehension alone -/
theorem gw_name {j : Nat} (hj : j ∈ vs) : ∀ (v : V) (σ : St) (H : Hp) (P : St → Hp → Prop), (gName j v (wipe σ vs) H P ↔ gName j v (wipe σ vs) H fun σ2 H2 => wipe σ2 vs = wipe σ vs ∧ P σ2 H2) := fun v σ H P => by
  have key : ∀ (vs : List Nat), j ∈ vs → ∀ (σ : St) x, wipe (σ.set j x) vs = wipe σ vs := by
    intro vs
    induction vs with
    | nil => intro h; simp at h
    | cons k ks ih =>
      intro h σ x
      show (wipe (σ.set j x) ks).set k none = (wipe σ ks).set k none
      by_cases hk : j ∈ ks
      · rw [ih hk]
      · have ejk : j = k := by
          rcases List.mem_cons.mp h with e | e
          · exact e
          · exact absurd e hk
        subst ejk
        have push : ∀ (ks : List Nat) (σ : St), j ∉ ks → wipe (σ.set j x) ks = (wipe σ ks).set j x := by
          intro ks
          induction ks with
          | nil => intro σ _; rfl
          | cons l ls ih2 =>
            intro σ hn
            show (wipe (σ.set j x) ls).set l none = ((wipe σ ls).set l none).set j x
            rw [ih2 σ fun z => hn (List.mem_cons_of_mem _ z)]
            exact List.set_comm _ _ fun z => hn (z ▸ List.mem_cons_self)
        rw [push ks σ hk, List.set_set]
  have w2 : ∀ (vs : List Nat) (σ : St), wipe (wipe σ vs) vs = wipe σ vs := by
    intro vs
    have aux : ∀ (ks ls : List Nat) (σ : St), (∀ k ∈ ks, k ∈ ls) → wipe (wipe σ ls) ks = wipe σ ls := by
      intro ks
      induction ks with
      | nil => intro ls σ _; rfl
      | cons k ks ih =>
        intro ls σ h
        show (wipe (wipe σ ls) ks).set k none = wipe σ ls
        rw [ih ls σ fun z hz => h z (List.mem_cons_of_mem _ hz)]
        have hk := h k List.mem_cons_self
        clear ih h
        induction ls with
        | nil => simp at hk
        | cons l ls ih =>
          show ((wipe σ ls).set l none).set k none = (wipe σ ls).set l none
          by_cases e : l = k
          · subst e; rw [List.set_set]
          · rw [List.set_comm _ _ e]
            rcases List.mem_cons.mp hk with z | z
            · exact absurd z.symm e
            · rw [ih z]
    intro σ
    exact aux vs vs σ fun _ h => h
  constructor
  · intro h
    exact ⟨by rw [key vs hj, w2], h⟩
  · intro h
    exact h.2
theorem cw_start {F1 : Hp} {σ : St} {H1 : Hp} {I : Nat → List PyData → Own → Prop} {Dl : Addr} (r1 : Rep B ε La F1 σ H1) (hD : H1 Dl = none) (h0 : I 0 [] La) : CW B ε vs F1 σ I Dl 0 (upd H1 Dl (.lst [])) :=
  ⟨[], La, F1, Sub.rfl' F1, h0, ((r1.alloc (m := .lst Dl []) hD rfl ⟨[], upd_same, .nil⟩).toEnd).wipe vs⟩
theorem cw_end {F F1 : Hp} {σ : St} {H1 : Hp} {I : Nat → List PyData → Own → Prop} {Dl : Addr} {n : Nat} {H' : Hp} {Q : VK} (s1 : Sub F F1) (r1 : Rep B ε La F1 σ H1) (hD : H1 Dl = none) (c : CW B ε vs F1 σ I Dl n H')
    {ds : List PyData} (hd : ∀ acc L', I n acc L' → acc = ds ∧ L' = L) (q : ∀ p F' H', Sub F F' → p ∉ B.M → Rep B ε (.lst p ds :: L) F' σ H' → Q (.ref p) H') : Q (.ref Dl) H' := by
  obtain ⟨acc, L', F', s, hI, r⟩ := c
  obtain ⟨rfl, rfl⟩ := hd acc L' hI
  exact q Dl F' H' (s1.tr s) (r1.newM hD) (r.reslot r1 s).toHead
theorem en_lcR1 {j : Nat} {n : Int} {ds : List PyData} (h : EA B tas ε L [.d (.int n)] La) (hn : -(2 ^ 62) ≤ n ∧ n < 2 ^ 62) (I : Nat → List PyData → Own → Prop) (h0 : I 0 [] La) (hj : j ∈ vs)
    (hs : ∀ i : Nat, (i : Int) < n → CTurn B (gName j) tt te ε vs I i (.int (i : Int))) (hd : ∀ acc L', I n.toNat acc L' → acc = ds ∧ L' = Lb) : EN B (tLc (iRng1 tas) (gName j) tt te vs) ε L ds Lb := fun F σ H r Q q =>
  h F σ H r _ fun ws F1 H1 s1 r1 o1 => by
    match ws, o1 with
    | [v], o =>
      have ev : v = .int n := int_inv o.1
      subst ev
      refine ⟨n, rfl, hn.1, hn.2, fun Dl hD => lc_range (lo := 0) (n := n.toNat) (CW B ε vs F1 σ I Dl) (cw_start r1 hD h0) (fun i H' hi c => ?_) fun H' c => cw_end s1 r1 hD c hd q⟩
      have e0 : (0 : Int) + (i : Int) = (i : Int) := Int.zero_add _
      rw [e0]
      exact cturn_go (gw_name hj) (hs i (by omega)) c fun _ _ _ _ _ => .int _
theorem en_lcR2 {j : Nat} {lo n : Int} {ds : List PyData} (h : EA B tas ε L [.d (.int lo), .d (.int n)] La) (hn : (-(2 ^ 62) ≤ lo ∧ lo < 2 ^ 62) ∧ -(2 ^ 62) ≤ n ∧ n < 2 ^ 62) (I : Nat → List PyData → Own → Prop) (h0 : I 0 [] La) (hj : j ∈ vs)
    (hs : ∀ i : Nat, lo + (i : Int) < n → CTurn B (gName j) tt te ε vs I i (.int (lo + (i : Int)))) (hd : ∀ acc L', I (n - lo).toNat acc L' → acc = ds ∧ L' = Lb) : EN B (tLc (iRng2 tas) (gName j) tt te vs) ε L ds Lb := fun F σ H r Q q =>
  h F σ H r _ fun ws F1 H1 s1 r1 o1 => by
    match ws, o1 with
    | [v, w], o =>
      have ev : v = .int lo := int_inv o.1
      have ew : w = .int n := int_inv o.2.1
      subst ev ew
      refine ⟨lo, n, rfl, ⟨hn.1.1, hn.1.2, hn.2.1, hn.2.2⟩, fun Dl hD => lc_range (lo := lo) (n := (n - lo).toNat) (CW B ε vs F1 σ I Dl) (cw_start r1 hD h0) (fun i H' hi c => ?_) fun H' c => cw_end s1 r1 hD c hd q⟩
      exact cturn_go (gw_name hj) (hs i (by omega)) c fun _ _ _ _ _ => .int _
/-- over a frozen list, any target -/
theorem en_lcL {xs ds : List PyData} (h : EX B tl ε L (.d (.list xs)) La) (I : Nat → List PyData → Own → Prop) (h0 : I 0 [] La)
    (hw : ∀ (v : V) (σ : St) (H : Hp) (P : St → Hp → Prop), (g v (wipe σ vs) H P ↔ g v (wipe σ vs) H fun σ2 H2 => wipe σ2 vs = wipe σ vs ∧ P σ2 H2))
    (hs : ∀ (i : Nat) d, xs[i]? = some d → CTurn B g tt te ε vs I i d) (hd : ∀ acc L', I xs.length acc L' → acc = ds ∧ L' = Lb) : EN B (tLc (iList B.K tl) g tt te vs) ε L ds Lb := fun F σ H r Q q =>
  h F σ H r _ fun v F1 H1 s1 r1 o1 => by
    have o' : Dq B.K F1 v (.list xs) := o1
    cases o' with
    | @lst p us _ q1 q2 =>
      refine ⟨p, rfl, ⟨us, .inl (.inl (r1.sub _ _ q1))⟩, fun Dl hD => lc_list (xs := us) (CW B ε vs F1 σ I Dl) (cw_start r1 hD h0) (fun i H' _ c => ?_) (fun i x H' hi c => ?_) fun H' c => cw_end s1 r1 hD (by rw [dpa_len q2] at c; exact c) hd q⟩
      · obtain ⟨acc, L', F', s, hI, r'⟩ := c
        exact .inl (.inl (r'.sub _ _ (s _ _ q1)))
      · have hlt : i < xs.length := by rw [← dpa_len q2]; exact (List.getElem?_eq_some_iff.mp hi).1
        obtain ⟨w, e1, e2⟩ := dpa_get q2 (List.getElem?_eq_getElem hlt)
        have ex : x = w := Option.some.inj (hi.symm.trans e1)
        subst ex
        exact cturn_go hw (hs i _ (List.getElem?_eq_getElem hlt)) c fun F' _ _ s _ => dp_sub s e2
theorem en_lcT {xs ds : List PyData} (h : EX B tl ε L (.d (.tuple xs)) La) (I : Nat → List PyData → Own → Prop) (h0 : I 0 [] La)
    (hw : ∀ (v : V) (σ : St) (H : Hp) (P : St → Hp → Prop), (g v (wipe σ vs) H P ↔ g v (wipe σ vs) H fun σ2 H2 => wipe σ2 vs = wipe σ vs ∧ P σ2 H2))
    (hs : ∀ (i : Nat) d, xs[i]? = some d → CTurn B g tt te ε vs I i d) (hd : ∀ acc L', I xs.length acc L' → acc = ds ∧ L' = Lb) : EN B (tLc (iTup B.K tl) g tt te vs) ε L ds Lb := fun F σ H r Q q =>
  h F σ H r _ fun v F1 H1 s1 r1 o1 => by
    have o' : Dq B.K F1 v (.tuple xs) := o1
    cases o' with
    | @tup p us _ q1 q2 =>
      refine ⟨p, rfl, ⟨us, tq_sub r1.sub q1⟩, fun Dl hD => lc_tup (xs := us) (CW B ε vs F1 σ I Dl) (cw_start r1 hD h0) (fun i H' _ c => ?_) (fun i x H' hi c => ?_) fun H' c => cw_end s1 r1 hD (by rw [dpa_len q2] at c; exact c) hd q⟩
      · obtain ⟨acc, L', F', s, hI, r'⟩ := c
        exact tq_sub r'.sub (s _ _ q1)
      · have hlt : i < xs.length := by rw [← dpa_len q2]; exact (List.getElem?_eq_some_iff.mp hi).1
        obtain ⟨w, e1, e2⟩ := dpa_get q2 (List.getElem?_eq_getElem hlt)
        have ex : x = w := Option.some.inj (hi.symm.trans e1)
        subst ex
        exact cturn_go hw (hs i _ (List.getElem?_eq_getElem hlt)) c fun F' _ _ s _ => dp_sub s e2
/-- the plain kind: what is owned stays, the items are filtered and mapped -/
theorem cturn_pure {i : Nat} {d : PyData} {L0 : Own} {xs : List PyData} {f : PyData → PyData} {t : PyData → Bool} {ε2 : Eps} (hx : xs[i]? = some d) (hz : xs.length ≤ 90000) (hg : GT B g (.d d) (wipeE ε vs) ε2)
    (ht : ∀ m, ETt B tt ε2 (L0 ++ [m]) (t d) (L0 ++ [m])) (he : t d = true → ∀ m, EX B te ε2 (L0 ++ [m]) (.d (f d)) (L0 ++ [m])) :
    CTurn B g tt te ε vs (fun i acc L => acc = ((xs.take i).filter t).map f ∧ L = L0) i d := fun acc L' ⟨ha, hL⟩ => by
  subst ha hL
  have hi : i < xs.length := (List.getElem?_eq_some_iff.mp hx).1
  have e1 : xs.take (i + 1) = xs.take i ++ [d] := by rw [List.take_add_one, hx]; rfl
  refine ⟨?_, ε2, hg, t d, L', ht, fun hb => ⟨f d, L', he hb, ?_, rfl⟩, fun hb => ⟨?_, rfl⟩⟩
  · rw [List.length_map]
    exact Nat.lt_of_le_of_lt (List.length_filter_le _ _) (by rw [List.length_take]; omega)
  · rw [e1, List.filter_append, List.map_append, List.filter_cons, if_pos hb]; rfl
  · rw [e1, List.filter_append, List.map_append, List.filter_cons, if_neg (by rw [hb]; exact Bool.false_ne_true)]
    show _ = _ ++ []
    rw [List.append_nil]
theorem et_yes : ETt B tYes ε L true L := fun F σ H r Q q => q F H (Sub.rfl' F) r
end

/-! ### what defs promise -/
def NxM (M : List Addr) (F H F' H' : Hp) : Prop := Sub F F' ∧ (∀ a o, a ∉ M → H a = some o → H' a = some o) ∧ Sub F' H' ∧ ∀ a, F a = none → H a ≠ none → F' a = none ∨ ∃ xs, H a = some (.tup xs)
/-- a def of data: R says what comes of what -/
def spR (K : PySem.W.Frag) (R : List PyData → PyData → Prop) : Sp := fun vs H Q _ => ∃ F ds d, Sub F H ∧ DqAll K F vs ds ∧ R ds d ∧ ∀ v F' H', NxM [] F H F' H' → Dq K F' v d → Q v H'
def BOk (cells : List Int) (cur mix : Int) : Prop := 0 ≤ mix ∧ mix < 2147483647 ∧ 0 ≤ cur ∧ ∀ c ∈ cells, 0 ≤ c
structure Bag where
  cells : List Int
  cur : Int
  mix : Int
  ok : BOk cells cur mix
def Bag.at (b : Bag) (pb pc : Addr) : MO := .bag pb pc b.cells b.cur b.mix
/-- a def whose first argument is the bag -/
def spB (K : PySem.W.Frag) (R : Bag → List PyData → PyData → Bag → Prop) : Sp := fun vs H Q _ => ∃ F pb pc b vs' ds d b', vs = .ref pb :: vs' ∧ Sub F H ∧ F pb = none ∧ F pc = none ∧ pb ≠ pc ∧ BagAt H pb pc b.cells b.cur b.mix ∧ DqAll K F vs' ds ∧ R b ds d b' ∧
  ∀ v F' H', NxM [pb, pc] F H F' H' → BagAt H' pb pc b'.cells b'.cur b'.mix → Dq K F' v d → Q v H'
section
variable {B : Bg} {ε ε' : Eps} {L L' La Lb Lc Ld : Own} {te ta tb tl : TE} {tt tu : TT} {tas tr : TA} {a b x : AD} {D : Ends} {ts tc tw : TS} {g : TG} {F : Hp} {σ : St} {H : Hp}
/-- behind a call that changes what M tells of -/
theorem Rep.call (r : Rep B ε L F σ H) {F' H' : Hp} (n : NxM [] F H F' H') : Rep B ε L F' σ H' := by
  obtain ⟨n1, n2, n3, n4⟩ := n
  have k : Sub H H' := fun a o e => n2 a o (by simp) e
  refine ⟨n3, fun m hm => ((r.own m hm).subF n1).same fun p _ o e => k p o e, fun p hp => ⟨?_, (r.off p hp).2⟩, r.nd, fun i x e => ?_, r.len, r.f0.tr n1, fun a o h e => k a o (r.h0 a o h e), fun a h1 h2 => ?_, r.mm⟩
  · obtain ⟨o, ho⟩ := r.there hp
    exact (n4 p (r.off p hp).1 (by rw [ho]; exact fun z => nomatch z)).resolve_right fun ⟨xs, e⟩ => r.noT hp e
  · obtain ⟨s, q1, q2⟩ := r.sl i x e
    exact ⟨s, q1, q2.sub n1⟩
  · refine (r.nc a h1 h2).elim (fun hn => ?_) .inr
    by_cases hm : a ∈ B.M
    · obtain ⟨o, ho⟩ := r.there (r.mm a hm)
      exact .inl ((n4 a hn (by rw [ho]; exact fun z => nomatch z)).resolve_right fun ⟨xs, e⟩ => r.noT (r.mm a hm) e)
    · cases e : B.H0 a with
      | none => exact absurd e h2
      | some o =>
        refine (n4 a hn (by rw [r.h0 a o hm e]; exact fun z => nomatch z)).elim .inl fun ⟨xs, q⟩ => .inr ⟨xs, ?_⟩
        rw [r.h0 a o hm e] at q
        exact q
theorem Rep.callB (r : Rep B ε L F σ H) {k : Nat} {pb pc : Addr} {c : List Int} {u m : Int} {b' : Bag} (hk : L[k]? = some (.bag pb pc c u m)) {F' H' : Hp} (n : NxM [pb, pc] F H F' H') (hb : BagAt H' pb pc b'.cells b'.cur b'.mix) : Rep B ε (L.set k (b'.at pb pc)) F' σ H' := by
  obtain ⟨n1, n2, n3, n4⟩ := n
  -- first the frozen part grows over the old heap, then the bag changes
  have hL := List.mem_of_getElem? hk
  have ef := fps_set (m' := b'.at pb pc) hk rfl
  have hmem : ∀ p ∈ ([pb, pc] : List Addr), p ∈ fps L := fun p hp => mem_fps hL hp
  refine ⟨n3, fun x hx => ?_, fun p hp => ?_, by rw [ef]; exact r.nd, fun i x e => ?_, r.len, r.f0.tr n1, fun a o h e => ?_, fun a h1 h2 => ?_, by rw [ef]; exact r.mm⟩
  · obtain ⟨j, hj⟩ := List.mem_iff_getElem?.mp hx
    rw [List.getElem?_set] at hj
    split at hj
    · split at hj
      · cases hj; exact hb
      · cases hj
    · rename_i ne
      exact ((r.own x (List.mem_of_getElem? hj)).subF n1).same fun p hp o e => n2 p o (fun h => fps_apart r.nd hk hj ne p h hp) e
  · rw [ef] at hp
    obtain ⟨o, ho⟩ := r.there hp
    exact ⟨(n4 p (r.off p hp).1 (by rw [ho]; exact fun z => nomatch z)).resolve_right fun ⟨xs, e⟩ => r.noT hp e, (r.off p hp).2⟩
  · obtain ⟨s, q1, q2⟩ := r.sl i x e
    exact ⟨s, q1, q2.sub n1⟩
  · refine n2 a o (fun hm => ?_) (r.h0 a o h e)
    rcases (r.off a (hmem a hm)).2 with q | q
    · exact h q
    · rw [q] at e; cases e
  · refine (r.nc a h1 h2).elim (fun hn => ?_) .inr
    by_cases hm : a ∈ B.M
    · obtain ⟨o, ho⟩ := r.there (r.mm a hm)
      exact .inl ((n4 a hn (by rw [ho]; exact fun z => nomatch z)).resolve_right fun ⟨xs, e⟩ => r.noT (r.mm a hm) e)
    · cases e : B.H0 a with
      | none => exact absurd e h2
      | some o =>
        refine (n4 a hn (by rw [r.h0 a o hm e]; exact fun z => nomatch z)).elim .inl fun ⟨xs, q⟩ => .inr ⟨xs, ?_⟩
        rw [r.h0 a o hm e] at q
        exact q
theorem ex_call {R : List PyData → PyData → Prop} {E : XK} {ds : List PyData} {d : PyData} (h : EA B tas ε L (ds.map AD.d) La) (hR : R ds d) : EX B (tCall (spR B.K R) [] E tas) ε L (.d d) La := fun F σ H r Q q =>
  h F σ H r _ fun vs F1 H1 s1 r1 o1 => by
    rw [List.append_nil]
    exact ⟨F1, ds, d, r1.sub, ad_data o1, hR, fun v F' H' n o => q v F' H' (s1.tr n.1) (r1.call n) o⟩
theorem ex_callB {R : Bag → List PyData → PyData → Bag → Prop} {E : XK} {k : Nat} {pb pc : Addr} {b : Bag} {ds : List PyData} {d : PyData} {b' : Bag} (h : EA B tas ε L (.v (.ref pb) :: ds.map AD.d) La) (hk : La[k]? = some (b.at pb pc)) (hR : R b ds d b') :
    EX B (tCall (spB B.K R) [] E tas) ε L (.d d) (La.set k (b'.at pb pc)) := fun F σ H r Q q =>
  h F σ H r _ fun vs F1 H1 s1 r1 o1 => by
    match vs, o1 with
    | v :: vs', o =>
      have ev : v = .ref pb := o.1
      subst ev
      rw [List.append_nil]
      have hm := List.mem_of_getElem? hk
      have nd : pb ≠ pc := fun e => by
        have x : ([pb, pc] : List Addr).Nodup := by
          have sl : ([pb, pc] : List Addr).Sublist (fps La) := by
            obtain ⟨l1, l2, e2⟩ := List.append_of_mem hm
            rw [e2]
            unfold fps
            rw [List.flatMap_append, List.flatMap_cons]
            exact (List.sublist_append_left _ _).trans (List.sublist_append_right _ _)
          exact r1.nd.sublist sl
        subst e
        simp at x
      exact ⟨F1, pb, pc, b, vs', ds, d, b', rfl, r1.sub, (r1.off pb (mem_fps hm List.mem_cons_self)).1, (r1.off pc (mem_fps hm (List.mem_cons_of_mem _ List.mem_cons_self))).1, nd, r1.own _ hm, ad_data o.2, hR,
        fun v F' H' n hb o => q v F' H' (s1.tr n.1) (r1.callB hk n hb) o⟩
/-- with keywords alone: perm puts them in the parameters' order -/
theorem ex_callK {R : List PyData → PyData → Prop} {E : XK} {gV : List V → List V → List V} {tk : TA} {as bs : List AD} {ds : List PyData} {d : PyData} (h : EA B tas ε L as La) (hk : EA B tk ε La bs Lb)
    (hp : ∀ K F vs zs, AdAll K F as vs → AdAll K F bs zs → DqAll K F (gV vs zs) ds) (hR : R ds d) : EX B (tCallK (spR B.K R) gV E tas tk) ε L (.d d) Lb := fun F σ H r Q q =>
  h F σ H r _ fun vs F1 H1 s1 r1 o1 => hk F1 σ H1 r1 _ fun zs F2 H2 s2 r2 o2 =>
    ⟨F2, ds, d, r2.sub, hp _ _ _ _ (o1.sub s2) o2, hR, fun v F' H' n o => q v F' H' ((s1.tr s2).tr n.1) (r2.call n) o⟩

/-! ### a def's entry and end -/
def argE (ds : List PyData) (n : Nat) : Eps := ds.map (fun d => some (.d d)) ++ List.replicate (n - ds.length) none
theorem rep_start {K : PySem.W.Frag} {N : List Str} {F H : Hp} {vs : List V} {ds : List PyData} (s : Sub F H) (h : DqAll K F vs ds) (hn : ds.length ≤ N.length) : Rep ⟨K, F, H, []⟩ (argE ds N.length) [] F (_root_.L2.start N vs) H := by
  have hl := dpa_len h
  refine ⟨s, fun m hm => (nomatch hm), fun p hp => (nomatch hp), List.nodup_nil, fun i x e => ?_, ?_, Sub.rfl' F, fun _ _ _ e => e, fun _ e _ => .inl e, fun p hp => (nomatch hp)⟩
  · unfold argE at e
    unfold _root_.L2.start
    by_cases hi : i < ds.length
    · rw [List.getElem?_append_left (by rw [List.length_map]; exact hi), List.getElem?_map] at e
      cases e1 : ds[i]? with
      | none => rw [e1] at e; cases e
      | some d =>
        rw [e1] at e
        cases e
        obtain ⟨v, g1, g2⟩ := dpa_get h e1
        refine ⟨some v, ?_, v, rfl, g2⟩
        rw [List.getElem?_append_left (by rw [List.length_map, hl]; exact hi), List.getElem?_map, g1]; rfl
    · rw [List.getElem?_append_right (by rw [List.length_map]; omega), List.length_map, List.getElem?_replicate] at e
      split at e
      · cases e
        rename_i hlt
        refine ⟨none, ?_, trivial⟩
        rw [List.getElem?_append_right (by rw [List.length_map, hl]; omega), List.length_map, hl, List.getElem?_replicate, if_pos hlt]
      · cases e
  · unfold _root_.L2.start argE
    rw [List.length_append, List.length_append, List.length_map, List.length_map, List.length_replicate, List.length_replicate, hl]
theorem rep_startB {K : PySem.W.Frag} {N : List Str} {F H : Hp} {pb pc : Addr} {b : Bag} {vs : List V} {ds : List PyData} (s : Sub F H) (f1 : F pb = none) (f2 : F pc = none) (ne : pb ≠ pc) (hb : BagAt H pb pc b.cells b.cur b.mix) (h : DqAll K F vs ds) (hn : ds.length + 1 ≤ N.length) :
    Rep ⟨K, F, H, [pb, pc]⟩ (some (.v (.ref pb)) :: argE ds (N.length - 1)) [b.at pb pc] F (_root_.L2.start N (.ref pb :: vs)) H := by
  have hl := dpa_len h
  refine ⟨s, fun m hm => ?_, fun p hp => ?_, ?_, fun i x e => ?_, ?_, Sub.rfl' F, fun _ _ _ e => e, fun _ e _ => .inl e, fun p hp => hp⟩
  · rw [List.mem_singleton.mp hm]; exact hb
  · have hp' : p ∈ ([pb, pc] : List Addr) := hp
    refine ⟨?_, .inl hp'⟩
    rcases List.mem_cons.mp hp' with e | e
    · rw [e]; exact f1
    · rw [List.mem_singleton.mp e]; exact f2
  · show ([pb, pc] : List Addr).Nodup
    simp [ne]
  · cases i with
    | zero => cases e; exact ⟨_, rfl, _, rfl, rfl⟩
    | succ i =>
      have e : (argE ds (N.length - 1))[i]? = some x := e
      show ∃ s, (_root_.L2.start N (.ref pb :: vs))[i + 1]? = some s ∧ _
      have es : (_root_.L2.start N (.ref pb :: vs))[i + 1]? = (vs.map some ++ List.replicate (N.length - 1 - vs.length) none)[i]? := by
        unfold _root_.L2.start
        rw [List.map_cons, List.cons_append, List.getElem?_cons_succ, List.length_cons]
        have : N.length - (vs.length + 1) = N.length - 1 - vs.length := by omega
        rw [this]
      rw [es]
      unfold argE at e
      by_cases hi : i < ds.length
      · rw [List.getElem?_append_left (by rw [List.length_map]; exact hi), List.getElem?_map] at e
        cases e1 : ds[i]? with
        | none => rw [e1] at e; cases e
        | some d =>
          rw [e1] at e
          cases e
          obtain ⟨v, g1, g2⟩ := dpa_get h e1
          refine ⟨some v, ?_, v, rfl, g2⟩
          rw [List.getElem?_append_left (by rw [List.length_map, hl]; exact hi), List.getElem?_map, g1]; rfl
      · rw [List.getElem?_append_right (by rw [List.length_map]; omega), List.length_map, List.getElem?_replicate] at e
        split at e
        · cases e
          rename_i hlt
          refine ⟨none, ?_, trivial⟩
          rw [List.getElem?_append_right (by rw [List.length_map, hl]; omega), List.length_map, hl, List.getElem?_replicate, if_pos hlt]
        · cases e
  · unfold _root_.L2.start argE
    simp only [List.length_append, List.length_map, List.length_replicate, List.length_cons, hl]
    omega
theorem Rep.nx (r : Rep B ε L F σ H) : NxM B.M B.F0 B.H0 F H := ⟨r.f0, r.h0, r.sub, r.nc⟩
theorem Rep.bag {pb pc : Addr} {c : List Int} {u m : Int} (r : Rep B ε L F σ H) (h : MO.bag pb pc c u m ∈ L) : BagAt H pb pc c u m := r.own _ h
end

section
variable {P : Program} {w : World} {K : PySem.W.Frag} {mg : Str → Option Value} {base : Heap}
/-- THE RULE for a def of data -/
theorem fn_data {x qual : Str} {st : Stmt} {f : Addr} {fd : FuncData} {N ps : List Str} {k : Nat} {R : List PyData → PyData → Prop} (Fn : Fun K x qual st f fd) (S : FnScope N ps (defScope st)) (hps : ps.length ≤ N.length) (len : ∀ ds d, R ds d → ds.length = ps.length)
    (hbody : ∀ (cdv : Value) (A : Around) (outer : List Env) (s : Shared) (H : Hp) (E : XK), Room k (A.deeper (PyProof.Rows.envOfC qual (defScope st) s.heap.objs.size f cdv)) →
      ∃ t, PSs (cxOf CX0 P w K mg base N qual (defScope st) f cdv A outer s H E).nox (defBody st) t ∧
        ∀ (B : Bg) (Q : VK) ds d, B.K = K → B.M = [] → R ds d → (∀ v F' H', NxM [] B.F0 B.H0 F' H' → Dq K F' v d → Q v H') → Ho B (t { nx := fun _ H' => Q .non H', rt := Q }) (argE ds N.length) []) :
    FnOk P w K mg base CX0 (k + 1) f fd ps (spR K R) := by
  refine Fn.ok S (fun vs H Q E h => ?_) fun cdv A outer s H vs Q E hr h => ?_
  · obtain ⟨F, ds, d, _, hd, hR, _⟩ := h
    rw [dpa_len hd]; exact len ds d hR
  · obtain ⟨t, ht, hb⟩ := hbody cdv A outer s H E hr
    obtain ⟨F, ds, d, hs, hd, hR, q⟩ := h
    refine ⟨t, ht, hb ⟨K, F, H, []⟩ Q ds d rfl rfl hR q F _ H (rep_start hs hd ?_)⟩
    rw [len ds d hR]; exact hps
/-- THE RULE for a def with the bag -/
theorem fn_bag {x qual : Str} {st : Stmt} {f : Addr} {fd : FuncData} {N ps : List Str} {k : Nat} {R : Bag → List PyData → PyData → Bag → Prop} (Fn : Fun K x qual st f fd) (S : FnScope N ps (defScope st)) (hps : ps.length ≤ N.length) (len : ∀ b ds d b', R b ds d b' → ds.length + 1 = ps.length)
    (hbody : ∀ (cdv : Value) (A : Around) (outer : List Env) (s : Shared) (H : Hp) (E : XK), Room k (A.deeper (PyProof.Rows.envOfC qual (defScope st) s.heap.objs.size f cdv)) →
      ∃ t, PSs (cxOf CX0 P w K mg base N qual (defScope st) f cdv A outer s H E).nox (defBody st) t ∧
        ∀ (B : Bg) (Q : VK) pb pc b ds d b', B.K = K → B.M = [pb, pc] → R b ds d b' → (∀ v F' H', NxM [pb, pc] B.F0 B.H0 F' H' → BagAt H' pb pc b'.cells b'.cur b'.mix → Dq K F' v d → Q v H') →
          Ho B (t { nx := fun _ H' => Q .non H', rt := Q }) (some (.v (.ref pb)) :: argE ds (N.length - 1)) [b.at pb pc]) :
    FnOk P w K mg base CX0 (k + 1) f fd ps (spB K R) := by
  refine Fn.ok S (fun vs H Q E h => ?_) fun cdv A outer s H vs Q E hr h => ?_
  · obtain ⟨F, pb, pc, b, vs', ds, d, b', rfl, _, _, _, _, _, hd, hR, _⟩ := h
    rw [List.length_cons, dpa_len hd]; exact len b ds d b' hR
  · obtain ⟨t, ht, hb⟩ := hbody cdv A outer s H E hr
    obtain ⟨F, pb, pc, b, vs', ds, d, b', rfl, hs, f1, f2, ne, bg, hd, hR, q⟩ := h
    refine ⟨t, ht, hb ⟨K, F, H, [pb, pc]⟩ Q pb pc b ds d b' rfl rfl hR q F _ H (rep_startB hs f1 f2 ne bg hd ?_)⟩
    rw [len b ds d b' hR]; exact hps
end
end Fz

/-! ## Fz4 -/
set_option Elab.async false
set_option linter.all false
set_option maxRecDepth 100000
set_option maxHeartbeats 2000000
set_option autoImplicit false
/-! Fz4: methods of lists, built-ins, the bag. -/
namespace Fz
open PySem L2

section
variable {B : Bg} {ε ε' : Eps} {L L' La Lb Lc Ld : Own} {te ta tb tl to ti : TE} {tt tu : TT} {tas tr : TA} {a b x : AD} {D : Ends} {ts tc tw : TS} {g : TG}
/-! ### built-ins by values -/
theorem ex_abs {i : Int} (h : EX B te ε L (.d (.int i)) La) : EX B (tCB (fun xs H Q => ∃ i, xs = [.int i] ∧ Q (.int (if i < 0 then -i else i)) H) (tCons te tNil)) ε L (.d (.int (if i < 0 then -i else i))) La := fun F σ H r Q q =>
  h F σ H r _ fun v F1 H1 s1 r1 o1 => ⟨i, by rw [int_inv o1], q _ F1 H1 s1 r1 (.int _)⟩
theorem ex_int1 {i : Int} (h : EX B te ε L (.d (.int i)) La) : EX B (tCB (fun xs H Q => (∃ i, xs = [.int i] ∧ Q (.int i) H) ∨ ∃ k, xs = [.bl k] ∧ Q (.int (if k then 1 else 0)) H) (tCons te tNil)) ε L (.d (.int i)) La := fun F σ H r Q q =>
  h F σ H r _ fun v F1 H1 s1 r1 o1 => .inl ⟨i, by rw [int_inv o1], q _ F1 H1 s1 r1 (.int _)⟩
theorem ex_max2 {i j : Int} (h : EX B ta ε L (.d (.int i)) La) (h2 : EX B tb ε La (.d (.int j)) Lb) : EX B (tCB (fun xs H Q => ∃ i j, xs = [.int i, .int j] ∧ Q (.int (if j > i then j else i)) H) (tCons ta (tCons tb tNil))) ε L (.d (.int (if j > i then j else i))) Lb := fun F σ H r Q q =>
  h F σ H r _ fun v F1 H1 s1 r1 o1 => h2 F1 σ H1 r1 _ fun w F2 H2 s2 r2 o2 => ⟨i, j, by rw [int_inv o1, int_inv o2], q _ F2 H2 (s1.tr s2) r2 (.int _)⟩
theorem ex_min2 {i j : Int} (h : EX B ta ε L (.d (.int i)) La) (h2 : EX B tb ε La (.d (.int j)) Lb) : EX B (tCB (fun xs H Q => ∃ i j, xs = [.int i, .int j] ∧ Q (.int (if j < i then j else i)) H) (tCons ta (tCons tb tNil))) ε L (.d (.int (if j < i then j else i))) Lb := fun F σ H r Q q =>
  h F σ H r _ fun v F1 H1 s1 r1 o1 => h2 F1 σ H1 r1 _ fun w F2 H2 s2 r2 o2 => ⟨i, j, by rw [int_inv o1, int_inv o2], q _ F2 H2 (s1.tr s2) r2 (.int _)⟩
/-- list(x) of a list, of a tuple -/
def rListOf (K : PySem.W.Frag) : List V → Hp → VK → Prop := fun xs H Q => ∃ p ys, xs = [.ref p] ∧ (SqL K H p ys ∨ SqT K H p ys) ∧ ∀ l, H l = none → Q (.ref l) (upd H l (.lst ys))
theorem en_list {ds : List PyData} (h : EX B te ε L x La) (hx : IsL La x ds) : EN B (tCB (rListOf B.K) (tCons te tNil)) ε L ds La := fun F σ H r Q q =>
  h F σ H r _ fun v F1 H1 s1 r1 o1 => by
    obtain ⟨p, vs, rfl, g1, g2⟩ := hx.get r1 o1
    exact ⟨p, vs, rfl, .inl g1, fun l hl => q l F1 _ s1 (r1.newM hl) (r1.alloc hl rfl ⟨vs, upd_same, g2⟩)⟩
theorem en_listT {ds : List PyData} (h : EX B te ε L (.d (.tuple ds)) La) : EN B (tCB (rListOf B.K) (tCons te tNil)) ε L ds La := fun F σ H r Q q =>
  h F σ H r _ fun v F1 H1 s1 r1 o1 => by
    obtain ⟨p, vs, rfl, g1, g2⟩ := tup_inv o1
    exact ⟨p, vs, rfl, .inr (tq_sub r1.sub g1), fun l hl => q l F1 _ s1 (r1.newM hl) (r1.alloc hl rfl ⟨vs, upd_same, g2⟩)⟩
/-- tuple(x) -/
theorem ex_tupL {ds : List PyData} (h : EX B te ε L x La) (hx : IsL La x ds) : EX B (tThen te (kTup B.K)) ε L (.d (.tuple ds)) La := fun F σ H r Q q =>
  h F σ H r _ fun v F1 H1 s1 r1 o1 => by
    obtain ⟨p, vs, rfl, g1, g2⟩ := hx.get r1 o1
    refine .inl ⟨p, vs, rfl, g1, fun l hl => ?_⟩
    have hF := sub_none r1.sub hl
    exact q _ _ _ (s1.tr (sub_fresh hF)) (r1.grow hl) (.tup upd_same (dpa_sub (sub_fresh hF) g2))
theorem ex_tupT {ds : List PyData} (h : EX B te ε L (.d (.tuple ds)) La) : EX B (tThen te (kTup B.K)) ε L (.d (.tuple ds)) La := fun F σ H r Q q =>
  h F σ H r _ fun v F1 H1 s1 r1 o1 => by
    obtain ⟨p, vs, rfl, g1, g2⟩ := tup_inv o1
    exact .inr ⟨p, vs, rfl, tq_sub r1.sub g1, q _ F1 H1 s1 r1 o1⟩
def rgD (a b : Int) : List PyData := (List.range (b - a).toNat).map fun i => PyData.int (a + (i : Nat))
theorem rg_dp {K : PySem.W.Frag} {F : Hp} (a b : Int) : DqAll K F (rgV a b) (rgD a b) := by
  unfold rgV rgD
  generalize List.range (b - a).toNat = l
  induction l with
  | nil => exact .nil
  | cons x l ih => exact .cons (.int _) ih
theorem en_listRg1 {n : Int} (h : EX B ta ε L (.d (.int n)) La) (hn : 0 ≤ n ∧ n ≤ 100000) : EN B (tLstRg (tRg1 ta)) ε L (rgD 0 n) La := fun F σ H r Q q =>
  h F σ H r _ fun v F1 H1 s1 r1 o1 => ⟨n, int_inv o1, RgOk.of_le (by omega) (by omega) (by omega) (by omega), fun l hl => q l F1 _ s1 (r1.newM hl) (r1.alloc hl rfl ⟨_, upd_same, rg_dp 0 n⟩)⟩
theorem en_listRg2 {m n : Int} (h : EX B ta ε L (.d (.int m)) La) (h2 : EX B tb ε La (.d (.int n)) Lb) (hn : (0 ≤ m ∧ m ≤ 100000) ∧ 0 ≤ n ∧ n ≤ 100000) : EN B (tLstRg (tRg2 ta tb)) ε L (rgD m n) Lb := fun F σ H r Q q =>
  h F σ H r _ fun v F1 H1 s1 r1 o1 => h2 F1 σ H1 r1 _ fun w F2 H2 s2 r2 o2 => ⟨m, n, int_inv o1, int_inv o2, RgOk.of_le (by omega) (by omega) (by omega) (by omega), fun l hl => q l F2 _ (s1.tr s2) (r2.newM hl) (r2.alloc hl rfl ⟨_, upd_same, rg_dp m n⟩)⟩
theorem ex_sum {ns : List Int} (h : EX B te ε L x La) (hx : IsL La x (ns.map PyData.int)) : EX B (tCB (rSum B.K) (tCons te tNil)) ε L (.d (.int ns.sum)) La := fun F σ H r Q q =>
  h F σ H r _ fun v F1 H1 s1 r1 o1 => by
    obtain ⟨p, vs, rfl, g1, g2⟩ := hx.get r1 o1
    rw [dpa_int_inv g2] at g1
    exact ⟨p, ns, rfl, g1, q _ F1 H1 s1 r1 (.int _)⟩
theorem ex_allB {bs : List Bool} (h : EX B te ε L x La) (hx : IsL La x (bs.map PyData.bool)) : EX B (tCB (rAll B.K) (tCons te tNil)) ε L (.d (.bool (bs.all id))) La := fun F σ H r Q q =>
  h F σ H r _ fun v F1 H1 s1 r1 o1 => by
    obtain ⟨p, vs, rfl, g1, g2⟩ := hx.get r1 o1
    rw [dpa_bool_inv g2] at g1
    exact ⟨p, bs, rfl, g1, q _ F1 H1 s1 r1 (.bl _)⟩
theorem ex_anyB {bs : List Bool} (h : EX B te ε L x La) (hx : IsL La x (bs.map PyData.bool)) : EX B (tCB (rAny B.K) (tCons te tNil)) ε L (.d (.bool (bs.any id))) La := fun F σ H r Q q =>
  h F σ H r _ fun v F1 H1 s1 r1 o1 => by
    obtain ⟨p, vs, rfl, g1, g2⟩ := hx.get r1 o1
    rw [dpa_bool_inv g2] at g1
    exact ⟨p, bs, rfl, g1, q _ F1 H1 s1 r1 (.bl _)⟩
/-! ### lists that change -/
theorem lst_ne {p a : Addr} {o : HO} {H : Hp} {o' : HO} (hq : a ∉ [p]) (e : H a = some o) : upd H p o' a = some o := by
  rw [upd_ne (fun z => hq (by rw [z]; exact List.mem_cons_self))]; exact e
theorem Rep.setL {F : Hp} {σ : St} {H : Hp} (r : Rep B ε L F σ H) {k : Nat} {p : Addr} {ds ds' : List PyData} {vs : List V} (hk : L[k]? = some (.lst p ds)) (h : DqAll B.K F vs ds') : Rep B ε (L.set k (.lst p ds')) F σ (upd H p (.lst vs)) :=
  r.chg (m' := .lst p ds') hk rfl ⟨vs, upd_same, h⟩ fun a o hq e => lst_ne hq e
theorem tyv {K : PySem.W.Frag} {H : Hp} {p : Addr} {vs : List V} (h : H p = some (.lst vs)) : tyV K "list" (.ref p) H := Or.inl ⟨rfl, _, Or.inl (Or.inl h)⟩
/-- xs.append(e) as a statement -/
theorem x_app {k : Nat} {p : Addr} {ds : List PyData} {d : PyData} (ho : EX B to ε L (.v (.ref p)) La) (h : EX B te ε La (.d d) Lb) (hk : Lb[k]? = some (.lst p ds)) (hka : ∃ (j : Nat) (ds' : List PyData), La[j]? = some (.lst p ds')) (hz : ds.length < 100000)
    (q : Ho B D.nx ε (Lb.set k (.lst p (ds ++ [d])))) : Ho B (tDrop (tBM B.K "list" rAppend to (tCons te tNil)) D) ε L := fun F σ H r =>
  ho F σ H r _ fun v F1 H1 s1 r1 o1 => by
    have ev : v = .ref p := o1
    subst ev
    obtain ⟨j, ds', hj⟩ := hka
    obtain ⟨us, u1, _⟩ := r1.own _ (List.mem_of_getElem? hj)
    refine ⟨tyv u1, h F1 σ H1 r1 _ fun w F2 H2 s2 r2 o2 => ?_⟩
    obtain ⟨vs, g1, g2⟩ := r2.own _ (List.mem_of_getElem? hk)
    exact ⟨p, vs, w, rfl, rfl, g1, by rw [dpa_len g2]; exact Evl.sz_lt hz, q F2 σ _ (r2.setL hk (dpa_app g2 (.cons o2 .nil)))⟩
/-- xs.insert(i, e) as a statement -/
def rInsert : V → List V → Hp → VK → Prop := fun x vs H Q => ∃ (l : Addr) (xs : List V) (i : Int) (y : V), x = .ref l ∧ vs = [.int i, y] ∧ H l = some (.lst xs) ∧ xs.length < sizeLine ∧ 0 ≤ i ∧ i < 2 ^ 63 ∧
    Q .non (upd H l (.lst (xs.take i.toNat ++ [y] ++ xs.drop i.toNat)))
theorem x_ins {k : Nat} {p : Addr} {ds : List PyData} {d : PyData} {i : Int} (ho : EX B to ε L (.v (.ref p)) La) (hi : EX B ti ε La (.d (.int i)) Lb) (h : EX B te ε Lb (.d d) Lc) (hk : Lc[k]? = some (.lst p ds)) (hka : ∃ (j : Nat) (ds' : List PyData), La[j]? = some (.lst p ds')) (hz : ds.length < 100000) (hr : 0 ≤ i ∧ i < 2 ^ 63)
    (q : Ho B D.nx ε (Lc.set k (.lst p (ds.take i.toNat ++ [d] ++ ds.drop i.toNat)))) : Ho B (tDrop (tBM B.K "list" rInsert to (tCons ti (tCons te tNil))) D) ε L := fun F σ H r =>
  ho F σ H r _ fun v F1 H1 s1 r1 o1 => by
    have ev : v = .ref p := o1
    subst ev
    obtain ⟨j, ds', hj⟩ := hka
    obtain ⟨us, u1, _⟩ := r1.own _ (List.mem_of_getElem? hj)
    refine ⟨tyv u1, hi F1 σ H1 r1 _ fun w F2 H2 s2 r2 o2 => h F2 σ H2 r2 _ fun y F3 H3 s3 r3 o3 => ?_⟩
    have ew : w = .int i := int_inv o2
    subst ew
    obtain ⟨vs, g1, g2⟩ := r3.own _ (List.mem_of_getElem? hk)
    exact ⟨p, vs, i, y, rfl, rfl, g1, by rw [dpa_len g2]; exact Evl.sz_lt hz, hr.1, hr.2, q F3 σ _ (r3.setL hk (dpa_app (dpa_app (dpa_take _ g2) (.cons o3 .nil)) (dpa_drop _ g2)))⟩
/-- xs.pop() -/
theorem ex_pop {k : Nat} {p : Addr} {ds : List PyData} {d : PyData} (ho : EX B to ε L (.v (.ref p)) La) (hk : La[k]? = some (.lst p ds)) (hd : ds[ds.length - 1]? = some d) : EX B (tBM0 B.K "list" rPop to) ε L (.d d) (La.set k (.lst p ds.dropLast)) := fun F σ H r Q q =>
  ho F σ H r _ fun v F1 H1 s1 r1 o1 => by
    have ev : v = .ref p := o1
    subst ev
    obtain ⟨vs, g1, g2⟩ := r1.own _ (List.mem_of_getElem? hk)
    obtain ⟨u, e1, e2⟩ := dpa_get g2 hd
    exact ⟨tyv g1, p, vs, u, rfl, rfl, g1, by rw [dpa_len g2]; exact e1, q u F1 _ s1 (r1.setL hk (dpa_last g2)) e2⟩
/-- xs.pop(i) -/
theorem ex_popAt {k j : Nat} {p : Addr} {ds : List PyData} {d : PyData} {i : Int} (ho : EX B to ε L (.v (.ref p)) La) (hi : EX B ti ε La (.d (.int i)) Lb) (hka : ∃ (j : Nat) (ds' : List PyData), La[j]? = some (.lst p ds')) (hk : Lb[k]? = some (.lst p ds)) (hr : -(2 ^ 63) ≤ i ∧ i < 2 ^ 63) (hj : seqIndex? i ds.length = some j) (hd : ds[j]? = some d) :
    EX B (tBM B.K "list" rPopAt to (tCons ti tNil)) ε L (.d d) (Lb.set k (.lst p (ds.eraseIdx j))) := fun F σ H r Q q =>
  ho F σ H r _ fun v F1 H1 s1 r1 o1 => by
    have ev : v = .ref p := o1
    subst ev
    obtain ⟨j', ds', hj'⟩ := hka
    obtain ⟨us, u1, _⟩ := r1.own _ (List.mem_of_getElem? hj')
    refine ⟨tyv u1, hi F1 σ H1 r1 _ fun w F2 H2 s2 r2 o2 => ?_⟩
    have ew : w = .int i := int_inv o2
    subst ew
    obtain ⟨vs, g1, g2⟩ := r2.own _ (List.mem_of_getElem? hk)
    obtain ⟨u, e1, e2⟩ := dpa_get g2 hd
    exact ⟨p, vs, i, j, u, rfl, rfl, g1, hr.1, hr.2, by rw [dpa_len g2]; exact hj, e1, q u F2 _ (s1.tr s2) (r2.setL hk (dpa_erase j g2)) e2⟩
/-- xs[i] = e -/
theorem x_setIx {k j : Nat} {p : Addr} {ds : List PyData} {d : PyData} {i : Int} (h : EX B te ε L (.d d) La) (ho : EX B to ε La (.v (.ref p)) Lb) (hi : EX B ti ε Lb (.d (.int i)) Lc) (hk : Lc[k]? = some (.lst p ds)) (hj : ixN ds.length i = some j)
    (q : Ho B D.nx ε (Lc.set k (.lst p (ds.set j d)))) : Ho B (tAsg te (gSub to ti rSetL) D) ε L := fun F σ H r =>
  h F σ H r _ fun y F1 H1 s1 r1 o1 => ho F1 σ H1 r1 _ fun v F2 H2 s2 r2 o2 => hi F2 σ H2 r2 _ fun w F3 H3 s3 r3 o3 => by
    have ev : v = .ref p := o2
    have ew : w = .int i := int_inv o3
    subst ev ew
    obtain ⟨vs, g1, g2⟩ := r3.own _ (List.mem_of_getElem? hk)
    exact ⟨p, vs, i, j, rfl, rfl, g1, by rw [dpa_len g2]; exact hj, q F3 σ _ (r3.setL hk (dpa_set (o1.sub (s2.tr s3)) j g2))⟩
/-! ### the bag -/
section
variable {k : Nat} {pb pc : Addr} {c : List Int} {u m : Int}
theorem Rep.bagL {F : Hp} {σ : St} {H : Hp} (r : Rep B ε L F σ H) (hk : L[k]? = some (.bag pb pc c u m)) : SqL B.K H pb [.ref pc, .int u, .int m] ∧ SqL B.K H pc (c.map V.int) :=
  let h := r.own _ (List.mem_of_getElem? hk)
  ⟨.inl (.inl h.1), .inl (.inl h.2)⟩
theorem Rep.bagNe {F : Hp} {σ : St} {H : Hp} (r : Rep B ε L F σ H) (hk : L[k]? = some (.bag pb pc c u m)) : pb ≠ pc := fun e => by
  have h := r.own _ (List.mem_of_getElem? hk)
  have h1 : H pb = some (.lst [.ref pc, .int u, .int m]) := h.1
  have h2 : H pc = some (.lst (c.map V.int)) := h.2
  rw [← e, h1] at h2
  cases c with
  | nil => cases h2
  | cons a t => cases h2
theorem ex_bag0 (ho : EX B to ε L (.v (.ref pb)) La) (hi : EX B ti ε La (.d (.int 0)) Lb) (hk : Lb[k]? = some (.bag pb pc c u m)) : EX B (tOp (rIxL B.K) to ti) ε L (.v (.ref pc)) Lb := ex_op ho hi fun F σ H v w rp hv hw Q q =>
  ⟨pb, _, 0, .ref pc, hv, int_inv hw, (rp.bagL hk).1, rfl, q _ F H (Sub.rfl' F) rp rfl⟩
theorem ex_bag1 (ho : EX B to ε L (.v (.ref pb)) La) (hi : EX B ti ε La (.d (.int 1)) Lb) (hk : Lb[k]? = some (.bag pb pc c u m)) : EX B (tOp (rIxL B.K) to ti) ε L (.d (.int u)) Lb := ex_op ho hi fun F σ H v w rp hv hw Q q =>
  ⟨pb, _, 1, .int u, hv, int_inv hw, (rp.bagL hk).1, rfl, q _ F H (Sub.rfl' F) rp (.int _)⟩
theorem ex_bag2 (ho : EX B to ε L (.v (.ref pb)) La) (hi : EX B ti ε La (.d (.int 2)) Lb) (hk : Lb[k]? = some (.bag pb pc c u m)) : EX B (tOp (rIxL B.K) to ti) ε L (.d (.int m)) Lb := ex_op ho hi fun F σ H v w rp hv hw Q q =>
  ⟨pb, _, 2, .int m, hv, int_inv hw, (rp.bagL hk).1, rfl, q _ F H (Sub.rfl' F) rp (.int _)⟩
theorem Rep.bagSet {F : Hp} {σ : St} {H : Hp} (r : Rep B ε L F σ H) (hk : L[k]? = some (.bag pb pc c u m)) (u' m' : Int) : Rep B ε (L.set k (.bag pb pc c u' m')) F σ (upd H pb (.lst [.ref pc, .int u', .int m'])) :=
  r.chg (m' := .bag pb pc c u' m') hk rfl ⟨upd_same, by rw [upd_ne (r.bagNe hk).symm]; exact (r.own _ (List.mem_of_getElem? hk)).2⟩ fun a o hq e => by
    rw [upd_ne (fun z => hq (by rw [z]; exact List.mem_cons_self))]; exact e
theorem x_bag1 {z : Int} (h : EX B te ε L (.d (.int z)) La) (ho : EX B to ε La (.v (.ref pb)) Lb) (hi : EX B ti ε Lb (.d (.int 1)) Lc) (hk : Lc[k]? = some (.bag pb pc c u m))
    (q : Ho B D.nx ε (Lc.set k (.bag pb pc c z m))) : Ho B (tAsg te (gSub to ti rSetL) D) ε L := fun F σ H r =>
  h F σ H r _ fun y F1 H1 s1 r1 o1 => ho F1 σ H1 r1 _ fun v F2 H2 s2 r2 o2 => hi F2 σ H2 r2 _ fun w F3 H3 s3 r3 o3 => by
    have ev : v = .ref pb := o2
    have ey : y = .int z := int_inv o1
    subst ev ey
    exact ⟨pb, [.ref pc, .int u, .int m], 1, 1, rfl, int_inv o3, (r3.own _ (List.mem_of_getElem? hk)).1, rfl, q F3 σ _ (r3.bagSet hk z m)⟩
theorem x_bag2 {z : Int} (h : EX B te ε L (.d (.int z)) La) (ho : EX B to ε La (.v (.ref pb)) Lb) (hi : EX B ti ε Lb (.d (.int 2)) Lc) (hk : Lc[k]? = some (.bag pb pc c u m))
    (q : Ho B D.nx ε (Lc.set k (.bag pb pc c u z))) : Ho B (tAsg te (gSub to ti rSetL) D) ε L := fun F σ H r =>
  h F σ H r _ fun y F1 H1 s1 r1 o1 => ho F1 σ H1 r1 _ fun v F2 H2 s2 r2 o2 => hi F2 σ H2 r2 _ fun w F3 H3 s3 r3 o3 => by
    have ev : v = .ref pb := o2
    have ey : y = .int z := int_inv o1
    subst ev ey
    exact ⟨pb, [.ref pc, .int u, .int m], 2, 2, rfl, int_inv o3, (r3.own _ (List.mem_of_getElem? hk)).1, rfl, q F3 σ _ (r3.bagSet hk u z)⟩
theorem ex_popBag {z : Int} (ho : EX B to ε L (.v (.ref pc)) La) (hk : La[k]? = some (.bag pb pc c u m)) (hd : c[c.length - 1]? = some z) : EX B (tBM0 B.K "list" rPop to) ε L (.d (.int z)) (La.set k (.bag pb pc c.dropLast u m)) := fun F σ H r Q q =>
  ho F σ H r _ fun v F1 H1 s1 r1 o1 => by
    have ev : v = .ref pc := o1
    subst ev
    have hb := r1.own _ (List.mem_of_getElem? hk)
    have hc : H1 pc = some (.lst (c.map V.int)) := hb.2
    refine ⟨tyv hc, pc, _, .int z, rfl, rfl, hc, by rw [List.length_map, List.getElem?_map, hd]; rfl, q _ F1 _ s1 ?_ (.int _)⟩
    refine r1.chg (m' := .bag pb pc c.dropLast u m) hk rfl ⟨by rw [upd_ne (r1.bagNe hk)]; exact hb.1, by rw [upd_same, List.map_dropLast]⟩ fun a o hq e => by
      rw [upd_ne (fun z => hq (by rw [z]; exact List.mem_cons_of_mem _ List.mem_cons_self))]; exact e
theorem depth_ints : ∀ l : List Int, PyData.depthAll (l.map PyData.int) = 0
  | [] => rfl
  | a :: l => by
    show max 0 (PyData.depthAll (l.map PyData.int)) = 0
    rw [depth_ints l]; rfl
theorem lay_ints : ∀ l : List Int, PyData.canLayAll0 (l.map PyData.int) = true
  | [] => rfl
  | a :: l => by
    show (true && PyData.canLayAll0 (l.map PyData.int)) = true
    rw [lay_ints l]; rfl
theorem shaped_ints (l : List Int) : SeqAt.shaped (.list (l.map PyData.int)) = true := by
  unfold SeqAt.shaped
  show (PyData.canLayAll0 (l.map PyData.int) && decide (PyData.depthAll (l.map PyData.int) + 1 ≤ 64)) = true
  rw [lay_ints, depth_ints]; rfl
/-- bag[0] != [] -/
theorem ex_bagFull (ho : EX B to ε L (.v (.ref pc)) La) (hk : La[k]? = some (.bag pb pc c u m)) : EX B (tOp (rNeD B.K) to (tLst tNil)) ε L (.d (.bool (!c.isEmpty))) La := fun F σ H r Q q =>
  ho F σ H r _ fun v F1 H1 s1 r1 o1 => ⟨Nat.zero_le _, fun p hp => by
    have ev : v = .ref pc := o1
    subst ev
    have hb := r1.own _ (List.mem_of_getElem? hk)
    have hc : H1 pc = some (.lst (c.map V.int)) := hb.2
    have ne : pc ≠ p := fun e => by rw [e, hp] at hc; cases hc
    have ee : (!PyData.eqv (.list (c.map PyData.int)) (.list [])) = !c.isEmpty := by cases c <;> rfl
    refine ⟨.list (c.map PyData.int), .list [], dq_dp (.lst (by rw [upd_ne ne]; exact hc) (dpa_ints c)), dq_dp (.lst upd_same .nil), shaped_ints c, rfl, ?_⟩
    rw [ee]
    exact q _ F1 _ s1 (r1.heap (sub_fresh hp)) (.bl _)⟩
end
end
end Fz

/-! ## FzD -/
set_option Elab.async false
set_option linter.all false
set_option maxRecDepth 100000
set_option maxHeartbeats 2000000
set_option autoImplicit false
/-! FzD: defs ready to be called; repr of data; // of very great ints. -/
namespace Fz
open PySem L2

/-- a def of the module, ready to be called -/
structure Df (P : Program) (w : World) (K : PySem.W.Frag) (mg : Str → Option Value) (base : Heap) (k : Nat) (x : Str) (ps : List Str) (sp : Sp) : Prop where
  ex : ∃ f fd, FnOk P w K mg base CX0 k f fd ps sp ∧ mg x = some (.ref f) ∧ PySem.W.keepIn K (.ref f) = true ∧ Binds K fd ps []
/-- the same, called with keywords -/
structure DfK (P : Program) (w : World) (K : PySem.W.Frag) (mg : Str → Option Value) (base : Heap) (k : Nat) (x : Str) (ps ks : List Str) (g : List Value → List Value → List Value) (gV : List V → List V → List V) (sp : Sp) : Prop where
  ex : ∃ f fd, FnOk P w K mg base CX0 k f fd ps sp ∧ mg x = some (.ref f) ∧ PySem.W.keepIn K (.ref f) = true ∧ KBinds K fd ps ks g gV
theorem Df.mk' {P : Program} {w : World} {K : PySem.W.Frag} {mg : Str → Option Value} {base : Heap} {k : Nat} {x : Str} {ps : List Str} {sp : Sp} {f : Addr} {fd : FuncData} (F : FnOk P w K mg base CX0 k f fd ps sp) (m : mg x = some (.ref f)) (kp : PySem.W.keepIn K (.ref f) = true) (b : Binds K fd ps []) : Df P w K mg base k x ps sp := ⟨f, fd, F, m, kp, b⟩
section
variable {X : Cx} {k : Nat} {x : Str} {ps ks : List Str} {sp : Sp} {p pos : Pos} {e : Expr} {es : List Expr} {kws : List Keyword} {t tk : TA} {g : List Value → List Value → List Value} {gV : List V → List V → List V}
theorem pe_callD (C : Df X.prog X.w X.K X.mg X.base k x ps sp) (hr : Room k X.A) (hg : Gl X x) (ha : PA X (e :: es) t) (hdb : (x == ("__debug__" : Str)) = false := by decide)
    (he : starEach (e :: es) X.env = (false, eval e X.env) :: starEach es X.env := by rfl) (hpl : (backTo pos (starEach es X.env)).any (·.1) = false := by rfl) : PE X (.Call (.Name x p) (e :: es) [] pos) (tCall sp [] E0 t) := by
  obtain ⟨f, fd, F, m, kp, b⟩ := C.ex
  exact pe_call F hr hg m kp b .nil pass0 ha hdb he hpl
theorem pe_callKD (C : DfK X.prog X.w X.K X.mg X.base k x ps ks g gV sp) (hr : Room k X.A) (hg : Gl X x) (hkw : PK X kws tk) (hall : (backToKw pos (keywordEach kws X.env)).all (·.1.isSome) = true := by rfl)
    (hks : (backToKw pos (keywordEach kws X.env)).filterMap (·.1) = ks := by rfl) (hdb : (x == ("__debug__" : Str)) = false := by decide)
    (hpl : ((backTo pos (starEach [] X.env)).any (·.1) || (backToKw pos (keywordEach kws X.env)).any (·.1.isNone)) = false := by rfl) : PE X (.Call (.Name x p) [] kws pos) (tCallK sp gV E0 tNil tk) := by
  obtain ⟨f, fd, F, m, kp, b⟩ := C.ex
  refine ⟨fun pins s σ H Q I h => ?_⟩
  refine wpAny_Call_Name_kw (ld_glob I hg m ?_ hdb)
  refine PySem.W.callWith_KW0 (h₀ := X.base) I.ok.mod.kin kp hall (thn (hkw.run pos pins s σ H _ I h) fun ws s2 ⟨zs, H2, I2, rz, q2⟩ => ⟨I2.kIn, ?_⟩) hpl
  rw [hks]
  exact run_fnk F hr b pass0 I2 .nil rz q2
end
/-- keywords alone: idx tells where each parameter's value stands among them -/
def kwG {α : Type} (n : Nat) (idx : List Nat) (us ws : List α) : List α := if us.isEmpty && ws.length == n then idx.filterMap (fun i => ws[i]?) else []
theorem kwG_vals {n : Nat} {idx : List Nat} {vs : List V} {us : List Value} {zs : List V} {ws : List Value} (r : Vals vs us) (q : Vals zs ws) : Vals (kwG n idx vs zs) (kwG n idx us ws) := by
  unfold kwG
  have e1 : vs.isEmpty = us.isEmpty := by cases r <;> rfl
  rw [e1, q.length]
  split
  · clear e1
    induction idx with
    | nil => exact .nil
    | cons i idx ih =>
      rw [List.filterMap_cons, List.filterMap_cons]
      cases e : zs[i]? with
      | none => rw [q.none_of e]; exact ih
      | some z =>
        obtain ⟨u, h1, h2⟩ := q.get e
        rw [h1]
        exact .cons h2 ih
  · exact .nil
theorem kwG_shape {α : Type} {n m : Nat} {idx : List Nat} {us ws : List α} (h : (kwG n idx us ws).length = m + 1) : us = [] ∧ ws.length = n := by
  unfold kwG at h
  split at h
  · rename_i c
    rw [Bool.and_eq_true] at c
    exact ⟨List.isEmpty_iff.mp c.1, beq_iff_eq.mp c.2⟩
  · cases h
/-- two parameters, by names -/
theorem kb2 {K : PySem.W.Frag} {fd : FuncData} {ps ks : List Str} {idx : List Nat} (hp : ps.length = 2) (h : ∀ a b : Value, bindArgs fd ⟨[], ks.zip [a, b]⟩ = pure (ps.zip (kwG 2 idx [] [a, b]))) : KBinds K fd ps ks (kwG 2 idx) (kwG 2 idx) :=
  ⟨fun s us ws _ hl => by
    obtain ⟨rfl, hw⟩ := kwG_shape (m := 1) (hl.trans hp)
    match ws, hw with
    | [a, b], _ => exact .of_eq (h a b), fun r q => kwG_vals r q⟩
theorem kb3 {K : PySem.W.Frag} {fd : FuncData} {ps ks : List Str} {idx : List Nat} (hp : ps.length = 3) (h : ∀ a b c : Value, bindArgs fd ⟨[], ks.zip [a, b, c]⟩ = pure (ps.zip (kwG 3 idx [] [a, b, c]))) : KBinds K fd ps ks (kwG 3 idx) (kwG 3 idx) :=
  ⟨fun s us ws _ hl => by
    obtain ⟨rfl, hw⟩ := kwG_shape (m := 2) (hl.trans hp)
    match ws, hw with
    | [a, b, c], _ => exact .of_eq (h a b c), fun r q => kwG_vals r q⟩

/-! ### // by a positive int of any size -/
section
variable {X : Cx} {k : Nat}
theorem op_fdivP (hr : Room k X.A) (hN : X.base.NoSeer ∧ X.prog.given.tree = none) (hk : 40 ≤ k := by decide) (hst : X.stack = X.env :: X.outer := by rfl) (hgen : X.env.scope.isGenerator = false := by rfl) (hco : X.env.scope.isCoroutine = false := by rfl)
    (hb : X.env.builtins = builtinsNs := by rfl) (hg : X.env.globals = mainGlobals := by rfl) : OpR X (binaryOp .FloorDiv) (rI (fun _ j => 0 < j) fun i j => .int (i / j)) := by
  intro pins s σ H x y v u Q I rx ry h
  obtain ⟨i, j, rfl, rfl, hc, q⟩ := h
  obtain ⟨t, rfl⟩ := rx
  obtain ⟨t', rfl⟩ := ry
  have hd : X.A.depth + Builtin.pylongFrames < recursionLimit := by
    have := hr.dp
    show X.A.depth + 100 < _
    omega
  have hsr : SeerAt (model X.prog X.w) X.A s.heap := SeerAt.of (hN.1.keeps I.bk) hN.2 (by rw [I.ok.frames, hst]) hgen hco hb hg
  refine PyProof.Rows.floordiv_int (by omega) ?_ (.inr (PylongRoom.of I.nolimit hd hsr))
  rw [Int.fdiv_eq_ediv_of_nonneg i (by omega)]
  exact ⟨.int (i / j), H, I.tok _, ⟨_, rfl⟩, q⟩
end
section
variable {B : Bg} {ε : Eps} {L La Lb : Own} {ta tb : TE} {i j : Int}
theorem ex_fdivP (ha : EX B ta ε L (.d (.int i)) La) (hb : EX B tb ε La (.d (.int j)) Lb) (hc : 0 < j) : EX B (tOp (rI (fun _ j => 0 < j) fun i j => .int (i / j)) ta tb) ε L (.d (.int (i / j))) Lb := ex_op ha hb (rx_I hc fun _ _ => .int _)
end

/-! ### where nothing is under way: repr -/
structure GOk (P : Program) (w : World) (K : PySem.W.Frag) (mg : Str → Option Value) (base : Heap) (k : Nat) (f : Addr) (fd : FuncData) (ps : List Str) (sp : Sp) : Prop where
  len : ∀ vs H Q E, sp vs H Q E → vs.length = ps.length
  run : ∀ (A : Around) (outer : List Env) (s : Shared) (H : Hp) (args : Args) (us : List Value) (vs : List V) (Q : VK), Room k A → A.guards = some [] → Env0 P w K mg base A outer s H → BindsTo s fd args (ps.zip us) → Vals vs us → sp vs H Q E0 →
    codeAny (model P w) A (.call (.ref f) args) (CR CX0 outer P w H s Q E0) s
structure GDf (P : Program) (w : World) (K : PySem.W.Frag) (mg : Str → Option Value) (base : Heap) (k : Nat) (x : Str) (ps : List Str) (sp : Sp) : Prop where
  ex : ∃ f fd, GOk P w K mg base k f fd ps sp ∧ mg x = some (.ref f) ∧ PySem.W.keepIn K (.ref f) = true ∧ Binds K fd ps []
theorem GDf.mk' {P : Program} {w : World} {K : PySem.W.Frag} {mg : Str → Option Value} {base : Heap} {k : Nat} {x : Str} {ps : List Str} {sp : Sp} {f : Addr} {fd : FuncData} (F : GOk P w K mg base k f fd ps sp) (m : mg x = some (.ref f)) (kp : PySem.W.keepIn K (.ref f) = true) (b : Binds K fd ps []) : GDf P w K mg base k x ps sp := ⟨f, fd, F, m, kp, b⟩
section
variable {X : Cx} {k : Nat} {x : Str} {ps : List Str} {sp : Sp} {p pos : Pos} {e : Expr} {es : List Expr} {t : TA}
theorem pe_callG (hG : X.A.guards = some []) (C : GDf X.prog X.w X.K X.mg X.base k x ps sp) (hr : Room k X.A) (hg : Gl X x) (ha : PA X (e :: es) t) (hdb : (x == ("__debug__" : Str)) = false := by decide)
    (he : starEach (e :: es) X.env = (false, eval e X.env) :: starEach es X.env := by rfl) (hpl : (backTo pos (starEach es X.env)).any (·.1) = false := by rfl) : PE X (.Call (.Name x p) (e :: es) [] pos) (tCall sp [] E0 t) := by
  obtain ⟨f, fd, F, m, kp, b⟩ := C.ex
  refine ⟨fun pins s σ H Q I h => ?_⟩
  refine wpAny_Call_Name_kw (ld_glob I hg m ?_ hdb)
  refine PySem.W.callWith_K (h₀ := X.base) I.ok.mod.kin kp (thn (ha.run pos pins s σ H _ I h) fun us s1 ⟨vs, H1, I1, rv, q⟩ => ⟨I1.kIn, ?_⟩) he hpl
  have q : sp (vs ++ []) H1 Q E0 := q
  rw [List.append_nil] at q
  have hlen : us.length = ps.length := by rw [← rv.length]; exact F.len _ _ _ _ q
  have bt : BindsTo s1 fd ⟨us, []⟩ (ps.zip us) := by
    have z := b s1 us I1.kIn (by rw [List.append_nil]; exact hlen)
    rw [List.append_nil] at z
    exact z
  refine wpAny_call (codeAny_mono (F.run X.A X.stack s1 H1 ⟨us, []⟩ us vs Q hr hG I1.env0 bt rv q) fun res s' hres => ?_)
  match res, hres with
  | .error e, hq => exact False.elim hq
  | .ok (.ret u), hq => exact I1.after hq
  | .ok .next, hq => exact False.elim hq
  | .ok .brk, hq => exact False.elim hq
  | .ok .cont, hq => exact False.elim hq
def rReprD (K : PySem.W.Frag) : List V → Hp → VK → Prop := fun xs H Q => ∃ v d, xs = [v] ∧ L2.Dp K H v d ∧ d.showable = true ∧ d.hasDict = false ∧ d.depth ≤ 64 ∧ d.shown.length ≤ sizeLine ∧ Q (.str d.shown) H
theorem call_reprD (hr : Room k X.A) (hG : X.A.guards = some []) : CallR X (.builtin "repr") (rReprD X.K) := by
  intro pins s σ H xs us Q I r h
  obtain ⟨v, d, rfl, hd, h1, h2, h3, h4, q⟩ := h
  obtain ⟨u, rfl, ru⟩ := vals1 r
  have fin : ∀ h' (z : Tok) (tk : Nat), (∀ b o, s.heap.get? b = some o → h'.get? b = some o) → EP X pins σ Q (.str d.shown z) { s with heap := h', toks := tk } := fun h' z tk hk =>
    ⟨.str d.shown, H, I.kept hk, ⟨z, rfl⟩, q⟩
  have big : ∀ a, u = .ref a → wpAny (model X.prog X.w) X.A (call (.builtin "repr") [u]) (EP X pins σ Q) X.xe s := fun a e => by
    subst e
    obtain ⟨as, rd⟩ := L2.Dp.reads I d v _ hd ru
    exact repr_of_reads' rd h1 (PyData.noDict_hsm h2) hG (by have := hr.units; have := hr.un; omega) (fun _ _ e => e) (fun h' z tk hk => fin h' z tk hk) h4
  cases hd with
  | non => cases ru; exact PySem.P.repr_of_none (fin s.heap _ _ fun _ _ e => e)
  | bl b => cases ru; exact PySem.P.repr_of_bool (fin s.heap _ _ fun _ _ e => e)
  | int i => obtain ⟨t, rfl⟩ := ru; exact PySem.P.repr_of_int (by simpa [PyData.showable] using h1) (fin s.heap _ _ fun _ _ e => e)
  | str z => obtain ⟨t, rfl⟩ := ru; exact PySem.P.repr_of_str (fin s.heap _ _ fun _ _ e => e) h4
  | @lst a _ _ _ _ => exact big a ru
  | @tup a _ _ _ _ => exact big a ru
end
section
variable {B : Bg} {ε : Eps} {L La : Own} {te : TE}
theorem ex_repr {d : PyData} (h : EX B te ε L (.d d) La) (h1 : d.showable = true) (h2 : d.hasDict = false) (h3 : d.depth ≤ 64) (h4 : d.shown.length ≤ sizeLine) : EX B (tCB (rReprD B.K) (tCons te tNil)) ε L (.d (.str d.shown)) La := fun F σ H r Q q =>
  h F σ H r _ fun v F1 H1 s1 r1 o1 => ⟨v, d, rfl, dq_dp (dp_sub r1.sub o1), h1, h2, h3, h4, q _ F1 H1 s1 r1 (.str _)⟩
end

/-! ### the rule for a def where nothing is under way -/
section
variable {P : Program} {w : World} {K : PySem.W.Frag} {mg : Str → Option Value} {base : Heap}
theorem g_ok {x qual : Str} {st : Stmt} {f : Addr} {fd : FuncData} {N ps : List Str} {k : Nat} {sp : Sp} (Fn : Fun K x qual st f fd) (S : FnScope N ps (defScope st)) (len : ∀ vs H Q E, sp vs H Q E → vs.length = ps.length)
    (hbody : ∀ (cdv : Value) (A : Around) (outer : List Env) (s : Shared) (H : Hp) (vs : List V) (Q : VK), Room k (A.deeper (PyProof.Rows.envOfC qual (defScope st) s.heap.objs.size f cdv)) → (A.deeper (PyProof.Rows.envOfC qual (defScope st) s.heap.objs.size f cdv)).guards = some [] → sp vs H Q E0 →
      ∃ t, PSs (cxOf CX0 P w K mg base N qual (defScope st) f cdv A outer s H E0).nox (defBody st) t ∧ t { nx := fun _ H' => Q .non H', rt := Q } (_root_.L2.start N vs) H) : GOk P w K mg base (k + 1) f fd ps sp := by
  obtain ⟨oc, od, kV, doc, pm, an, cdv, ct, osl, rfl, lk, hcd⟩ := Fn.ex
  refine ⟨len, fun A outer s H args us vs Q hr hG e0 hbd rv hsp => ?_⟩
  have hvl := len _ _ _ _ hsp
  have inK : K.In s.heap := e0.mod.kin.keeps fun b o z => (e0.bs b o z).1
  have nolim : s.heap.NoLimit := e0.mod.nolimit.keeps fun b o z => (e0.bs b o z).1
  have kinds : ∀ y ∈ ps.zip us, (defScope st).names.lookup y.1 = some .local ∨ ((defScope st).names.lookup y.1 = some .cell ∧ ((cellsFrom (s.heap.objs.size + 1) (defScope st).names []).lookup y.1).isSome = true) := fun ⟨n, v⟩ hy => by
    cases S.par n (List.of_mem_zip hy).1 with
    | inl z => exact .inl z
    | inr z => exact .inr ⟨z, PySem.W.cellsFrom_some _ _ _ (.inl z)⟩
  refine codeAny_call_function hr.depth (inK _ _ lk) rfl S.co S.gen rfl (PySem.W.codeRec_of inK hcd) (hbd _ _ _ _ ?_)
  refine wpAny_newFunctionEnv_cells S.kind kinds fun env he s1 ic => ?_
  subst he
  refine ⟨nolim.keeps ic.toInCall.keep, codeAny_func ?_⟩
  obtain ⟨t, ht, hq⟩ := hbody cdv A outer s H vs Q (hr.deeper _) hG hsp
  have I := inv_start (CX := CX0) (E := E0) (cd := cdv) (f := f) (qual := qual) S hr.hd e0 hvl rv ic
  refine wpAny_mono (ht.nox.run [] s1 (_root_.L2.start N vs) H _ I hq) (fun fl s' hs => ?_) fun e s' hs => hs
  match fl, hs with
  | .ret u, ⟨v, σ', H', J, rv', q⟩ => exact ⟨v, H', J.os, J.bare, J.base, J.hok, rv', q⟩
  | .next, ⟨σ', H', J, q⟩ => exact ⟨V.non, H', J.os, J.bare, J.base, J.hok, rfl, q⟩
  | .brk, ⟨_, _, _, q⟩ => exact False.elim q
  | .cont, ⟨_, _, _, q⟩ => exact False.elim q
theorem g_bag {x qual : Str} {st : Stmt} {f : Addr} {fd : FuncData} {N ps : List Str} {k : Nat} {R : Bag → List PyData → PyData → Bag → Prop} (Fn : Fun K x qual st f fd) (S : FnScope N ps (defScope st)) (hps : ps.length ≤ N.length) (len : ∀ b ds d b', R b ds d b' → ds.length + 1 = ps.length)
    (hbody : ∀ (cdv : Value) (A : Around) (outer : List Env) (s : Shared) (H : Hp), Room k (A.deeper (PyProof.Rows.envOfC qual (defScope st) s.heap.objs.size f cdv)) → (A.deeper (PyProof.Rows.envOfC qual (defScope st) s.heap.objs.size f cdv)).guards = some [] →
      ∃ t, PSs (cxOf CX0 P w K mg base N qual (defScope st) f cdv A outer s H E0).nox (defBody st) t ∧
        ∀ (B : Bg) (Q : VK) pb pc b ds d b', B.K = K → B.M = [pb, pc] → R b ds d b' → (∀ v F' H', NxM [pb, pc] B.F0 B.H0 F' H' → BagAt H' pb pc b'.cells b'.cur b'.mix → Dq K F' v d → Q v H') →
          Ho B (t { nx := fun _ H' => Q .non H', rt := Q }) (some (.v (.ref pb)) :: argE ds (N.length - 1)) [b.at pb pc]) :
    GOk P w K mg base (k + 1) f fd ps (spB K R) := by
  refine g_ok Fn S (fun vs H Q E h => ?_) fun cdv A outer s H vs Q hr hG h => ?_
  · obtain ⟨F, pb, pc, b, vs', ds, d, b', rfl, _, _, _, _, _, hd, hR, _⟩ := h
    rw [List.length_cons, dpa_len hd]; exact len b ds d b' hR
  · obtain ⟨t, ht, hb⟩ := hbody cdv A outer s H hr hG
    obtain ⟨F, pb, pc, b, vs', ds, d, b', rfl, hs, f1, f2, ne, bg, hd, hR, q⟩ := h
    refine ⟨t, ht, hb ⟨K, F, H, [pb, pc]⟩ Q pb pc b ds d b' rfl rfl hR q F _ H (rep_startB hs f1 f2 ne bg hd ?_)⟩
    rw [len b ds d b' hR]; exact hps
end
end Fz

/-! ## FzP -/
set_option Elab.async false
set_option linter.all false
set_option maxRecDepth 100000
set_option maxHeartbeats 2000000
set_option autoImplicit false
/-! FzP: comprehensions that own nothing new. -/
namespace Fz
open PySem L2
section
variable {B : Bg} {ε : Eps} {L La : Own} {te tl : TE} {tt : TT} {tas : TA} {g : TG} {vs : List Nat}
theorem range_filter_succ {α : Type} {t : Nat → Bool} {f : Nat → α} {i : Nat} : ((List.range (i + 1)).filter t).map f = ((List.range i).filter t).map f ++ (if t i = true then [f i] else []) := by
  rw [List.range_succ, List.filter_append, List.map_append, List.filter_cons]
  split <;> rfl
theorem en_lcR1P {j : Nat} {n : Int} (t : Nat → Bool) (f : Nat → PyData) (h : EA B tas ε L [.d (.int n)] La) (hn : n ≤ 90000 ∧ -(2 ^ 62) ≤ n) (hj : j ∈ vs)
    (ht : ∀ (i : Nat) m, (i : Int) < n → ETt B tt ((wipeE ε vs).set j (some (.d (.int (i : Int))))) (La ++ [m]) (t i) (La ++ [m]))
    (he : ∀ (i : Nat) m, (i : Int) < n → t i = true → EX B te ((wipeE ε vs).set j (some (.d (.int (i : Int))))) (La ++ [m]) (.d (f i)) (La ++ [m])) :
    EN B (tLc (iRng1 tas) (gName j) tt te vs) ε L (((List.range n.toNat).filter t).map f) La :=
  en_lcR1 h (by omega) (fun i acc L => acc = ((List.range i).filter t).map f ∧ L = La) ⟨rfl, rfl⟩ hj (fun i hi acc L' ⟨ha, hL⟩ => by
    subst ha hL
    refine ⟨?_, _, gt_name, t i, L', fun m => ht i m hi, fun hb => ⟨f i, L', fun m => he i m hi hb, ?_, rfl⟩, fun hb => ⟨?_, rfl⟩⟩
    · rw [List.length_map]
      exact Nat.lt_of_le_of_lt (List.length_filter_le _ _) (by rw [List.length_range]; omega)
    · rw [range_filter_succ, if_pos hb]
    · rw [range_filter_succ, if_neg (by rw [hb]; exact Bool.false_ne_true)]; exact (List.append_nil _).symm) fun acc L' h => h
theorem en_lcR2P {j : Nat} {lo n : Int} (t : Nat → Bool) (f : Nat → PyData) (h : EA B tas ε L [.d (.int lo), .d (.int n)] La) (hn : (-90000 ≤ lo ∧ lo ≤ 90000) ∧ n ≤ 90000 ∧ -90000 ≤ n) (hj : j ∈ vs)
    (ht : ∀ (i : Nat) m, lo + (i : Int) < n → ETt B tt ((wipeE ε vs).set j (some (.d (.int (lo + (i : Int)))))) (La ++ [m]) (t i) (La ++ [m]))
    (he : ∀ (i : Nat) m, lo + (i : Int) < n → t i = true → EX B te ((wipeE ε vs).set j (some (.d (.int (lo + (i : Int)))))) (La ++ [m]) (.d (f i)) (La ++ [m])) (hz : n - lo ≤ 90000) :
    EN B (tLc (iRng2 tas) (gName j) tt te vs) ε L (((List.range (n - lo).toNat).filter t).map f) La :=
  en_lcR2 h (by omega) (fun i acc L => acc = ((List.range i).filter t).map f ∧ L = La) ⟨rfl, rfl⟩ hj (fun i hi acc L' ⟨ha, hL⟩ => by
    subst ha hL
    refine ⟨?_, _, gt_name, t i, L', fun m => ht i m hi, fun hb => ⟨f i, L', fun m => he i m hi hb, ?_, rfl⟩, fun hb => ⟨?_, rfl⟩⟩
    · rw [List.length_map]
      exact Nat.lt_of_le_of_lt (List.length_filter_le _ _) (by rw [List.length_range]; omega)
    · rw [range_filter_succ, if_pos hb]
    · rw [range_filter_succ, if_neg (by rw [hb]; exact Bool.false_ne_true)]; exact (List.append_nil _).symm) fun acc L' h => h
theorem en_lcLP {xs : List PyData} (t : PyData → Bool) (f : PyData → PyData) (E2 : PyData → Eps) (h : EX B tl ε L (.d (.list xs)) La) (hz : xs.length ≤ 90000)
    (hw : ∀ (v : V) (σ : St) (H : Hp) (P : St → Hp → Prop), (g v (wipe σ vs) H P ↔ g v (wipe σ vs) H fun σ2 H2 => wipe σ2 vs = wipe σ vs ∧ P σ2 H2))
    (hg : ∀ d ∈ xs, GT B g (.d d) (wipeE ε vs) (E2 d)) (ht : ∀ d ∈ xs, ∀ m, ETt B tt (E2 d) (La ++ [m]) (t d) (La ++ [m])) (he : ∀ d ∈ xs, t d = true → ∀ m, EX B te (E2 d) (La ++ [m]) (.d (f d)) (La ++ [m])) :
    EN B (tLc (iList B.K tl) g tt te vs) ε L ((xs.filter t).map f) La :=
  en_lcL h (fun i acc L => acc = ((xs.take i).filter t).map f ∧ L = La) ⟨rfl, rfl⟩ hw (fun i d hd => cturn_pure hd hz (hg d (List.mem_of_getElem? hd)) (ht d (List.mem_of_getElem? hd)) (he d (List.mem_of_getElem? hd)))
    fun acc L' ⟨h1, h2⟩ => ⟨by rw [h1, List.take_length], h2⟩
theorem en_lcTP {xs : List PyData} (t : PyData → Bool) (f : PyData → PyData) (E2 : PyData → Eps) (h : EX B tl ε L (.d (.tuple xs)) La) (hz : xs.length ≤ 90000)
    (hw : ∀ (v : V) (σ : St) (H : Hp) (P : St → Hp → Prop), (g v (wipe σ vs) H P ↔ g v (wipe σ vs) H fun σ2 H2 => wipe σ2 vs = wipe σ vs ∧ P σ2 H2))
    (hg : ∀ d ∈ xs, GT B g (.d d) (wipeE ε vs) (E2 d)) (ht : ∀ d ∈ xs, ∀ m, ETt B tt (E2 d) (La ++ [m]) (t d) (La ++ [m])) (he : ∀ d ∈ xs, t d = true → ∀ m, EX B te (E2 d) (La ++ [m]) (.d (f d)) (La ++ [m])) :
    EN B (tLc (iTup B.K tl) g tt te vs) ε L ((xs.filter t).map f) La :=
  en_lcT h (fun i acc L => acc = ((xs.take i).filter t).map f ∧ L = La) ⟨rfl, rfl⟩ hw (fun i d hd => cturn_pure hd hz (hg d (List.mem_of_getElem? hd)) (ht d (List.mem_of_getElem? hd)) (he d (List.mem_of_getElem? hd)))
    fun acc L' ⟨h1, h2⟩ => ⟨by rw [h1, List.take_length], h2⟩
end
end Fz
namespace Fz
open PySem L2
section
variable {B : Bg} {ε : Eps} {L : Own} {X : St → Hp → Prop} {rt : V → Hp → Prop} {bk ct : St → Hp → Prop}
theorem nxt (h : Ho B X ε L) : Ho B (Ends.nx ⟨X, rt, bk, ct⟩) ε L := h
theorem nxc (h : Ho B X ε L) {nx : St → Hp → Prop} : Ho B (Ends.ct ⟨nx, rt, bk, X⟩) ε L := h
end
end Fz
namespace Fz
open PySem L2
section
variable {B : Bg} {ε : Eps} {L : Own} {ts tc : TS} {D : Ends} {rt : V → Hp → Prop} {bk ct : St → Hp → Prop}
theorem x_sq (h : Ho B (ts { D with nx := tc D }) ε L) : Ho B (Ends.nx ⟨tSeq ts tc D, rt, bk, ct⟩) ε L := h
theorem x_sn (h : Ho B D.nx ε L) : Ho B (Ends.nx ⟨tNext D, rt, bk, ct⟩) ε L := h
end
end Fz

/-! ## FzM -/
set_option Elab.async false
set_option linter.all false
set_option maxRecDepth 100000
set_option maxHeartbeats 4000000
set_option autoImplicit false
/-! FzM: list(reversed(list)), at the model's level. -/
namespace Fz
open PySem PySem.Spec PyProof.Rows L2 RT
open Sem (wp)
section
variable {prog : Program} {w : World} {A : Around} {E : Value → Shared → Prop} {s : Shared}
theorem extend_rev {R : Result → Shared → Prop} {it l S : Addr} {items : Array Value} {res : Value} {c0 : Nat} (hh : A.handled = none) (hit : s.heap.IsRevIter it l ((items.size : Int) - 1)) (hl : s.heap.IsList l items) (hne : l ≠ it) (hn : items.size ≤ sizeLine)
    (hSi : S ≠ it) (hSl : S ≠ l) (hS : s.heap.get? S = some { cls := .type "list", data := .seq #[] c0 })
    (hR : ∀ h' tk acc' c', (∀ b o, b ≠ S → b ≠ it → s.heap.get? b = some o → h'.get? b = some o) → h'.get? S = some { cls := .type "list", dict := none, data := .seq acc' c', slots := #[] } →
      ItemsOf (fun i v => items[items.size - 1 - i]? = some v) acc' items.size → R (.ok (.ret res)) { s with heap := h', toks := tk }) :
    wpAny (model prog w) A.in1 (Builtin.List.listExtendWith (.ref S) (.ref it) res)
      (fun fin s' => match fin with | .done f => R (.ok f) s' | .again c' => c'.quiet = true ∧ codeAny (model prog w) A c' R s') (fun e s' => R (.error e) s') s := by
  have W := (Walks.listRev (prog := prog) (w := w) (A := A.in1) hh it l hne items).toS
  have hSf : S ∉ [it, l] := by simp [hSi, hSl]
  have hT : s.TypeIs (.ref it) "list_reverseiterator" := hit.typeIs
  have same : Builtin.List.listSameRef (.ref S) (.ref it) = false := by simp [Builtin.List.listSameRef, hSi]
  have n1 : (Value.type "list_reverseiterator" == Value.type "list") = false := by decide
  have n2 : (Value.type "list_reverseiterator" == Value.type "tuple") = false := by decide
  have e0 : ((items.size : Nat) : Int) - 1 - ((0 : Nat) : Int) = (items.size : Int) - 1 := by omega
  have key : ∀ (h : Heap) (c₁ tk : Nat), h.IsRevIter it l ((items.size : Int) - 1) → h.IsList l items → (∀ b o, b ≠ S → s.heap.get? b = some o → h.get? b = some o) →
      h.get? S = some { cls := .type "list", data := .seq #[] c₁ } → codeAny (model prog w) A (.builtin "list.extend.loop" ⟨[.ref S, .ref it, res], []⟩) R { s with heap := h, toks := tk } := by
    intro h c₁ tk h1 h2 hk hS₁
    refine codeAny_extend_loopS W hn S hSf res items.size 0 _ #[] c₁ rfl (Nat.zero_le _) ⟨Nat.zero_le _, by rw [e0]; exact h1, h2⟩ hS₁ (ItemsOf.nil _) fun s' acc' c' hm hS' hacc => ?_
    rw [Moved.eq_with hm]
    refine hR s'.heap s'.toks acc' c' (fun b o hb hbi e => hm.heap b o (fun hmem => ?_) (hk b o hb e)) hS' hacc
    rcases List.mem_cons.mp hmem with z | z
    · exact hb z
    · exact hbi (List.mem_singleton.mp z)
  unfold Builtin.List.listExtendWith
  refine wpAny_bind (wpAny_typeOf hT ?_)
  simp only [same, n1, n2, Bool.or_false, Bool.false_eq_true, if_false]
  refine wpAny_bind (wpAny_pyIter_revIter hit ?_)
  refine wpAny_bind (wpAny_holding ?_)
  unfold Builtin.List.listLengthHint
  refine wpAny_bind (wpAny_specialOf hT nolen_lri ?_)
  show wpAny _ A.in1 (specialOf (Value.ref it) (Str.ofString "__length_hint__") >>= _) _ _ _
  refine wpAny_bind (wpAny_specialOf hT hint_lri ?_)
  generalize hid : ("list_reverseiterator.__length_hint__" : String) = id0
  wp_delta
  rw [show splitId id0 = some ("list_reverseiterator", "__length_hint__") from by subst hid; decide +kernel]
  subst hid
  refine wpAny_bind (wpAny_isInstance (b := true) hT (by rw [isSubtype_type]; kernel_rfl) ?_)
  refine wpAny_pure ?_
  first
  | (rw [if_neg (by decide)]; exact wpAny_pure ⟨plainId_quiet F.plain_extend_loop _, key s.heap c0 s.toks hit hl (fun b o _ e => e) hS⟩)
  | (refine wpAny_ite_split (fun _ => ?_) (fun _ => wpAny_pure ⟨plainId_quiet F.plain_extend_loop _, key s.heap c0 s.toks hit hl (fun b o _ e => e) hS⟩)
     exact absurd ‹_› (by decide))
theorem list_init_rev {R : Result → Shared → Prop} {it l S : Addr} {items : Array Value} (hh : A.handled = none) (hit : s.heap.IsRevIter it l ((items.size : Int) - 1)) (hl : s.heap.IsList l items) (hne : l ≠ it) (hn : items.size ≤ sizeLine)
    (hSi : S ≠ it) (hSl : S ≠ l) (hS : s.heap.get? S = some { cls := .type "list", data := .seq #[] })
    (hR : ∀ h' tk acc' c', (∀ b o, b ≠ S → b ≠ it → s.heap.get? b = some o → h'.get? b = some o) → h'.get? S = some { cls := .type "list", dict := none, data := .seq acc' c', slots := #[] } →
      ItemsOf (fun i v => items[items.size - 1 - i]? = some v) acc' items.size → R (.ok (.ret .none)) { s with heap := h', toks := tk }) :
    wpAny (model prog w) A.in1 (Builtin.«list.__init__» ⟨[.ref S, .ref it], []⟩)
      (fun fin s' => match fin with | .done f => R (.ok f) s' | .again c' => c'.quiet = true ∧ codeAny (model prog w) A c' R s') (fun e s' => R (.error e) s') s := by
  have oth : ∀ b o, b ≠ S → s.heap.get? b = some o → (s.heap.update S (Obj.mapSeq (fun _ => (#[] : Array Value)))).get? b = some o :=
    fun b o hb e => (Heap.get?_update_other _ _ (Ne.symm hb)).trans e
  show wpAny _ A.in1 (do let old ← Builtin.List.listItems (.ref S); Builtin.List.listUpdate (.ref S) (fun _ => #[]); letGo old.toList.reverse; Builtin.List.listExtendWith (.ref S) (.ref it) .none) _ _ s
  refine wpAny_bind ?_
  unfold Builtin.List.listItems
  refine wpAny_bind (wpAny_seqItems hS rfl (wpAny_pure ?_))
  show wpAny _ _ (updateSeq S (fun _ => #[]) >>= fun _ => letGo (#[] : Array Value).toList.reverse >>= fun _ => Builtin.List.listExtendWith (.ref S) (.ref it) .none) _ _ s
  refine wpAny_bind (wpAny_updateSeq hS rfl ?_)
  have hS₂ := Heap.get?_update_self (Obj.mapSeq (fun _ => (#[] : Array Value))) hS rfl
  refine wpAny_bind (wpAny_letGo ?_)
  obtain ⟨ol, hol, hlr⟩ := id hl
  refine extend_rev hh (hit.at fun o e => oth it o hSi.symm e) ⟨ol, oth l ol hSl.symm hol, hlr⟩ hne hn hSi hSl hS₂ fun h' tk acc' c' hk hS' hacc => ?_
  exact hR h' tk acc' c' (fun b o hb hbi e => hk b o hb hbi (oth b o hb e)) hS' hacc
theorem call_list_rev {Q : Value → Shared → Prop} {it l : Addr} {items : Array Value} (hh : A.handled = none) (hit : s.heap.IsRevIter it l ((items.size : Int) - 1)) (hl : s.heap.IsList l items) (hne : l ≠ it) (hn : items.size ≤ sizeLine)
    (hQ : ∀ h' tk acc' c', (∀ b o, b ≠ it → s.heap.get? b = some o → h'.get? b = some o) →
      h'.get? s.heap.objs.size = some { cls := .type "list", dict := none, data := .seq acc' c', slots := #[] } → ItemsOf (fun i v => items[items.size - 1 - i]? = some v) acc' items.size → Q (.ref s.heap.objs.size) { s with heap := h', toks := tk }) :
    wpAny (model prog w) A (call (.type "list") [.ref it]) Q E s := by
  obtain ⟨oi, hoi, _⟩ := id hit
  obtain ⟨ol, hol, _⟩ := id hl
  refine callType_codes (Q₁ := fun obj s₁ => obj = .ref s.heap.objs.size ∧ s₁ = { s with heap := s.heap.push { cls := .type "list", data := .seq #[] } }) F.called_list (F.typeCall_list_1 _) F.entry_list_init
    (code_list_new _ ⟨rfl, rfl⟩) fun obj s₁ h₁ => ?_
  obtain ⟨rfl, rfl⟩ := h₁
  have hS : (s.heap.push { cls := .type "list", data := .seq #[] }).get? s.heap.objs.size = some { cls := .type "list", data := .seq #[] } := Heap.get?_push_size _ rfl
  refine ⟨⟨_, hS, rfl⟩, F.args_list_init_2 _ _, list_init_rev (A := A.in1) hh (hit.at fun o e => Heap.get?_push_of_some _ e) (hl.push _) hne hn (Nat.ne_of_gt (Heap.lt_size hoi)) (Nat.ne_of_gt (Heap.lt_size hol)) hS fun h' tk acc' c' hk hS' hacc => ?_⟩
  exact ⟨rfl, hQ h' tk acc' c' (fun b o hb e => hk b o (Nat.ne_of_lt (Heap.lt_size e)) hb (Heap.get?_push_of_some _ e)) hS' hacc⟩
end
end Fz

/-! ## FzM2 -/
set_option Elab.async false
set_option linter.all false
set_option maxRecDepth 100000
set_option maxHeartbeats 4000000
set_option autoImplicit false
/-! FzM2: the rule of list(reversed(x)). -/
namespace Fz
open PySem PySem.Spec PyProof.Rows L2 RT
def tListRev (K : PySem.W.Frag) (te : TE) : TE := fun σ H Q => te σ H fun v H1 => ∃ (a : Addr) (xs : List V), v = .ref a ∧ SqL K H1 a xs ∧ ∀ q, H1 q = none → Q (.ref q) (upd H1 q (.lst xs.reverse))
section
variable {X : Cx}
theorem pe_listRev {e : Expr} {te : TE} {p p2 pos pos2 : Pos} (hc : X.calm = true) (hg : Gl X "list") (hm : X.mg "list" = none) (hg2 : Gl X "reversed") (hm2 : X.mg "reversed" = none) (he : PE X e te)
    (hs : starEach [e] X.env = (false, eval e X.env) :: starEach [] X.env := by rfl)
    (hs2 : starEach [.Call (.Name "reversed" p2) [e] [] pos2] X.env = (false, eval (.Call (.Name "reversed" p2) [e] [] pos2) X.env) :: starEach [] X.env := by rfl) :
    PE X (.Call (.Name "list" p) [.Call (.Name "reversed" p2) [e] [] pos2] [] pos) (tListRev X.K te) := by
  refine ⟨fun pins s σ H Q I h => ?_⟩
  refine Call_ (ld_blt I hg hm boot_list (callWith_type1 (args_cons (Call_ (ld_blt I hg2 hm2 boot_reversed (callWith_type1 (args_cons (thn (he.run pins s σ H _ I h) fun u s1 ⟨v, H1, I1, r1, q1⟩ => args_nil ?_) hs) hs rfl))) hs2) hs2 rfl))
  obtain ⟨a, xs, ev, hq, q⟩ := q1
  subst ev
  obtain rfl : u = Value.ref a := r1
  obtain ⟨its, rv, pl, hz⟩ := I1.list hq
  refine call_reversed_list pl.isList (args_nil ?_)
  have k0 : ∀ b o, s1.heap.get? b = some o → (s1.heap.push (revObj a ((its.toArray.size : Int) - 1))).get? b = some o := fun b o z => Heap.get?_push_of_some _ z
  have I2 : Inv X pins σ H1 { s1 with heap := s1.heap.push (revObj a ((its.toArray.size : Int) - 1)) } := I1.kept (t' := s1.toks) k0
  have fp := I1.fpOk (H' := H1) (b := s1.heap.objs.size) (Nat.le_refl _) (I1.hok.fresh (Nat.le_refl _))
  have hl := pl.isList
  obtain ⟨ol, hol, _⟩ := id hl
  have hne : a ≠ s1.heap.objs.size := Nat.ne_of_lt (Heap.lt_size hol)
  refine call_list_rev (s := { s1 with heap := s1.heap.push (revObj a ((its.toArray.size : Int) - 1)) }) (I1.ok.hd hc) ⟨_, Heap.get?_push_size _ rfl, rfl, rfl⟩ (hl.push _) hne (by rw [List.size_toArray, ← rv.length]; exact hz) fun h' tk acc c' hk hS hi => ?_
  refine ⟨.ref (s1.heap.push (revObj a ((its.toArray.size : Int) - 1))).objs.size, upd H1 (s1.heap.push (revObj a ((its.toArray.size : Int) - 1))).objs.size (.lst xs.reverse), ?_, rfl, q _ (I2.hok.fresh (Nat.le_refl _))⟩
  refine I2.turnedNew (t' := tk) (ch := [s1.heap.objs.size]) (fun b o hb z => hk b o (fun y => hb (by rw [y]; exact List.mem_singleton_self _)) z) (fun b hb => by rw [List.mem_singleton.mp hb]; exact fp) (Nat.le_refl _) ?_
  refine (⟨by rw [List.length_reverse]; exact hz, acc.toList, c', vals_rev rv hi, ?_⟩ : ObjOk X.prog X.w _ _ _ (.lst xs.reverse))
  rw [Array.toArray_toList]
  exact hS
end
section
variable {B : Bg} {ε : Eps} {L La : Own} {te : TE} {x : AD}
theorem en_listRev {ds : List PyData} (h : EX B te ε L x La) (hx : IsL La x ds) : EN B (tListRev B.K te) ε L ds.reverse La := fun F σ H r Q q =>
  h F σ H r _ fun v F1 H1 s1 r1 o1 => by
    obtain ⟨p, vs, rfl, g1, g2⟩ := hx.get r1 o1
    exact ⟨p, vs, rfl, g1, fun l hl => q l F1 _ s1 (r1.newM hl) (r1.alloc hl rfl ⟨_, upd_same, dpa_rev g2⟩)⟩
/-- .. of a list just made -/
theorem en_listRevN {ds : List PyData} (h : EN B te ε L ds La) : EN B (tListRev B.K te) ε L ds.reverse La := en_listRev (ex_frz h) .d
end
end Fz

/-! ## FzB -/
set_option Elab.async false
set_option linter.all false
set_option maxRecDepth 100000
set_option maxHeartbeats 2000000
set_option autoImplicit false
/-! FzB: the bag of a law: what is drawn. -/
namespace Fz
open PySem L2
/-- the cells from the last on, the digits at hand -/
def fetchR : List Int → Int → List Int × Int
  | [], cur => ([], cur)
  | c :: r, cur => if cur = 0 then fetchR r (if 1000000000 < c then c else 0) else (c :: r, cur)
theorem fetchR_ok : ∀ (r : List Int) (cur : Int), 0 ≤ cur → (∀ c ∈ r, 0 ≤ c) → 0 ≤ (fetchR r cur).2 ∧ ∀ c ∈ (fetchR r cur).1, 0 ≤ c
  | [], cur, h, h2 => ⟨h, h2⟩
  | c :: r, cur, h, h2 => by
    unfold fetchR
    split
    · refine fetchR_ok r _ ?_ fun x hx => h2 x (List.mem_cons_of_mem _ hx)
      split
      · exact h2 c List.mem_cons_self
      · exact Int.le_refl 0
    · exact ⟨h, h2⟩
def fetchC (b : Bag) : List Int := (fetchR b.cells.reverse b.cur).1
def fetchU (b : Bag) : Int := (fetchR b.cells.reverse b.cur).2
def nextM (m : Int) : Int := (m * 48271 + 11) % 2147483647
theorem nextM_ok (m : Int) : 0 ≤ nextM m ∧ nextM m < 2147483647 := ⟨Int.emod_nonneg _ (by decide), Int.emod_lt_of_pos _ (by decide)⟩
def drawV (b : Bag) (n : Int) : Int := if 0 < fetchU b then fetchU b % n else nextM b.mix * nextM b.mix % 2147483629 / 7 % n
theorem drawV_ok (b : Bag) {n : Int} (h : 0 < n) : 0 ≤ drawV b n ∧ drawV b n < n := by
  unfold drawV
  split
  · exact ⟨Int.emod_nonneg _ (by omega), Int.emod_lt_of_pos _ h⟩
  · exact ⟨Int.emod_nonneg _ (by omega), Int.emod_lt_of_pos _ h⟩
theorem fetch_ok (b : Bag) : 0 ≤ fetchU b ∧ ∀ c ∈ (fetchC b).reverse, 0 ≤ c := by
  have h := fetchR_ok b.cells.reverse b.cur b.ok.2.2.1 fun c hc => b.ok.2.2.2 c (List.mem_reverse.mp hc)
  exact ⟨h.1, fun c hc => h.2 c (List.mem_reverse.mp hc)⟩
def drawB (b : Bag) (n : Int) : Bag :=
  if h : 0 < n then (if hu : 0 < fetchU b then ⟨(fetchC b).reverse, fetchU b / n, b.mix, b.ok.1, b.ok.2.1, Int.ediv_nonneg (fetch_ok b).1 (Int.le_of_lt h), (fetch_ok b).2⟩
    else ⟨(fetchC b).reverse, fetchU b, nextM b.mix, (nextM_ok b.mix).1, (nextM_ok b.mix).2, (fetch_ok b).1, (fetch_ok b).2⟩) else b
theorem drawB_pos {b : Bag} {n : Int} (h : 0 < n) (hu : 0 < fetchU b) : (drawB b n).cells = (fetchC b).reverse ∧ (drawB b n).cur = fetchU b / n ∧ (drawB b n).mix = b.mix := by
  unfold drawB; rw [dif_pos h, dif_pos hu]; exact ⟨rfl, rfl, rfl⟩
theorem drawB_zero {b : Bag} {n : Int} (h : 0 < n) (hu : ¬ 0 < fetchU b) : (drawB b n).cells = (fetchC b).reverse ∧ (drawB b n).cur = fetchU b ∧ (drawB b n).mix = nextM b.mix := by
  unfold drawB; rw [dif_pos h, dif_neg hu]; exact ⟨rfl, rfl, rfl⟩
def R_draw : Bag → List PyData → PyData → Bag → Prop := fun b ds d b' => ∃ n : Int, 0 < n ∧ n.natAbs < 2 ^ 8000 ∧ ds = [.int n] ∧ d = .int (drawV b n) ∧ b' = drawB b n
def R_pick : Bag → List PyData → PyData → Bag → Prop := fun b ds d b' => ∃ xs : List PyData, xs ≠ [] ∧ xs.length ≤ 100000 ∧ ds = [.list xs] ∧ d = xs.getD (drawV b xs.length).toNat .none ∧ b' = drawB b xs.length
end Fz

/-! ## FzR -/
set_option Elab.async false
set_option linter.all false
set_option maxRecDepth 100000
set_option maxHeartbeats 2000000
set_option autoImplicit false
/-! FzR: lists put together, more targets, the bag made. -/
namespace Fz
open PySem L2
section
variable {B : Bg} {ε ε' : Eps} {L La Lb Lc : Own} {te ta tb tn : TE} {x y : AD} {D : Ends} {tas : TA}
inductive IsM (L : Own) : AD → List PyData → Prop
  | d {ds : List PyData} : IsM L (.d (.list ds)) ds
  | o {p : Addr} {ds : List PyData} {k : Nat} (h : L[k]? = some (.lst p ds)) : IsM L (.v (.ref p)) ds
theorem IsM.get {F : Hp} {σ : St} {H : Hp} {v : V} {ds : List PyData} {a : AD} (h : IsM L a ds) (rp : Rep B ε L F σ H) (o : a.ok B.K F v) : ∃ p vs, v = .ref p ∧ H p = some (.lst vs) ∧ DqAll B.K F vs ds := by
  cases h with
  | d =>
    have o' : Dq B.K F v (.list ds) := o
    cases o' with
    | lst h1 h2 => exact ⟨_, _, rfl, rp.sub _ _ h1, h2⟩
  | o hk =>
    obtain ⟨vs, h1, h2⟩ := rp.own _ (List.mem_of_getElem? hk)
    exact ⟨_, vs, o, h1, h2⟩
theorem en_cat {ds es : List PyData} (ha : EX B ta ε L x La) (hb : EX B tb ε La y Lb) (hx : IsM Lb x ds) (hy : IsM Lb y es) (hl : ds.length + es.length ≤ 100000) : EN B (tOp rCat ta tb) ε L (ds ++ es) Lb := en_op ha hb fun F σ H v w rp hv hw Q q => by
  obtain ⟨p, vs, rfl, g1, g2⟩ := hx.get rp hv
  obtain ⟨p', ws, rfl, g3, g4⟩ := hy.get rp hw
  exact ⟨p, p', vs, ws, rfl, rfl, g1, g3, Evl.sz_of (by rw [dpa_len g2, dpa_len g4]; exact hl), fun n hn => q n F _ (Sub.rfl' F) (rp.newM hn) (rp.alloc hn rfl ⟨_, upd_same, dpa_app g2 g4⟩)⟩
theorem gt_tup4 {i j k l : Nat} {d e f h : PyData} : GT B (gTup B.K 4 (gCons (gName i) (gCons (gName j) (gCons (gName k) (gCons (gName l) gNil))))) (.d (.tuple [d, e, f, h])) ε ((((ε.set i (some (.d d))).set j (some (.d e))).set k (some (.d f))).set l (some (.d h))) := fun L F σ H v r o P p => by
  obtain ⟨q, vs, rfl, h1, h2⟩ := tup_inv o
  cases h2 with
  | cons a t =>
    cases t with
    | cons b t =>
      cases t with
      | cons c t =>
        cases t with
        | cons c' t =>
          cases t
          exact ⟨q, _, rfl, tq_sub r.sub h1, rfl, _, _, rfl, _, _, rfl, _, _, rfl, _, _, rfl, rfl, p _ ((((r.slot (a := .d d) a).slot (a := .d e) b).slot (a := .d f) c).slot (a := .d h) c')⟩
/-- [cells, cur, mix] -/
theorem x_retBag {c : List Int} {u mx : Int} (h : EN B tn ε L (c.map PyData.int) La) (ha : ∀ m, EX B ta ε (m :: La) (.d (.int u)) (m :: La)) (hb : ∀ m, EX B tb ε (m :: La) (.d (.int mx)) (m :: La))
    (k : ∀ pb pc F σ H, Rep B ε (.bag pb pc c u mx :: La) F σ H → B.H0 pb = none → B.H0 pc = none → pb ≠ pc → D.rt (.ref pb) H) : Ho B (tRet (tLst (tCons tn (tCons ta (tCons tb tNil)))) D) ε L := fun F σ H r =>
  h F σ H r _ fun pc F1 H1 s1 hpc r1 => ha _ F1 σ H1 r1 _ fun v F2 H2 s2 r2 o2 => hb _ F2 σ H2 r2 _ fun w F3 H3 s3 r3 o3 => by
    have ev : v = .int u := int_inv o2
    have ew : w = .int mx := int_inv o3
    subst ev ew
    refine ⟨by show 3 ≤ sizeLine; decide, fun pb hp => ?_⟩
    obtain ⟨vs, g1, g2⟩ := r3.own _ List.mem_cons_self
    have e2 := dpa_int_inv g2
    subst e2
    have ne : pc ≠ pb := fun e => by rw [e, hp] at g1; cases g1
    have off := r3.off pc List.mem_cons_self
    have h0pc : B.H0 pc = none := off.2.resolve_left hpc
    have ra := r3.alloc (m := .raw pb (.lst [.ref pc, .int u, .int mx])) hp rfl ⟨upd_same, fun _ z => nomatch z⟩
    refine k pb pc F3 σ _ ⟨ra.sub, fun m hm => ?_, fun p hp' => ra.off p hp', ra.nd, ra.sl, ra.len, ra.f0, ra.h0, ra.nc, ra.mm⟩ (r3.newH hp) h0pc ne.symm
    rcases List.mem_cons.mp hm with e | e
    · rw [e]; exact ⟨upd_same, by rw [upd_ne ne]; exact g1⟩
    · exact ra.own m (List.mem_cons_of_mem _ (List.mem_cons_of_mem _ e))
/-- a def that makes the bag of the script -/
def spOwn (K : PySem.W.Frag) : Sp := fun vs H Q _ => ∃ (a : Addr) (ns : List Int), vs = [.ref a] ∧ SqL K H a (ns.map V.int) ∧ ns.length ≤ 63 ∧ ∀ pb pc (b : Bag) H', (∀ a o, H a = some o → H' a = some o) → H pb = none → H pc = none → pb ≠ pc → BagAt H' pb pc b.cells b.cur b.mix → Q (.ref pb) H'
end
end Fz
namespace Fz
open PySem L2
section
variable {B : Bg} {ε ε' : Eps} {L La Lb Lc : Own} {te ta tb tn : TE} {x y : AD} {D : Ends} {tas : TA} {a : AD}
/-- a, b = x, [..] -/
theorem x_parN {i j : Nat} {ds : List PyData} (h : EX B ta ε L a La) (h2 : EN B tb ε La ds Lb) (k : ∀ p, p ∉ B.M → Ho B D.nx ((ε.set i (some a)).set j (some (.v (.ref p)))) (.lst p ds :: Lb)) : Ho B (tPar i j (tCons ta (tCons tb tNil)) D) ε L := fun F σ H r =>
  h F σ H r _ fun v F1 H1 s1 r1 o1 => h2 F1 σ H1 r1 _ fun p F2 H2 s2 hp r2 => ⟨v, .ref p, rfl, k p hp F2 _ H2 ((r2.slot (o1.sub s2)).slot (a := .v (.ref p)) rfl)⟩
theorem seq_nat {n k : Nat} (h : k < n) : seqIndex? (k : Int) n = some k := by
  unfold seqIndex?
  simp; omega
theorem eqv_nil (ds : List PyData) : PyData.eqv (.list ds) (.list []) = ds.isEmpty := by cases ds <;> rfl
/-- x != [] -/
theorem ex_neNil {ds : List PyData} (h : EX B ta ε L x La) (hx : IsL La x ds) (hs : SeqAt.shaped (.list ds) = true) : EX B (tOp (rNeD B.K) ta (tLst tNil)) ε L (.d (.bool (!ds.isEmpty))) La := fun F σ H r Q q =>
  h F σ H r _ fun v F1 H1 s1 r1 o1 => ⟨Nat.zero_le _, fun p hp => by
    obtain ⟨pl, vs, rfl, g1, g2⟩ := hx.get r1 o1
    have s2 : Sub H1 (upd H1 p (.lst [])) := sub_fresh hp
    refine ⟨.list ds, .list [], .lst (sql_sub s2 g1) (dqa_dpa (dpa_sub (r1.sub.tr s2) g2)), dq_dp (.lst upd_same .nil), hs, rfl, ?_⟩
    rw [eqv_nil]
    exact q _ F1 _ s1 (r1.heap s2) (.bl _)⟩
end
end Fz
namespace Fz
open PySem L2
theorem en_is {B : Bg} {ε : Eps} {L La : Own} {te : TE} {ds es : List PyData} (h : EN B te ε L ds La) (e : ds = es) : EN B te ε L es La := e ▸ h
theorem cut_map (f : Int → PyData) (ns : List Int) (lo hi : Option Int) : ∃ ms : List Int, cutD (ns.map f) lo hi = ms.map f ∧ ms.length ≤ ns.length := by
  unfold cutD
  refine ⟨(ns.drop (HT.sIx (ns.map f).length 0 lo)).take (HT.sIx (ns.map f).length (ns.map f).length hi - HT.sIx (ns.map f).length 0 lo), ?_, ?_⟩
  · rw [List.map_take, List.map_drop]
  · rw [List.length_take, List.length_drop]
    omega
theorem rep_startS {K : PySem.W.Frag} {N : List Str} {H : Hp} {a : Addr} {ns : List Int} (hS : SqL K H a (ns.map V.int)) (hn : 1 ≤ N.length) :
    Rep ⟨K, H, H, []⟩ (some (.v (.ref a)) :: List.replicate (N.length - 1) none) [.seq a (ns.map PyData.int)] H (_root_.L2.start N [.ref a]) H := by
  refine ⟨Sub.rfl' H, fun m hm => ?_, fun p hp => (nomatch hp), List.nodup_nil, fun i x e => ?_, ?_, Sub.rfl' H, fun _ _ _ e => e, fun _ e _ => .inl e, fun p hp => (nomatch hp)⟩
  · rw [List.mem_singleton.mp hm]
    exact ⟨_, hS, dpa_ints ns⟩
  · cases i with
    | zero => cases e; exact ⟨_, rfl, _, rfl, rfl⟩
    | succ i =>
      have e : (List.replicate (N.length - 1) (none : Option AD))[i]? = some x := e
      rw [List.getElem?_replicate] at e
      split at e
      · cases e
        rename_i hlt
        refine ⟨none, ?_, trivial⟩
        show (List.replicate (N.length - 1) (none : Option V))[i]? = some none
        rw [List.getElem?_replicate, if_pos hlt]
      · cases e
  · show (some (V.ref a) :: List.replicate (N.length - 1) none).length = _
    rw [List.length_cons, List.length_replicate, List.length_cons, List.length_replicate]
end Fz

/-! ## FzS -/
set_option Elab.async false
set_option linter.all false
set_option maxRecDepth 100000
set_option maxHeartbeats 2000000
set_option autoImplicit false
/-! FzS: sum(list of tuples, ()); tuple * 1. -/
namespace Fz
open PySem L2
open Sem (wp)
/-- one deeper, with another wish -/
abbrev cx1 (X : Cx) (E : Value → Shared → Prop) : Cx := { X with A := X.A.in1, xe := E }
section
variable {X : Cx} {pins : List (Addr × Obj)} {σ : St} {H : Hp} {s : Shared} {E : Value → Shared → Prop}
theorem ok_to1 (o : X.Ok) : (cx1 X E).Ok := ⟨o.mod, o.kind, o.glob, o.blt, o.above, o.inj, o.has, o.cab, o.hd, o.frames, o.stk, o.exf, o.bs, o.bsz, o.noex, o.exfs, o.funs, o.frf⟩
theorem inv_to1 (I : Inv X pins σ H s) : Inv (cx1 X E) pins σ H s := ⟨ok_to1 I.ok, I.os, I.bare, I.base, I.loc, I.cell, I.free, I.freeC, I.pin, I.hok, I.len⟩
theorem inv_of1 (o : X.Ok) (I : Inv (cx1 X E) pins σ H s) : Inv X pins σ H s := ⟨o, I.os, I.bare, I.base, I.loc, I.cell, I.free, I.freeC, I.pin, I.hok, I.len⟩
end
theorem args_sumT (a b : Value) : argsOk "sum" ⟨[a, b], []⟩ := by unfold argsOk; kernel_rfl
theorem sub_tuple_bytearray : isSubtype (.type "tuple") (.type "bytearray") = pure false := by rw [isSubtype_type]; kernel_rfl
theorem sub_tuple_str' : isSubtype (.type "tuple") (.type "str") = pure false := by rw [isSubtype_type]; kernel_rfl
theorem sub_tuple_bytes' : isSubtype (.type "tuple") (.type "bytes") = pure false := by rw [isSubtype_type]; kernel_rfl
def stO (pa : Addr) (c : Nat) : Obj := { cls := .type "list", dict := none, data := .seq #[.ref pa] c, slots := #[] }
section
variable {X : Cx} {pins : List (Addr × Obj)} {σ : St} {R : Result → Shared → Prop} {S It l : Addr}
theorem sumT_loop (hh : X.A.handled = none) (hSI : S ≠ It) : ∀ (ps : List Addr) (zs : List (List V)) (dn : List Addr) (acc : List V) (pa : Addr) (H : Hp) (s : Shared) (c : Nat),
    Paired (fun p z => H p = some (.tup z)) ps zs → SqL X.K H l ((dn ++ ps).map V.ref) → H pa = some (.tup acc) → acc.length + zs.flatten.length ≤ sizeLine →
    Inv X pins σ H s → FpOk X pins H S → FpOk X pins H It → s.heap.IsListIter It l dn.length → s.heap.get? S = some (stO pa c) →
    (∀ p H' s', Sub H H' → Inv X pins σ H' s' → H' p = some (.tup (acc ++ zs.flatten)) → R (.ok (.ret (.ref p))) s') →
    codeAny (model X.prog X.w) X.A (.builtin "sum.loop" ⟨[.ref It, .ref S, rawInt 2, rawInt 0], []⟩) R s
  | [], zs, dn, acc, pa, H, s, c, hp, hs, ha, hz, I, fS, fI, hit, hS, hR => by
    cases hp
    obtain ⟨its, rv, hl, _⟩ := I.list hs
    refine codeAny_builtin F.entry_sum_loop ?_
    rw [Around.under_plainId F.plain_sum_loop _]
    show wpAny _ X.A.in1 (seqItems? (.ref S) >>= _) _ _ s
    refine wpAny_bind (wpAny_seqItems hS rfl ?_)
    show wpAny _ X.A.in1 (tryCatch (pyNext (.ref It)) _ >>= _) _ _ s
    refine wpAny_bind (wpAny_tryCatch (wpAny_pyNext_list_end (A := X.A.in1) hh hit hl.isList (Array.getElem?_eq_none (by
      have := rv.length
      rw [List.length_map, List.append_nil] at this
      rw [List.size_toArray]; omega)) fun h' he => ?_))
    obtain ⟨f0, f1, f2, f3, f4, f5⟩ := fI
    exact wpAny_pure (hR pa H _ (Sub.rfl' H) (I.turned (t' := s.toks) (fun b ob hb e => he b ob hb e) f0 f1 f3 f4 f5) (by rw [List.flatten_nil, List.append_nil]; exact ha))
  | p :: ps, zs, dn, acc, pa, H, s, c, hp, hs, ha, hz, I, fS, fI, hit, hS, hR => by
    cases hp with
    | @cons _ z _ zs hpz hp =>
    obtain ⟨its, rv, hl, _⟩ := I.list hs
    have ei := refs_at rv
    subst ei
    have hx : ((dn ++ p :: ps).map Value.ref).toArray[dn.length]? = some (.ref p) := by simp
    have hlI : l ≠ It := fun e => by
      rcases hs with (h | ⟨o, h⟩) | ⟨o, its, n, h, _⟩
      · rw [e, fI.1] at h; cases h
      · rw [e, fI.1] at h; cases h
      · obtain ⟨ol, hol, hcl, _⟩ := hl.isList
        obtain ⟨oi, hoi, hci, _⟩ := hit
        rw [e, hoi] at hol
        cases hol
        rw [hci] at hcl
        exact absurd (Value.type.inj hcl) (by decide)
    refine codeAny_builtin F.entry_sum_loop ?_
    rw [Around.under_plainId F.plain_sum_loop _]
    show wpAny _ X.A.in1 (seqItems? (.ref S) >>= _) _ _ s
    refine wpAny_bind (wpAny_seqItems hS rfl ?_)
    show wpAny _ X.A.in1 (tryCatch (pyNext (.ref It)) _ >>= _) _ _ s
    refine wpAny_bind (wpAny_tryCatch (wpAny_pyNext_list_item hit hl.isList hx fun h1 hit1 hs1 => ?_))
    show wpAny _ X.A.in1 ((holding [Value.ref p] (binaryOp .Add (.ref pa) (.ref p))).attempt >>= _) _ _ _
    refine wpAny_bind (wpAny_attempt (wpAny_holding ?_))
    obtain ⟨f0, f1, f2, f3, f4, f5⟩ := id fI
    have I1 : Inv X pins σ H { s with heap := h1 } := I.turned (t' := s.toks) (fun b ob hb e => (hs1.2 b hb).trans e) f0 f1 f3 f4 f5
    obtain ⟨oi, hoi, hci, hdi⟩ := id hit1
    have hS1 : h1.get? S = some (stO pa c) := (hs1.2 S hSI).trans hS
    have I2 : Inv X ((S, stO pa c) :: (It, oi) :: pins) σ H { s with heap := h1 } := I1.pins_of fun q hq => by
      rcases List.mem_cons.mp hq with e | hq
      · subst e
        exact ⟨hS1, fS.1, fS.2.1, fS.2.2.1, fun v z => by cases z⟩
      · rcases List.mem_cons.mp hq with e | hq
        · subst e
          exact ⟨hoi, fI.1, fI.2.1, fI.2.2.1, fun v z => by rw [hdi] at z; cases z⟩
        · exact I1.pin q (List.mem_append_right _ hq)
    rw [List.flatten_cons, List.length_append] at hz
    refine wpAny_mono (op_catA (X := cx1 X _) _ _ σ H (.ref pa) (.ref p) _ _ (fun v H' => ∃ q, v = .ref q ∧ Sub H H' ∧ H' q = some (.tup (acc ++ z))) (inv_to1 I2) rfl rfl
      ⟨pa, p, acc, z, rfl, rfl, .inl (.inl ha), .inl (.inl hpz), by omega, fun e => ⟨p, rfl, Sub.rfl' H, by rw [e]; exact hpz⟩, fun _ e => ⟨pa, rfl, Sub.rfl' H, by rw [e, List.append_nil]; exact ha⟩, fun _ _ n hn => ⟨n, rfl, sub_fresh hn, upd_same⟩⟩)
      (fun r s2 h2 => ?_) (fun _ _ e => e)
    obtain ⟨v, H', I3, rv3, q, ev, hsub, hq⟩ := h2
    subst ev
    obtain rfl : r = Value.ref q := rv3
    have I4 := inv_of1 I.ok I3
    have pS := I4.pin (S, stO pa c) (List.mem_append_right _ List.mem_cons_self)
    have pI := I4.pin (It, oi) (List.mem_append_right _ (List.mem_cons_of_mem _ List.mem_cons_self))
    have I5 : Inv X pins σ H' s2 := I4.pins_of fun q hq => I4.pin q (List.mem_append_right _ (List.mem_cons_of_mem _ (List.mem_cons_of_mem _ hq)))
    have gS : FpOk X pins H' S := ⟨pS.2.1, fS.2.1, fS.2.2.1, fS.2.2.2.1, fS.2.2.2.2.1, fS.2.2.2.2.2⟩
    have gI : FpOk X pins H' It := ⟨pI.2.1, fI.2.1, fI.2.2.1, fI.2.2.2.1, fI.2.2.2.2.1, fI.2.2.2.2.2⟩
    show wpAny _ X.A.in1 (updateSeq S (fun _ => #[.ref q]) >>= _) _ _ _
    refine wpAny_bind (wpAny_updateSeq pS.1 rfl ?_)
    have hS₂ := Heap.get?_update_self (Obj.mapSeq fun _ => #[Value.ref q]) pS.1 rfl
    refine wpAny_bind (wpAny_letGo ?_)
    refine wpAny_bind (wpAny_updateSeq hS₂ rfl (wpAny_pure ⟨plainId_quiet F.plain_sum_loop _, ?_⟩))
    have hS₃ := Heap.get?_update_self (Obj.mapSeq fun _ => #[Value.ref q]) hS₂ rfl
    have I6 : Inv X pins σ H' { s2 with heap := (s2.heap.update S (Obj.mapSeq fun _ => #[Value.ref q])).update S (Obj.mapSeq fun _ => #[Value.ref q]) } :=
      I5.turned (s := s2) (it := S) (t' := s2.toks) (fun b ob hb e => (Heap.get?_update_other _ _ (fun z => hb z.symm)).trans ((Heap.get?_update_other _ _ (fun z => hb z.symm)).trans e)) gS.1 gS.2.1 gS.2.2.2.1 gS.2.2.2.2.1 gS.2.2.2.2.2
    refine sumT_loop hh hSI ps zs (dn ++ [p]) (acc ++ z) q H' _ c (Paired.mapP hp fun a b h => hsub _ _ h) (by rw [List.append_assoc]; exact sql_sub hsub hs) hq (by rw [List.length_append]; omega)
      I6 gS gI ?_ hS₃ fun p' H'' s' hs' I' h' => hR p' H'' s' (hsub.tr hs') I' (by rw [List.flatten_cons, ← List.append_assoc]; exact h')
    refine ⟨oi, (Heap.get?_update_other _ _ hSI).trans ((Heap.get?_update_other _ _ hSI).trans pI.1), hci, ?_⟩
    rw [List.length_append]; exact hdi
/-- sum(xs, ()) of a list of tuples -/
def rSumT (K : PySem.W.Frag) : List V → Hp → VK → Prop := fun xs H Q => ∃ (l s0 : Addr) (ps : List Addr) (zs : List (List V)), xs = [.ref l, .ref s0] ∧ SqL K H l (ps.map V.ref) ∧ H s0 = some (.tup []) ∧ Paired (fun p z => H p = some (.tup z)) ps zs ∧ zs.flatten.length ≤ sizeLine ∧
  ∀ p H', Sub H H' → H' p = some (.tup zs.flatten) → Q (.ref p) H'
theorem cr_sumT (hc : X.calm = true) : CallR X (.builtin "sum") (rSumT X.K) := by
  intro pins s σ H vs us Q I r h
  obtain ⟨l, s0, ps, zs, rfl, hs, h0, hp, hz, q⟩ := h
  obtain ⟨its, rv, hl, _⟩ := I.list hs
  have hT : ∀ h' : Heap, (∀ b o, s.heap.get? b = some o → h'.get? b = some o) → Shared.TypeIs { s with heap := h' } (.ref s0) "tuple" := fun h' k => by
    obtain ⟨its, _, ⟨o, ho, hc, _⟩, _⟩ := I.tuple (a := s0) (xs := []) (.inl (.inl h0))
    exact ⟨o, k _ _ ho, hc⟩
  cases r with
  | cons r1 r =>
  cases r with
  | cons r2 r =>
  cases r
  cases r1
  cases r2
  refine call_function_tree F.kind_sum F.plain_sum F.entry_sum (args_sumT _ _) ?_
  unfold Builtin.«sum»
  simp only [List.length_cons, List.length_nil]
  rw [if_neg (by decide)]
  refine wpAny_bind (wpAny_of_eq (show Builtin.Builtins.bindParams "sum" ["start"] 0 ⟨[.ref s0], []⟩ = pure [some (.ref s0)] from rfl) ?_)
  refine wpAny_bind (wpAny_pyIter_list hl.isList ?_)
  refine wpAny_bind (wpAny_pure ?_)
  have k1 : ∀ b o, s.heap.get? b = some o → (s.heap.push { cls := .type "list_iterator", data := .fields #[.ref l, .int 0 0] }).get? b = some o := fun b o e => Heap.get?_push_of_some _ e
  simp only [List.forIn_cons, List.forIn_nil]
  refine wpAny_bind (wpAny_bind (wpAny_bind (wpAny_isInstance (T := "tuple") (b := false) (hT _ k1) sub_tuple_str' ?_)))
  simp only [Bool.false_eq_true, if_false]
  refine wpAny_pure (wpAny_bind (wpAny_bind (wpAny_isInstance (T := "tuple") (b := false) (hT _ k1) sub_tuple_bytes' ?_)))
  simp only [Bool.false_eq_true, if_false]
  refine wpAny_pure (wpAny_bind (wpAny_bind (wpAny_isInstance (T := "tuple") (b := false) (hT _ k1) sub_tuple_bytearray ?_)))
  simp only [Bool.false_eq_true, if_false]
  refine wpAny_pure (wpAny_pure ?_)
  refine wpAny_bind (wpAny_newObj_type ?_)
  have I1 : Inv X pins σ H { s with heap := (s.heap.push { cls := .type "list_iterator", data := .fields #[.ref l, .int 0 0] }).push (stO s0 0) } := I.kept (t' := s.toks) fun b o e => Heap.get?_push_of_some _ (k1 b o e)
  have z0 : (s.heap.push { cls := .type "list_iterator", data := .fields #[.ref l, .int 0 0] }).objs.size = s.heap.objs.size + 1 := by simp [Heap.push]
  have hne : (s.heap.push { cls := .type "list_iterator", data := .fields #[.ref l, .int 0 0] }).objs.size ≠ s.heap.objs.size := by rw [z0]; omega
  have fI : FpOk X pins H s.heap.objs.size := I.fpOk (Nat.le_refl _) (I.hok.fresh (Nat.le_refl _))
  have fS : FpOk X pins H (s.heap.push { cls := .type "list_iterator", data := .fields #[.ref l, .int 0 0] }).objs.size := I.fpOk (by omega) (I.hok.fresh (by omega))
  refine wpAny_pure ⟨plainId_quiet F.plain_sum_loop _, sumT_loop (X := X) (pins := pins) (σ := σ) (I.ok.hd hc) hne ps zs [] [] s0 H _ 0 hp hs h0 (by simpa using hz) I1 fS fI ⟨_, Heap.get?_push_of_some _ (Heap.get?_push_size _ rfl), rfl, rfl⟩ (Heap.get?_push_size _ rfl) fun p H' s' hs' I' h' => ?_⟩
  exact ⟨.ref p, H', I', rfl, q p H' hs' h'⟩
end
end Fz

/-! ## FzT -/
set_option Elab.async false
set_option linter.all false
set_option maxRecDepth 100000
set_option maxHeartbeats 2000000
set_option autoImplicit false
/-! FzT: dicts with tuples of ints as keys; tuple * 1. -/
namespace Fz
open PySem L2
open Sem (wp)
theorem tuple_mulW1 (l : Addr) (items : Array Value) (n : Nat) (dd : Option Addr) (sl : Array (Option Value)) (u : Tok) :
    Meets (Builtin.«tuple.__mul__» ⟨[.ref l, .int 1 u], []⟩) (fun _ R s => s.heap.get? l = some { cls := .type "tuple", dict := dd, data := .seq items n, slots := sl } ∧ R (.ok (.ret (Value.ref l))) s) :=
  .of_wp fun prog w A R s h => by
    obtain ⟨hp, g, d, tk, os⟩ := s
    obtain ⟨hl, h⟩ := h
    have f1 := AutoSeq1.idx_int
    have c1 : (items.isEmpty || (1 : Int) == 1) = true := by simp
    wp_walk using wpAny_loadPart' hl
    repeat (first
      | (refine wpAny_ite_true (decide_eq_true c1) ?_; wp_walk using wpAny_loadPart' hl)
      | (refine wpAny_ite_false (by decide) ?_; wp_walk using wpAny_loadPart' hl)
      | (wp_step))
    all_goals first | exact ⟨_, rfl, h⟩ | skip

def rRepT1 (K : PySem.W.Frag) : R2 := fun x y H Q => ∃ l k xs, x = .ref l ∧ y = .int k ∧ SqT K H l xs ∧ xs ≠ [] ∧ ((k = 1 ∧ Q (.ref l) H) ∨ (2 ≤ k ∧ k ≤ 1000 ∧ xs.length ≤ 1000 ∧ ∀ p, H p = none → Q (.ref p) (upd H p (.tup (List.replicate k.toNat xs).flatten))))
theorem op_repT1 {X : Cx} : OpR X (binaryOp .Mult) (rRepT1 X.K) := by
  intro pins s σ H x y v u Q I rx ry h
  obtain ⟨l, k, xs, rfl, rfl, hT, hne, ⟨rfl, q⟩ | ⟨h1, h2, hz, q⟩⟩ := h
  · cases rx
    obtain ⟨t, rfl⟩ := ry
    obtain ⟨its, r, ⟨⟨cls, dd, data, sl⟩, ho, hc, n, hd⟩, hs⟩ := I.tuple hT
    simp only at hc hd
    subst hc hd
    refine wpAny_binaryOp_repeat_ref (T := "tuple") (U := "int") (by decide) ⟨_, ho, rfl⟩ (fun s' => typeIs_int s' 1 t) noFill_tuple_mul F.fills_int_mul F.slot_int_rmul repeat_tuple F.slot_int_index.lookup
      (call_meets F.slot_int_rmul (typeIs_int s 1 t) F.entry_int_rmul (F.args_int_rmul_2 _ _) (int_rmul_tuple 1 t l its.toArray n dd sl)
        ⟨ho, rfl, ⟨_, ho, rfl⟩, call_meets F.slot_tuple_mul ⟨_, ho, rfl⟩ F.entry_tuple_mul (F.args_tuple_mul_2 _ _) (tuple_mulW1 l its.toArray n dd sl t) ⟨ho, ?_⟩⟩)
    exact ⟨.ref l, H, I, rfl, q⟩
  · exact op_repT pins s σ H _ _ v u Q I rx ry ⟨l, k, xs, rfl, rfl, hT, hne, h1, h2, hz, q⟩

/-! ### a display of one pair -/
def tDispT (tk tv : TE) : TE := fun σ H Q => ∀ p, H p = none → tPairs [(tk, tv)] σ (upd H p (.dT [])) fun ps H2 => ∃ b k y, ps = [(V.ref b, y)] ∧ H2 b = some (.tup (k.map kV)) ∧ H2 p = some (.dT []) ∧ Q (.ref p) (upd H2 p (.dT [(k, y)]))
theorem pe_dispT {X : Cx} {pos : Pos} {k v : Expr} {tk tv : TE} (hu : X.A.units + 1 < cLine) (hk : PE X k tk) (hv : PE X v tv) : PE X (.Dict [some k] [v] pos) (tDispT tk tv) := by
  refine ⟨fun pins s σ H Q I q => ?_⟩
  have hn := I.hok.fresh (Nat.le_refl s.heap.objs.size)
  have I1 := I.laid (a := s.heap.objs.size) (o := .dT []) (h' := s.heap.push { cls := .type "dict", data := .dict #[] }) (t' := s.toks) (fun _ _ q => Heap.get?_push_of_some _ q) (Nat.le_refl _) (dt_empty s.heap I.big)
  rw [arm_eval_Dict, zip_pairTrees [some k] [v] X.env pos rfl rfl, dictDisplay_pairs (pairTrees [some k] [v] X.env pos) (fun z => nomatch z) (by show (1 : Nat) < 17; decide)]
  refine wpAny_bind (wpAny_standAt (wpAny_bind (wpAny_subDictH (knd := tupleKind (mixKind X.prog X.w)) (show X.A.units < cLine by omega) (by show (1 : Nat) ≤ 15; decide) ?_)))
  refine thn ((pps_cons hk hv (pps_nil (X := X) (pos := pos))).run pins { s with heap := s.heap.push { cls := .type "dict", data := .dict #[] } } σ _ (fun ps H2 => ∃ b k y, ps = [(.ref b, y)] ∧ H2 b = some (.tup (k.map kV)) ∧ H2 s.heap.objs.size = some (.dT []) ∧ Q (.ref s.heap.objs.size) (upd H2 s.heap.objs.size (.dT [(k, y)]))) I1
    (q _ hn)) fun ws s2 ⟨ps, H2, I2, rel, b, kk, y, ep, hb, hd, q2⟩ => ?_
  subst ep
  cases rel with
  | @cons _ w2 _ ws hw rel =>
  cases rel
  obtain ⟨w1, w2⟩ := w2
  obtain ⟨hw1, hw2⟩ := hw
  obtain rfl : w1 = Value.ref b := hw1
  obtain ⟨z, hds, xs, rel, dd⟩ := dt_of I2.hok hd
  cases rel
  refine ⟨[(kk, b, w2)], ⟨rfl, rfl, key_of I2.hok hb, True.intro⟩, dd, fun h' tk dd' hs => wpAny_pure ?_⟩
  obtain ⟨q, es, ep, hq, h2, h3, h4, _, h5⟩ := dd'
  refine ⟨.ref s.heap.objs.size, _, d_write (ob := .dT [(kk, y)]) I2 (by rw [hd]; exact True.intro) hs ⟨q, hq⟩ ⟨by show (1 : Nat) ≤ sizeLine; decide, hds, [(kk, b, w2)], .cons ⟨rfl, ?_, hw2⟩ .nil, q, es, ep, hq, h2, h3, h4, h5⟩, rfl, q2⟩
  show upd H2 _ _ b = _
  rw [upd_ne (ne_of hb hd (fun z => nomatch z))]
  exact hb
end Fz

/-! ## FzU -/
set_option Elab.async false
set_option linter.all false
set_option maxRecDepth 100000
set_option maxHeartbeats 2000000
set_option autoImplicit false
/-! FzU: owned dicts (keys tuples of ints, values ints). -/
namespace Fz
open PySem L2
abbrev Tab := List (List Int × Int)
def keyK (k : List Int) : List Key := k.map Sum.inl
def tabV (t : Tab) : List (List Key × V) := t.map fun x => (keyK x.1, V.int x.2)
def tupD (k : List Int) : PyData := .tuple (k.map PyData.int)
def getT (t : Tab) (k : List Int) : Option Int := (t.find? fun x => decide (x.1 = k)).map (·.2)
def putT (t : Tab) (k : List Int) (z : Int) : Tab := if (t.any fun x => decide (x.1 = k)) = true then t.map fun x => if x.1 = k then (x.1, z) else x else t ++ [(k, z)]
theorem keyK_inj : ∀ {a b : List Int}, keyK a = keyK b → a = b
  | [], [], _ => rfl
  | [], _ :: _, h => by cases h
  | _ :: _, [], h => by cases h
  | a :: as, b :: bs, h => by
    unfold keyK at h
    rw [List.map_cons, List.map_cons] at h
    injection h with h1 h2
    rw [Sum.inl.inj h1, keyK_inj h2]
theorem keyK_dec (a b : List Int) : decide (keyK a = keyK b) = decide (a = b) := by
  by_cases h : a = b
  · subst h; simp
  · rw [decide_eq_false h, decide_eq_false fun z => h (keyK_inj z)]
theorem val_tab (k : List Int) : ∀ t : Tab, valV (tabV t) (keyK k) = (getT t k).map V.int
  | [] => rfl
  | x :: t => by
    by_cases h : x.1 = k
    · have e1 : valV (tabV (x :: t)) (keyK k) = some (.int x.2) := valV_pos (by show keyK x.1 = keyK k; rw [h])
      have e2 : getT (x :: t) k = some x.2 := by unfold getT; rw [List.find?_cons, decide_eq_true h]; rfl
      rw [e1, e2]; rfl
    · have e1 : valV (tabV (x :: t)) (keyK k) = valV (tabV t) (keyK k) := valV_neg fun z => h (keyK_inj z)
      have e2 : getT (x :: t) k = getT t k := by unfold getT; rw [List.find?_cons, decide_eq_false h]
      rw [e1, e2]; exact val_tab k t
theorem any_tab (k : List Int) : ∀ t : Tab, ((tabV t).any fun kv => decide (kv.1 = keyK k)) = t.any fun x => decide (x.1 = k)
  | [] => rfl
  | x :: t => by
    show (decide (keyK x.1 = keyK k) || (tabV t).any fun kv => decide (kv.1 = keyK k)) = (decide (x.1 = k) || t.any fun x => decide (x.1 = k))
    rw [any_tab k t, keyK_dec]
theorem put_tab (t : Tab) (k : List Int) (z : Int) : putK (tabV t) (keyK k) (.int z) = tabV (putT t k z) := by
  unfold putK putT
  rw [any_tab]
  split
  · unfold tabV
    rw [List.map_map, List.map_map]
    refine List.map_congr_left fun x _ => ?_
    show (if keyK x.1 = keyK k then (keyK x.1, V.int z) else (keyK x.1, V.int x.2)) = (keyK (if x.1 = k then (x.1, z) else x).1, V.int (if x.1 = k then (x.1, z) else x).2)
    by_cases h : x.1 = k
    · rw [if_pos (by rw [h]), if_pos h]
    · rw [if_neg fun e => h (keyK_inj e), if_neg h]
  · unfold tabV
    rw [List.map_append]; rfl
theorem keyV_of {K : PySem.W.Frag} {F : Hp} {vs : List V} {k : List Int} (h : DqAll K F vs (k.map PyData.int)) : vs = (keyK k).map kV := by
  rw [dpa_int_inv h]
  unfold keyK
  rw [List.map_map]; rfl
theorem keyV_dp {K : PySem.W.Frag} {F : Hp} (k : List Int) : DqAll K F ((keyK k).map kV) (k.map PyData.int) := by
  have e : (keyK k).map kV = k.map V.int := by unfold keyK; rw [List.map_map]; rfl
  rw [e]; exact dpa_ints k
section
variable {B : Bg} {ε ε' : Eps} {L L' La Lb Lc : Own} {te ta tb td ty tx tv : TE} {a : AD} {D : Ends} {tas : TA} {ts tc : TS} {g : TG} {p : Addr} {t : Tab} {kk : Nat}
def dT (t : Tab) : HO := .dT (tabV t)
theorem tab_key {F : Hp} {v : V} {k : List Int} (h : (AD.d (tupD k)).ok B.K F v) : ∃ b, v = .ref b ∧ F b = some (.tup ((keyK k).map kV)) := by
  obtain ⟨b, vs, e, h1, h2⟩ := tup_inv h
  rw [keyV_of h2] at h1
  exact ⟨b, e, h1⟩
theorem Rep.tab {F : Hp} {σ : St} {H : Hp} {o : HO} (r : Rep B ε L F σ H) (hk : L[kk]? = some (.raw p o)) : H p = some o := (r.own _ (List.mem_of_getElem? hk)).1
/-- a tuple that stands in the heap is known -/
theorem Rep.adopt {F : Hp} {σ : St} {H : Hp} (r : Rep B ε L F σ H) {q : Addr} {xs : List V} (h : H q = some (.tup xs)) : ∃ F', Sub F F' ∧ F' q = some (.tup xs) ∧ Rep B ε L F' σ H := by
  cases e : F q with
  | some o =>
    have := r.sub q o e
    rw [h] at this; cases this
    exact ⟨F, Sub.rfl' F, e, r⟩
  | none =>
    have sF : Sub F (upd F q (.tup xs)) := sub_fresh e
    refine ⟨upd F q (.tup xs), sF, upd_same, fun a o z => ?_, fun m hm => (r.own m hm).subF sF, fun x hx => ?_, r.nd, fun k x z => ?_, r.len, r.f0.tr sF, r.h0, fun a g1 g2 => ?_, r.mm⟩
    · by_cases c : a = q
      · subst c; rw [upd_same] at z; cases z; exact h
      · rw [upd_ne c] at z; exact r.sub a o z
    · have ne : x ≠ q := fun c => r.noT hx (c ▸ h)
      exact ⟨by rw [upd_ne ne]; exact (r.off x hx).1, (r.off x hx).2⟩
    · obtain ⟨s, q1, q2⟩ := r.sl k x z
      exact ⟨s, q1, q2.sub sF⟩
    · by_cases c : a = q
      · subst c
        by_cases hm : a ∈ B.M
        · exact absurd h fun h => r.noT (r.mm a hm) h
        · cases e0 : B.H0 a with
          | none => exact absurd e0 g2
          | some o =>
            have := r.h0 a o hm e0
            rw [h] at this; cases this
            exact .inr ⟨xs, rfl⟩
      · rw [upd_ne c]; exact r.nc a g1 g2
/-- a new object, owned -/
def EXr (B : Bg) (te : TE) (ε : Eps) (L : Own) (o : HO) (L' : Own) : Prop := ∀ F σ H, Rep B ε L F σ H → ∀ Q : VK, (∀ p F' H', Sub F F' → p ∉ B.M → Rep B ε (.raw p o :: L') F' σ H' → Q (.ref p) H') → te σ H Q
theorem noT_dT {t : List (List Key × V)} : ∀ xs, HO.dT t ≠ .tup xs := fun _ z => nomatch z
theorem exr_newT : EXr B tDNewT ε L (.dT (tabV [])) L := fun F σ H r Q q => fun p hp => q p F _ (Sub.rfl' F) (r.newM hp) (r.alloc hp rfl ⟨upd_same, noT_dT⟩)
theorem x_setR {i : Nat} {o : HO} (h : EXr B te ε L o La) (k : ∀ p, p ∉ B.M → Ho B D.nx (ε.set i (some (.v (.ref p)))) (.raw p o :: La)) : Ho B (tAsg te (gName i) D) ε L := fun F σ H r =>
  h F σ H r _ fun p F1 H1 _ hp r1 => k p hp F1 _ H1 (r1.slot (a := .v (.ref p)) rfl)
theorem x_parR {i j : Nat} {o : HO} (h : EXr B ta ε L o La) (h2 : ∀ p, EX B tb ε (.raw p o :: La) a (.raw p o :: Lb)) (k : ∀ p, p ∉ B.M → Ho B D.nx ((ε.set i (some (.v (.ref p)))).set j (some a)) (.raw p o :: Lb)) : Ho B (tPar i j (tCons ta (tCons tb tNil)) D) ε L := fun F σ H r =>
  h F σ H r _ fun p F1 H1 s1 hp r1 => h2 p F1 σ H1 r1 _ fun v F2 H2 s2 r2 o2 => ⟨.ref p, v, rfl, k p hp F2 _ H2 ((r2.slot (a := .v (.ref p)) rfl).slot o2)⟩
theorem exr_disp {k : List Int} {z : Int} (hk : ∀ p, EX B ty ε (.raw p (.dT []) :: L) (.d (tupD k)) (.raw p (.dT []) :: La)) (hv : ∀ p, EX B tv ε (.raw p (.dT []) :: La) (.d (.int z)) (.raw p (.dT []) :: Lb)) : EXr B (tDispT ty tv) ε L (.dT (tabV [(k, z)])) Lb := fun F σ H r Q q => fun p hp =>
  hk p F σ _ (r.alloc hp rfl ⟨upd_same, noT_dT⟩) _ fun v F1 H1 s1 r1 o1 => hv p F1 σ H1 r1 _ fun w F2 H2 s2 r2 o2 => by
    obtain ⟨b, rfl, hb⟩ := tab_key o1
    have ew : w = .int z := int_inv o2
    subst ew
    have hp2 := r2.tab (kk := 0) rfl
    refine ⟨b, keyK k, .int z, rfl, r2.sub _ _ (s2 _ _ hb), hp2, q p F2 _ (s1.tr s2) (r.newM hp) ?_⟩
    exact r2.chg (k := 0) (m' := .raw p (.dT (tabV [(k, z)]))) rfl rfl ⟨upd_same, noT_dT⟩ fun a o hq e => lst_ne hq e
theorem ex_dget2 {k : List Int} {z : Int} (hd : EX B td ε L (.v (.ref p)) La) (hy : EX B ty ε La (.d (tupD k)) Lb) (hx : EX B tx ε Lb (.d (.int z)) Lc) (hka : ∃ (j : Nat) (kvs : _), La[j]? = some (.raw p (.dT kvs))) (hk : Lc[kk]? = some (.raw p (.dT (tabV t)))) : EX B (tDGet2 td ty tx) ε L (.d (.int ((getT t k).getD z))) Lc := fun F σ H r Q q =>
  hd F σ H r _ fun v F1 H1 s1 r1 o1 => by
    have ev : v = .ref p := o1
    subst ev
    obtain ⟨j, kvs, hj⟩ := hka
    refine ⟨p, rfl, .inr ⟨kvs, .inl (r1.tab hj)⟩, hy F1 σ H1 r1 _ fun w F2 H2 s2 r2 o2 => hx F2 σ H2 r2 _ fun u F3 H3 s3 r3 o3 => ?_⟩
    obtain ⟨b, rfl, hb⟩ := tab_key o2
    have eu : u = .int z := int_inv o3
    subst eu
    refine ⟨valV (tabV t) (keyK k), DGet.t (r3.tab hk) (r3.sub _ _ (s3 _ _ hb)), ?_⟩
    have e : (valV (tabV t) (keyK k)).getD (.int z) = .int ((getT t k).getD z) := by
      rw [val_tab]; cases getT t k <;> rfl
    rw [e]
    exact q _ F3 H3 ((s1.tr s2).tr s3) r3 (.int _)
/-- d[k], the dict at hand or locked -/
theorem ex_dget {k : List Int} {z : Int} (hd : EX B td ε L (.v (.ref p)) La) (hy : EX B ty ε La (.d (tupD k)) Lb) (hk : Lb[kk]? = some (.raw p (.dT (tabV t))) ∨ ∃ od, Lb[kk]? = some (.raw p (.frz od (.dT (tabV t))))) (hz : getT t k = some z) : EX B (tDGet td ty) ε L (.d (.int z)) Lb := fun F σ H r Q q =>
  hd F σ H r _ fun v F1 H1 s1 r1 o1 => hy F1 σ H1 r1 _ fun w F2 H2 s2 r2 o2 => by
    have ev : v = .ref p := o1
    subst ev
    obtain ⟨b, rfl, hb⟩ := tab_key o2
    have rd : Rd H2 p (.dT (tabV t)) := by
      rcases hk with h | ⟨od, h⟩
      · exact .inl (r2.tab h)
      · exact .inr ⟨od, r2.tab h⟩
    refine ⟨p, .int z, rfl, .inr ⟨tabV t, keyK k, b, rd, rfl, r2.sub _ _ hb, ?_⟩, q _ F2 H2 (s1.tr s2) r2 (.int _)⟩
    rw [val_tab, hz]; rfl
theorem x_dput {k : List Int} {z : Int} (hv : EX B tv ε L (.d (.int z)) La) (hd : EX B td ε La (.v (.ref p)) Lb) (hy : EX B ty ε Lb (.d (tupD k)) Lc) (hk : Lc[kk]? = some (.raw p (.dT (tabV t)))) (hl : t.length < 100000)
    (q : Ho B D.nx ε (Lc.set kk (.raw p (.dT (tabV (putT t k z)))))) : Ho B (sDPut td ty tv D) ε L := fun F σ H r =>
  hv F σ H r _ fun u F1 H1 s1 r1 o1 => hd F1 σ H1 r1 _ fun v F2 H2 s2 r2 o2 => hy F2 σ H2 r2 _ fun w F3 H3 s3 r3 o3 => by
    have eu : u = .int z := int_inv o1
    have ev : v = .ref p := o2
    subst eu ev
    obtain ⟨b, rfl, hb⟩ := tab_key o3
    have hl' : (tabV t).length < sizeLine := Evl.sz_lt (by unfold tabV; rw [List.length_map]; exact hl)
    refine ⟨p, _, rfl, DPut.t (r3.tab hk) (r3.sub _ _ hb) hl', ?_⟩
    rw [put_tab]
    exact q F3 σ _ (r3.chg (m' := .raw p (.dT (tabV (putT t k z)))) hk rfl ⟨upd_same, noT_dT⟩ fun a o hq e => lst_ne hq e)
/-- for k in d, the dict locked -/
theorem x_forD (hk : L[kk]? = some (.raw p (.dT (tabV t)))) (h : ∀ od, EX B te ε (L.set kk (.raw p (.frz od (.dT (tabV t))))) (.v (.ref p)) (L.set kk (.raw p (.frz od (.dT (tabV t))))))
    (I : Obj → Nat → Eps → Own → Prop) (h0 : ∀ od, I od 0 ε (L.set kk (.raw p (.frz od (.dT (tabV t)))))) (hl : ∀ od i ε' L', I od i ε' L' → L'[kk]? = some (.raw p (.frz od (.dT (tabV t)))))
    (hs : ∀ od i k z ε' L', t[i]? = some (k, z) → I od i ε' L' → ∃ ε'', GT B g (.d (tupD k)) ε' ε'' ∧ ∀ D' : Ends, D'.nx = AbsP B (I od (i + 1)) → Ho B (tc D') ε'' L')
    (hd : ∀ od ε' L', I od t.length ε' L' → Ho B D.nx ε' (L'.set kk (.raw p (.dT (tabV t))))) : Ho B (tLock (tFor (iKeys te) g tc) D) ε L := fun F σ H r => by
  refine ⟨p, .dT (tabV t), r.tab hk, True.intro, fun od => ?_⟩
  have r0 : Rep B ε (L.set kk (.raw p (.frz od (.dT (tabV t))))) F σ (upd H p (.frz od (.dT (tabV t)))) := r.chg (m' := .raw p (.frz od (.dT (tabV t)))) hk rfl ⟨upd_same, fun _ z => nomatch z⟩ fun a o hq e => lst_ne hq e
  refine h od F σ _ r0 _ fun v F1 H1 s1 r1 o1 => ?_
  have ev : v = .ref p := o1
  subst ev
  refine ⟨p, od, rfl, .inr ⟨tabV t, r1.tab (hl _ _ _ _ (h0 od)), ?_⟩⟩
  refine ⟨fun i m σ' H' => m = t.length - i ∧ i ≤ t.length ∧ AbsP B (I od i) σ' H', ⟨_, rfl, Nat.zero_le _, ε, _, F1, h0 od, r1⟩, ?_⟩
  rintro i m σ' H' ⟨rfl, hi, ε', L', F', hI, r'⟩
  have hp' := r'.tab (hl _ _ _ _ hI)
  have tl : (tabV t).length = t.length := by unfold tabV; rw [List.length_map]
  by_cases hlt : i < t.length
  · obtain ⟨x, hx⟩ : ∃ x, t[i]? = some x := ⟨_, List.getElem?_eq_getElem hlt⟩
    obtain ⟨k, z⟩ := x
    obtain ⟨ε'', hg, hb⟩ := hs od i k z ε' L' hx hI
    refine .inr ⟨⟨hp', by rw [tl]; exact hlt⟩, AbsP B (I od (i + 1)), fun σ2 H2 hN => ⟨t.length - (i + 1), by omega, rfl, hlt, hN⟩, fun x H2 hy => ?_⟩
    obtain ⟨rfl, k', v', b, e1, rfl, hb'⟩ := hy
    have e2 : (tabV t)[i]? = some (keyK k, .int z) := by unfold tabV; rw [List.getElem?_map, hx]; rfl
    rw [e2] at e1
    cases e1
    obtain ⟨F2, s2, f2, r2⟩ := r'.adopt hb'
    exact hg L' F2 σ' _ _ r2 (.tup f2 (keyV_dp k)) _ fun σ3 r3 => hb _ rfl F2 σ3 _ r3
  · have ei : i = t.length := by omega
    subst ei
    refine .inl ⟨⟨hp', by rw [tl]; exact Nat.le_refl _⟩, hp', ?_⟩
    exact hd od _ _ hI F' σ' _ (r'.chg (m' := .raw p (.dT (tabV t))) (hl _ _ _ _ hI) rfl ⟨upd_same, noT_dT⟩ fun a o hq e => lst_ne hq e)
/-- sum(xs, ()) -/
theorem tups_of {K : PySem.W.Frag} {F : Hp} : ∀ {zs : List (List Int)} {vs : List V}, DqAll K F vs (zs.map tupD) → ∃ ps : List Addr, vs = ps.map V.ref ∧ Paired (fun p z => F p = some (.tup z)) ps (zs.map fun z => (keyK z).map kV)
  | [], _, h => by cases h; exact ⟨[], rfl, .nil⟩
  | z :: zs, _, h => by
    cases h with
    | cons a b =>
      cases a with
      | tup a1 a2 =>
        obtain ⟨ps, rfl, h2⟩ := tups_of b
        rw [keyV_of a2] at a1
        exact ⟨_ :: ps, rfl, .cons a1 h2⟩
theorem flat_keys : ∀ zs : List (List Int), (zs.map fun z => (keyK z).map kV).flatten = (keyK zs.flatten).map kV
  | [] => rfl
  | z :: zs => by
    rw [List.map_cons, List.flatten_cons, flat_keys zs, List.flatten_cons]
    unfold keyK
    rw [List.map_append, List.map_append]
theorem ex_sumT {zs : List (List Int)} {x : AD} (h : EX B te ε L x La) (h2 : EX B ta ε La (.d (.tuple [])) Lb) (hx : IsL Lb x (zs.map tupD)) (hz : zs.flatten.length ≤ 100000) : EX B (tCB (rSumT B.K) (tCons te (tCons ta tNil))) ε L (.d (tupD zs.flatten)) Lb := fun F σ H r Q q =>
  h F σ H r _ fun v F1 H1 s1 r1 o1 => h2 F1 σ H1 r1 _ fun w F2 H2 s2 r2 o2 => by
    obtain ⟨pl, vs, rfl, g1, g2⟩ := hx.get r2 (o1.sub s2)
    obtain ⟨s0, ws, rfl, g3, g4⟩ := tup_inv o2
    cases g4
    obtain ⟨ps, rfl, g5⟩ := tups_of g2
    refine ⟨pl, s0, ps, _, rfl, g1, r2.sub _ _ g3, Paired.mapP g5 fun a b e => r2.sub _ _ e, ?_, fun p H' sH hp => ?_⟩
    · rw [flat_keys]; unfold keyK; rw [List.length_map, List.length_map]; exact Evl.sz_of hz
    · rw [flat_keys] at hp
      obtain ⟨F3, s3, f3, r3⟩ := (r2.heap sH).adopt hp
      exact q _ F3 H' ((s1.tr s2).tr s3) r3 (.tup f3 (keyV_dp _))
/-- t * n of a tuple of one -/
theorem ex_rep1 {ds : List PyData} {n : Int} (ha : EX B ta ε L (.d (.tuple ds)) La) (hb : EX B tb ε La (.d (.int n)) Lb) (hne : ds ≠ []) (hl : ds.length ≤ 1000) (hn : 1 ≤ n ∧ n ≤ 1000) : EX B (tOp (rRepT1 B.K) ta tb) ε L (.d (.tuple (List.replicate n.toNat ds).flatten)) Lb := ex_op ha hb fun F σ H v w rp hv hw Q q => by
  obtain ⟨p, vs, rfl, h1, h2⟩ := tup_inv hv
  have hne' : vs ≠ [] := fun e => by
    have := dpa_len h2
    rw [e] at this
    exact hne (List.eq_nil_of_length_eq_zero this.symm)
  refine ⟨p, n, vs, rfl, int_inv hw, tq_sub rp.sub h1, hne', ?_⟩
  by_cases c : n = 1
  · subst c
    refine .inl ⟨rfl, q _ F H (Sub.rfl' F) rp (.tup h1 ?_)⟩
    have e : (List.replicate (1 : Int).toNat ds).flatten = ds := by simp
    rw [e]; exact h2
  · refine .inr ⟨by omega, hn.2, by rw [dpa_len h2]; exact hl, fun n' hn' => ?_⟩
    have hF := sub_none rp.sub hn'
    refine q _ _ _ (sub_fresh hF) (rp.grow hn') (.tup upd_same (dpa_sub (sub_fresh hF) ?_))
    have : ∀ m : Nat, DqAll B.K F (List.replicate m vs).flatten (List.replicate m ds).flatten := fun m => by
      induction m with
      | zero => exact .nil
      | succ m ih => rw [List.replicate_succ, List.replicate_succ, List.flatten_cons, List.flatten_cons]; exact dpa_app h2 ih
    exact this _
/-! #### a def that makes a dict of a dict -/
def spTab (K : PySem.W.Frag) (R : Tab → Int → Int → Tab → Prop) : Sp := fun vs H Q _ => ∃ (p : Addr) (t : Tab) (n m : Int) (u : Tab), vs = [.ref p, .int n, .int m] ∧ H p = some (.dT (tabV t)) ∧ R t n m u ∧
  ∀ pf H', Sub H H' → H pf = none → H' pf = some (.dT (tabV u)) → Q (.ref pf) H'
theorem Rep.madeR {F : Hp} {σ : St} {H H' : Hp} {pf : Addr} {o : HO} (r : Rep B ε L F σ H) (s : Sub H H') (h1 : H pf = none) (h2 : H' pf = some o) (h3 : ∀ xs, o ≠ .tup xs) : Rep B ε (.raw pf o :: L) F σ H' := by
  have ra := r.alloc (m := .raw pf o) h1 rfl ⟨upd_same, h3⟩
  refine ra.heap fun a u e => ?_
  by_cases c : a = pf
  · subst c; rw [upd_same] at e; cases e; exact h2
  · rw [upd_ne c] at e; exact s a u e
theorem exr_call {R : Tab → Int → Int → Tab → Prop} {E : XK} {n m : Int} {u : Tab} (h : EA B tas ε L [.v (.ref p), .d (.int n), .d (.int m)] La) (hk : La[kk]? = some (.raw p (.dT (tabV t)))) (hR : R t n m u) : EXr B (tCall (spTab B.K R) [] E tas) ε L (.dT (tabV u)) La := fun F σ H r Q q =>
  h F σ H r _ fun vs F1 H1 s1 r1 o1 => by
    match vs, o1 with
    | [v, w, x], o =>
      have e1 : v = .ref p := o.1
      have e2 : w = .int n := int_inv o.2.1
      have e3 : x = .int m := int_inv o.2.2.1
      subst e1 e2 e3
      exact ⟨p, t, n, m, u, rfl, r1.tab hk, hR, fun pf H' s h1 h2 => q pf F1 H' s1 (r1.newM h1) (r1.madeR s h1 h2 noT_dT)⟩
/-- the dict made for the call is forgotten -/
theorem exr_callD {R : Tab → Int → Int → Tab → Prop} {E : XK} {n m : Int} {u : Tab} {tr : TA} (hd : EXr B td ε L (.dT (tabV t)) La) (h : ∀ p, EA B tr ε (.raw p (.dT (tabV t)) :: La) [.d (.int n), .d (.int m)] (.raw p (.dT (tabV t)) :: Lb)) (hR : R t n m u) :
    EXr B (tCall (spTab B.K R) [] E (tCons td tr)) ε L (.dT (tabV u)) Lb := fun F σ H r Q q =>
  hd F σ H r _ fun p F1 H1 s1 hp r1 => h p F1 σ H1 r1 _ fun vs F2 H2 s2 r2 o2 => by
    match vs, o2 with
    | [w, x], o =>
      have e2 : w = .int n := int_inv o.1
      have e3 : x = .int m := int_inv o.2.1
      subst e2 e3
      refine ⟨p, t, n, m, u, rfl, r2.tab (kk := 0) rfl, hR, fun pf H' s h1 h2 => q pf F2 H' (s1.tr s2) (r2.newM h1) ?_⟩
      have r3 := r2.madeR s h1 h2 noT_dT
      exact r3.drop (k := 1) rfl fun x hx => by rw [List.mem_singleton.mp hx]; exact hp
theorem Rep.freeze {F : Hp} {σ : St} {H : Hp} (r : Rep B ε L F σ H) {k : Nat} {q : Addr} {ds : List PyData} (hk : L[k]? = some (.lst q ds)) (hq : q ∉ B.M) : ∃ F', Sub F F' ∧ Dq B.K F' (.ref q) (.list ds) ∧ Rep B ε (L.eraseIdx k) F' σ H := by
  obtain ⟨vs, h1, h2⟩ := r.own _ (List.mem_of_getElem? hk)
  have of := r.off q (mem_fps (List.mem_of_getElem? hk) List.mem_cons_self)
  have h0 : B.H0 q = none := of.2.resolve_left hq
  have sF : Sub F (upd F q (.lst vs)) := sub_fresh of.1
  have r2 := r.drop hk fun x hx => by rw [List.mem_singleton.mp hx]; exact hq
  have nin : ∀ x ∈ fps (L.eraseIdx k), x ≠ q := fun x hx c => by
    obtain ⟨m, hm, hx⟩ := List.mem_flatMap.mp hx
    rw [List.mem_eraseIdx_iff_getElem?] at hm
    obtain ⟨j, hj, hm⟩ := hm
    subst c
    exact fps_apart r.nd hk hm (Ne.symm hj) x List.mem_cons_self hx
  refine ⟨upd F q (.lst vs), sF, .lst upd_same (dpa_sub sF h2), fun a o z => ?_, fun m hm => (r2.own m hm).subF sF, fun x hx => ?_, r2.nd, fun j x z => ?_, r2.len, r2.f0.tr sF, r2.h0, fun a g1 g2 => ?_, r2.mm⟩
  · by_cases c : a = q
    · subst c; rw [upd_same] at z; cases z; exact h1
    · rw [upd_ne c] at z; exact r.sub a o z
  · exact ⟨by rw [upd_ne (nin x hx)]; exact (r2.off x hx).1, (r2.off x hx).2⟩
  · obtain ⟨s, q1, q2⟩ := r2.sl j x z
    exact ⟨s, q1, q2.sub sF⟩
  · have ne : a ≠ q := fun c => g2 (c ▸ h0)
    rw [upd_ne ne]; exact r2.nc a g1 g2
/-- an owned list will not change any more -/
theorem ex_frzV {i k : Nat} {q : Addr} {ds : List PyData} (h : ε[i]? = some (some (.v (.ref q)))) (hk : L[k]? = some (.lst q ds)) (hq : q ∉ B.M) : EX B (tVar i) ε L (.d (.list ds)) (L.eraseIdx k) := fun F σ H r Q p => by
  obtain ⟨s, h1, y, rfl, h2⟩ := r.sl i _ h
  obtain ⟨F', s', d', r'⟩ := r.freeze hk hq
  have ey : y = .ref q := h2
  subst ey
  exact ⟨_, h1, p _ F' H s' r' d'⟩
end
theorem hu_in {A : Around} {k : Nat} (hr : Room k A) : A.units + 1 < cLine := by have := hr.units; omega
end Fz

/-! ## FzV -/
set_option Elab.async false
set_option linter.all false
set_option maxRecDepth 100000
set_option maxHeartbeats 2000000
set_option autoImplicit false
namespace Fz
open PySem L2
theorem x_par3 {B : Bg} {ε : Eps} {L L1 : Own} {tas : TA} {D : Ends} {i j l : Nat} {a b c : AD} (h : EA B tas ε L [a, b, c] L1) (k : Ho B D.nx (((ε.set i (some a)).set j (some b)).set l (some c)) L1) : Ho B (tPar3 i j l tas D) ε L := fun F σ H r =>
  h F σ H r _ fun vs F1 H1 _ r1 o1 => by
    match vs, o1 with
    | [u, v, w], o => exact ⟨u, v, w, rfl, k F1 _ H1 (((r1.slot o.1).slot o.2.1).slot o.2.2.1)⟩
end Fz

/-! ## FzW -/
set_option Elab.async false
set_option linter.all false
set_option maxRecDepth 100000
set_option maxHeartbeats 2000000
set_option autoImplicit false
/-! FzW: the head, where nothing is under way and nobody sees the audit. -/
namespace Fz
open PySem L2 PySem.Spec PyProof.Rows
/-- what is tracked is a list -/
def AllLists (h : Heap) (H : Hp) : Prop := ∀ b u, H b = some u → ∃ its, h.get? b = some { cls := .type "list", data := .seq its }
section
variable {h : Heap} {H : Hp}
theorem AllLists.off (t : AllLists h H) {b : Addr} {o : Obj} (e : h.get? b = some o) (no : o.cls = .type "list" → ∀ its n, o.data = .seq its n → False) : (hidT h H).get? b = some o := by
  refine hidT_get e ?_
  match hb : H b with
  | none => rfl
  | some u =>
    obtain ⟨its, e2⟩ := t b u hb
    cases e.symm.trans e2
    exact (no rfl _ _ rfl).elim
theorem AllLists.ns (t : AllLists h H) {b : Addr} {m : Str → Option Value} (x : h.Ns b m) : (hidT h H).Ns b m := by
  obtain ⟨o, es, ep, e, d, rest⟩ := x
  exact ⟨o, es, ep, t.off e (fun _ its n z => by rw [d] at z; cases z), d, rest⟩
theorem AllLists.seer (t : AllLists h H) (x : h.NoSeer) : (hidT h H).NoSeer := by
  obtain ⟨⟨m1, p1, q1⟩, ⟨m2, p2, q2⟩, ⟨m3, p3, q3⟩, ⟨m4, bm, ob, p4, q4, g, c, dd⟩⟩ := x
  exact ⟨⟨m1, t.ns p1, q1⟩, ⟨m2, t.ns p2, q2⟩, ⟨m3, t.ns p3, q3⟩, ⟨m4, bm, ob, t.ns p4, q4, t.off g fun z => absurd (Value.type.inj (c.symm.trans z)) (by decide), c, dd⟩⟩
end
/-- the caller's end: what a run of the law's def leaves -/
def Done (s₁ : Shared) (r : Result) (s' : Shared) : Prop := r = .ok (.ret (.bool true)) ∧ OldK s₁.heap s'.heap ∧ s'.os = s₁.os ∧ AllBare s'.gens
section
variable {P : Program} {w : World} {K : PySem.W.Frag} {mg mb : Str → Option Value} {k : Nat} {fa a : Addr} {fd : FuncData} {x : Str} {sp : Sp} {s₁ : Shared}
/-- from a heap in which lists alone are tracked, each known to its object -/
theorem run_G {H : Hp} (inK : K.In s₁.heap) (top : s₁.heap.Ns mainGlobals mg) (blt : s₁.heap.Ns builtinsNs mb) (bltB : ∀ y : Str, y ≠ "__name__" → mb y = bootBuiltins y) (lim : s₁.heap.NoLimit) (seer : s₁.heap.NoSeer) (bare : s₁.gens = #[]) (room : Room k callerA)
    (tl : AllLists s₁.heap H) (out : ∀ b, H b ≠ none → K.lookup b = none) (known : Only H) (good : HOk P w H s₁.heap)
    (F : ∀ base : Heap, K.In base → base.Ns mainGlobals mg → base.NoSeer → GOk P w K mg base k fa fd [x] sp) (bind : BindsTo s₁ fd ⟨[.ref a], []⟩ [(x, .ref a)]) (say : sp [.ref a] H (fun v _ => v = .bl true) E0) :
    codeAny (model P w) callerA (.call (.ref fa) ⟨[.ref a], []⟩) (Done s₁) s₁ := by
  have inH : K.In (hidT s₁.heap H) := fun b o e => hidT_get (inK b o e) (by
    match hb : H b with
    | none => rfl
    | some u => rw [out b (by rw [hb]; exact Option.some_ne_none u)] at e; cases e)
  have limH : (hidT s₁.heap H).NoLimit := by
    obtain ⟨m, p, q⟩ := lim
    exact ⟨m, tl.ns p, q⟩
  have env : Env0 P w K mg (hidT s₁.heap H) callerA [] s₁ H :=
    { frames := rfl, mod := ⟨inH, tl.ns top, ⟨mb, tl.ns blt, bltB⟩, limH⟩, bs := fun b o e => of_hidT e, bsz := by rw [hidT_size]; exact Nat.le_refl _, funs := trivial, frf := (fun b hb => nomatch hb), hok := good, bare := .of_eq bare }
  refine codeAny_mono ((F _ inH (tl.ns top) (tl.seer seer)).run callerA [] s₁ H ⟨[.ref a], []⟩ [.ref a] [.ref a] _ room rfl env bind (.cons rfl .nil) say) fun r s' h => ?_
  match r, h with
  | .ok (.ret u), ⟨v, H', h1, h2, h3, h4, h5, h6⟩ =>
    cases (show v = .bl true from h6)
    cases (show u = Value.bool true from h5)
    refine ⟨rfl, .of_keep fun b o e => ?_, h1, h2⟩
    match hb : H b, known b with
    | none, _ => exact h3.keep b o e hb (fun z => nomatch z) (fun z => nomatch z)
    | some u, .inl z => cases z
    | some u, .inr ⟨ob, xs, z⟩ =>
      have z2 : H b = some (.frz ob (.lst xs)) := hb.trans z
      have now := (h4 b _ (h3.frzs b ob _ z2)).1
      have old := (good b _ z2).1
      rw [e] at old; cases old
      exact now
  | .error _, h => exact False.elim h
  | .ok .next, h => exact False.elim h
  | .ok .brk, h => exact False.elim h
  | .ok .cont, h => exact False.elim h
/-- the script at a: one of the module's own lists, or known to its object -/
theorem call_G {vs : List Value} {ns : List Int} (inK : K.In s₁.heap) (top : s₁.heap.Ns mainGlobals mg) (blt : s₁.heap.Ns builtinsNs mb) (bltB : ∀ y : Str, y ≠ "__name__" → mb y = bootBuiltins y) (lim : s₁.heap.NoLimit) (seer : s₁.heap.NoSeer) (bare : s₁.gens = #[]) (room : Room k callerA)
    (at' : s₁.heap.get? a = some { cls := .type "list", data := .seq vs.toArray }) (areI : IntsAre vs ns) (few : ns.length ≤ sizeLine)
    (F : ∀ base : Heap, K.In base → base.Ns mainGlobals mg → base.NoSeer → GOk P w K mg base k fa fd [x] sp) (bind : ∀ (s : Shared) (u : Value), BindsTo s fd ⟨[u], []⟩ [(x, u)])
    (say : ∀ H : Hp, Only H → SqL K H a (ns.map V.int) → sp [.ref a] H (fun v _ => v = .bl true) E0) : codeAny (model P w) callerA (.call (.ref fa) ⟨[.ref a], []⟩) (Done s₁) s₁ := by
  have rel := L2.vals_ints areI
  have len := areI.length
  match hk : K.lookup a with
  | some o =>
    cases at'.symm.trans (inK a o hk)
    have none0 : ∀ b u, (fun _ => none : Hp) b = some u → False := fun b u z => by cases z
    exact run_G inK top blt bltB lim seer bare room (H := fun _ => none) (fun b u z => (none0 b u z).elim) (fun b z => absurd rfl z) (fun b => .inl rfl) (fun b u z => (none0 b u z).elim) F (bind _ _)
      (say _ (fun b => .inl rfl) (.inr ⟨_, vs.toArray, _, hk, rfl, rfl, rfl, by rw [List.size_toArray, len]; exact few, by simpa using rel⟩))
  | none =>
    let Ha : Hp := upd (fun _ => none) a (.frz { cls := .type "list", data := .seq vs.toArray } (.lst (ns.map V.int)))
    have cas : ∀ b u, Ha b = some u → b = a ∧ u = .frz { cls := .type "list", data := .seq vs.toArray } (.lst (ns.map V.int)) := fun b u z => by
      by_cases c : b = a
      · subst c
        rw [show Ha b = _ from upd_same] at z
        exact ⟨rfl, (Option.some.inj z).symm⟩
      · rw [show Ha b = none from upd_ne c] at z; cases z
    have onl : Only Ha := fun b => by
      match hb : Ha b with
      | none => exact .inl rfl
      | some u => exact .inr ⟨_, _, by rw [(cas b u hb).2]⟩
    refine run_G inK top blt bltB lim seer bare room (H := Ha) (fun b u z => ?_) (fun b z => ?_) onl (fun b u z => ?_) F (bind _ _) (say _ onl (.inl (.inr ⟨_, upd_same⟩)))
    · rw [(cas b u z).1]; exact ⟨_, at'⟩
    · match hb : Ha b with
      | none => exact absurd hb z
      | some u => rw [(cas b u hb).1]; exact hk
    · obtain ⟨rfl, rfl⟩ := cas b u z
      exact ⟨at', by rw [List.length_map]; exact few, vs, _, rel, at'⟩
end
/-- the walk's head for a def that may show what it has -/
theorem walk_ofG {l : PySem.W.OpenLaw} {n k : Nat} {p : Program} {free : List Str} {XP : (Str → Option Value) → Heap → Prop} {YP : World → Heap → Prop} {d : DefRec} {K : Params → PySem.W.Frag} {sp : World → Sp} {x : Str}
    (most : l.most = some n) (few : n ≤ sizeLine) (plain : d.params.defaults = []) (room : Room k callerA) (him : importsNone p = true) (inK : ∀ (w : World) (h : Heap), YP w h → (K w.params).In h)
    (F : ∀ (w : World) (mg : Str → Option Value) (fa : Addr) (h : Heap), (K w.params).In h → h.Ns mainGlobals mg → mg d.name = some (.ref fa) → ∃ fd : FuncData, (∀ (s : Shared) (u : Value), BindsTo s fd ⟨[u], []⟩ [(x, u)]) ∧
      ∀ base : Heap, (K w.params).In base → base.Ns mainGlobals mg → base.NoSeer → GOk l.prog w (K w.params) mg base k fa fd [x] (sp w))
    (say : ∀ (w : World) (H : Hp) (a : Addr) (ns : List Int), ns.length ≤ n → Only H → SqL (K w.params) H a (ns.map V.int) → sp w [.ref a] H (fun v _ => v = .bl true) E0) : PySem.W.WalkO p free XP YP l.row.toRowW d [] (fun f us => PySem.call f us) :=
  Att.attach_call most plain fun w _ s₁ mg mb fa o pm cd doc a vs ns G Y ho hd hcd hmg hobj hints hlen hg => by
    obtain ⟨fd, bind, made⟩ := F w mg fa _ (inK w _ Y) G.T.g hmg
    exact call_G (inK w _ Y) G.T.g G.T.b G.T.builtins G.T.nolimit (G.T.seer him) hg room hobj hints (Nat.le_trans hlen few) made bind fun H o1 o2 => say w H a ns hlen o1 o2
/-! ### the bag, made -/
section
variable {B : Bg} {ε : Eps} {L La : Own} {te : TE} {D : Ends}
theorem Rep.allocB {F : Hp} {σ : L2.St} {H H' : Hp} {pb pc : Addr} {b : Bag} (r : Rep B ε L F σ H) (s : Sub H H') (h1 : H pb = none) (h2 : H pc = none) (ne : pb ≠ pc) (hb : BagAt H' pb pc b.cells b.cur b.mix) : Rep B ε (b.at pb pc :: L) F σ H' := by
  have r1 := r.heap s
  have e1 : fps (b.at pb pc :: L) = pb :: pc :: fps L := rfl
  refine ⟨r1.sub, fun m hm => ?_, fun p hp => ?_, ?_, r1.sl, r1.len, r1.f0, r1.h0, r1.nc, fun p hp => ?_⟩
  · rcases List.mem_cons.mp hm with e | e
    · rw [e]; exact hb
    · exact r1.own m e
  · rw [e1] at hp
    rcases List.mem_cons.mp hp with e | hp
    · rw [e]; exact ⟨sub_none r.sub h1, .inr (r.newH h1)⟩
    · rcases List.mem_cons.mp hp with e | hp
      · rw [e]; exact ⟨sub_none r.sub h2, .inr (r.newH h2)⟩
      · exact r1.off p hp
  · rw [e1]
    refine List.nodup_cons.mpr ⟨fun hm => ?_, List.nodup_cons.mpr ⟨r.new h2, r.nd⟩⟩
    rcases List.mem_cons.mp hm with e | hm
    · exact ne e
    · exact r.new h1 hm
  · rw [e1]; exact List.mem_cons_of_mem _ (List.mem_cons_of_mem _ (r1.mm p hp))
theorem x_setOwn {i k : Nat} {E : XK} {a : Addr} {ns : List Int} (h : EX B te ε L (.v (.ref a)) La) (hk : La[k]? = some (.seq a (ns.map PyData.int))) (hl : ns.length ≤ 63)
    (q : ∀ (pb pc : Addr) (b : Bag), pb ∉ B.M → pc ∉ B.M → Ho B D.nx (ε.set i (some (.v (.ref pb)))) (b.at pb pc :: La)) : Ho B (tAsg (tCall (spOwn B.K) [] E (tCons te tNil)) (gName i) D) ε L := fun F σ H r =>
  h F σ H r _ fun v F1 H1 s1 r1 o1 => by
    have ev : v = .ref a := o1
    subst ev
    obtain ⟨vs, g1, g2⟩ := r1.own _ (List.mem_of_getElem? hk)
    have e2 := dpa_int_inv g2
    subst e2
    refine ⟨a, ns, rfl, sql_sub r1.sub g1, hl, fun pb pc b H' s hb1 hb2 ne hb => ?_⟩
    exact q pb pc b (r1.newM hb1) (r1.newM hb2) F1 _ H' ((r1.allocB s hb1 hb2 ne hb).slot (a := .v (.ref pb)) rfl)
end
end Fz

/-! ## K80M -/
/-! K80M: the plain mathematics of the cards: products, binomials, counts of falls, bounds. -/
set_option autoImplicit false
set_option linter.all false
namespace K80

/-! ### sizes -/
def Bd (k : Nat) (x : Int) : Prop := x.natAbs < 2 ^ k
theorem Bd.mono {k l : Nat} {x : Int} (h : Bd k x) (e : k ≤ l) : Bd l x := Nat.lt_of_lt_of_le h (Nat.pow_le_pow_right (by decide) e)
theorem Bd.mul {k l : Nat} {x y : Int} (h : Bd k x) (h2 : Bd l y) : Bd (k + l) (x * y) := by
  unfold Bd at *
  rw [Int.natAbs_mul, Nat.pow_add]
  exact Nat.mul_lt_mul'' h h2
theorem Bd.add {k : Nat} {x y : Int} (h : Bd k x) (h2 : Bd k y) : Bd (k + 1) (x + y) := by
  unfold Bd at *
  have := Int.natAbs_add_le x y
  rw [Nat.pow_succ]
  omega
theorem Bd.sub {k : Nat} {x y : Int} (h : Bd k x) (h2 : Bd k y) : Bd (k + 1) (x - y) := by
  unfold Bd at *
  rw [Nat.pow_succ]
  omega
theorem Bd.neg {k : Nat} {x : Int} (h : Bd k x) : Bd k (-x) := by unfold Bd at *; rw [Int.natAbs_neg]; exact h
theorem Bd.abs {k : Nat} {x : Int} (h : Bd k x) : Bd k (x.natAbs : Int) := by unfold Bd at *; rw [Int.natAbs_natCast]; exact h
theorem Bd.div {k : Nat} {x y : Int} (h : Bd k x) : Bd k (x / y) := by
  unfold Bd at *
  exact Nat.lt_of_le_of_lt (Int.natAbs_ediv_le_natAbs x y) h
theorem Bd.of {k : Nat} {x : Int} {n : Nat} (h0 : -(n : Int) < x) (h : x < n) (hn : n ≤ 2 ^ k) : Bd k x := by unfold Bd; omega
theorem Bd.le {k : Nat} {x y : Int} (h : Bd k y) (h0 : 0 ≤ x) (hx : x ≤ y) : Bd k x := by unfold Bd at *; omega
theorem Bd.pow {k : Nat} {x : Int} (h : Bd k x) : ∀ n : Nat, Bd (k * n + 1) (x ^ n)
  | 0 => by unfold Bd; simp
  | n + 1 => by
    rw [Int.pow_succ]
    have := (Bd.pow h n).mul h
    exact this.mono (by rw [Nat.mul_succ]; omega)
theorem bd_zero (k : Nat) : Bd k 0 := by unfold Bd; exact Nat.two_pow_pos k
theorem bd_one (k : Nat) : Bd (k + 1) 1 := by unfold Bd; have := Nat.pow_le_pow_right (show 0 < 2 by decide) (show 1 ≤ k + 1 by omega); have e : (1 : Int).natAbs = 1 := rfl; rw [e]; omega

/-! ### factorials, rising products -/
def fac : Nat → Nat
  | 0 => 1
  | n + 1 => fac n * (n + 1)
theorem fac_succ (n : Nat) : fac (n + 1) = fac n * (n + 1) := rfl
theorem fac_pos : ∀ n, 0 < fac n
  | 0 => Nat.one_pos
  | n + 1 => Nat.mul_pos (fac_pos n) (Nat.succ_pos n)
theorem fac_bd : ∀ n : Nat, n ≤ 63 → Bd (6 * n + 1) (fac n : Int)
  | 0, _ => by unfold Bd fac; decide
  | n + 1, h => by
    have e : (fac (n + 1) : Int) = (fac n : Int) * ((n + 1 : Nat) : Int) := by rw [fac_succ, Int.natCast_mul]
    rw [e]
    have := (fac_bd n (by omega)).mul (show Bd 6 ((n + 1 : Nat) : Int) by unfold Bd; rw [Int.natAbs_natCast]; omega)
    exact this.mono (by omega)
def prodF (a : Int) : Nat → Int
  | 0 => 1
  | n + 1 => prodF a n * (a + n)
theorem prodF_bd {k : Nat} {a : Int} (h : ∀ i : Nat, i < 64 → Bd k (a + i)) : ∀ n : Nat, n ≤ 64 → Bd (k * n + 1) (prodF a n)
  | 0, _ => by unfold Bd prodF; simp
  | n + 1, hn => by
    unfold prodF
    exact ((prodF_bd h n (by omega)).mul (h n (by omega))).mono (by rw [Nat.mul_succ]; omega)
/-- how often an order comes: n cards, d falls, t piles -/
def dealtBy (t : Int) (n : Nat) (d : Int) : Int := prodF (t - d) n / (fac n : Int)
/-- binomials -/
def ch : Nat → Nat → Nat
  | _, 0 => 1
  | 0, _ + 1 => 0
  | n + 1, k + 1 => ch n k + ch n (k + 1)
theorem ch_zero : ∀ {n k : Nat}, n < k → ch n k = 0
  | _, 0, h => absurd h (Nat.not_lt_zero _)
  | 0, _ + 1, _ => rfl
  | n + 1, k + 1, h => by unfold ch; rw [ch_zero (by omega), ch_zero (by omega)]
theorem ch_n0 (n : Nat) : ch n 0 = 1 := by cases n <;> rfl
theorem ch_succ (n k : Nat) : ch (n + 1) (k + 1) = ch n k + ch n (k + 1) := by rw [ch]
/-- (k + 1) * C(n + 1, k + 1) = (n + 1) * C(n, k) -/
theorem ch_absorb : ∀ n k : Nat, ch (n + 1) (k + 1) * (k + 1) = ch n k * (n + 1)
  | 0, 0 => rfl
  | 0, k + 1 => by rw [ch_zero (show 0 + 1 < k + 1 + 1 by omega), ch_zero (show 0 < k + 1 by omega), Nat.zero_mul, Nat.zero_mul]
  | n + 1, 0 => by
    have := ch_absorb n 0
    rw [ch_n0] at this ⊢
    rw [ch_succ, ch_n0]
    have e : ch (n + 1) (0 + 1) * (0 + 1) = ch (n + 1) (0 + 1) := Nat.mul_one _
    rw [e] at this
    have e2 : (1 + ch (n + 1) (0 + 1)) * (0 + 1) = 1 + ch (n + 1) (0 + 1) := Nat.mul_one _
    omega
  | n + 1, k + 1 => by
    have h1 := ch_absorb n k
    have h2 := ch_absorb n (k + 1)
    rw [ch_succ (n + 1) (k + 1), Nat.add_mul]
    have e1 : ch (n + 1) (k + 1) * (k + 1 + 1) = ch (n + 1) (k + 1) * (k + 1) + ch (n + 1) (k + 1) := Nat.mul_succ _ _
    rw [e1, h1, h2]
    have e2 : ch (n + 1) (k + 1) = ch n k + ch n (k + 1) := ch_succ n k
    rw [e2]
    have e3 : (ch n k + ch n (k + 1)) * (n + 1 + 1) = (ch n k + ch n (k + 1)) * (n + 1) + (ch n k + ch n (k + 1)) := Nat.mul_succ _ _
    rw [e3, Nat.add_mul]
    omega
/-- (n + 1 - k) * C(n + 1, k) = (n + 1) * C(n, k) -/
theorem ch_left : ∀ n k : Nat, k ≤ n + 1 → ch (n + 1) k * (n + 1 - k) = ch n k * (n + 1)
  | n, 0, _ => by rw [ch_n0, ch_n0]; rfl
  | n, k + 1, h => by
    have h1 := ch_absorb n k
    have h3 : ch (n + 1) (k + 1) * (n + 1 - (k + 1)) + ch (n + 1) (k + 1) * (k + 1) = ch (n + 1) (k + 1) * (n + 1) := by
      rw [← Nat.mul_add]
      congr 1
      omega
    have h4 : ch (n + 1) (k + 1) * (n + 1) = ch n k * (n + 1) + ch n (k + 1) * (n + 1) := by rw [ch_succ, Nat.add_mul]
    omega
/-- for a from 1 on the rising product is fac times a binomial -/
theorem prodF_ch (a : Nat) : ∀ n : Nat, prodF ((a : Int) + 1) n = ((ch (a + n) n * fac n : Nat) : Int)
  | 0 => by unfold prodF; rw [ch_n0]; rfl
  | n + 1 => by
    unfold prodF
    rw [prodF_ch a n]
    have h := ch_absorb (a + n) n
    have e : (a : Int) + 1 + (n : Int) = ((a + n + 1 : Nat) : Int) := by omega
    rw [e, ← Int.natCast_mul]
    congr 1
    rw [fac_succ]
    have e2 : a + (n + 1) = a + n + 1 := rfl
    rw [e2]
    calc ch (a + n) n * fac n * (a + n + 1) = fac n * (ch (a + n) n * (a + n + 1)) := by rw [Nat.mul_comm (ch _ _) (fac n), Nat.mul_assoc]
      _ = fac n * (ch (a + n + 1) (n + 1) * (n + 1)) := by rw [h]
      _ = ch (a + n + 1) (n + 1) * (fac n * (n + 1)) := by rw [← Nat.mul_assoc, Nat.mul_comm (fac n), Nat.mul_assoc]
theorem prodF_zero {a : Int} : ∀ {n : Nat}, -(n : Int) < a → a ≤ 0 → prodF a n = 0
  | 0, h, h2 => by omega
  | n + 1, h, h2 => by
    unfold prodF
    by_cases e : a + n = 0
    · rw [e, Int.mul_zero]
    · rw [prodF_zero (n := n) (by omega) h2, Int.zero_mul]
theorem dealtBy_ch {t : Int} {n : Nat} {d : Int} {a : Nat} (h : t - d = (a : Int) + 1) : dealtBy t n d = (ch (a + n) n : Int) := by
  unfold dealtBy
  rw [h, prodF_ch, Int.natCast_mul]
  exact Int.mul_ediv_cancel _ (by have := fac_pos n; omega)
theorem dealtBy_zero {t : Int} {n : Nat} {d : Int} (h : -(n : Int) < t - d) (h2 : t - d ≤ 0) : dealtBy t n d = 0 := by
  unfold dealtBy
  rw [prodF_zero h h2, Int.zero_ediv]
/-- the law's own way to reckon it -/
def topF (a : Int) : Nat → Int
  | 0 => 1
  | i + 1 => topF a i * (if 0 > a + i then 0 else a + i) / ((i : Int) + 1)
theorem topF_ch (a : Nat) : ∀ n : Nat, topF ((a : Int) + 1) n = (ch (a + n) n : Int)
  | 0 => by unfold topF; rw [ch_n0]; rfl
  | n + 1 => by
    unfold topF
    rw [topF_ch a n, if_neg (by omega)]
    have h := ch_absorb (a + n) n
    have e : (ch (a + n) n : Int) * ((a : Int) + 1 + (n : Int)) = (ch (a + (n + 1)) (n + 1) : Int) * ((n : Int) + 1) := by
      have e1 : (a : Int) + 1 + (n : Int) = ((a + n + 1 : Nat) : Int) := by omega
      have e2 : (n : Int) + 1 = ((n + 1 : Nat) : Int) := by omega
      rw [e1, e2, ← Int.natCast_mul, ← Int.natCast_mul]
      congr 1
      exact h.symm
    rw [e]
    exact Int.mul_ediv_cancel _ (by omega)
theorem topF_zero {a : Int} (h : a ≤ 0) : ∀ n : Nat, topF a (n + 1) = 0
  | 0 => by
    unfold topF topF
    have e : (if (0 : Int) > a + ((0 : Nat) : Int) then (0 : Int) else a + ((0 : Nat) : Int)) = 0 := by split <;> omega
    rw [e]; rfl
  | n + 1 => by unfold topF; rw [topF_zero h n, Int.zero_mul, Int.zero_ediv]
theorem topF_dealt {t d : Int} {n : Nat} (h : n = 0 ∨ -(n : Int) < t - d) : topF (t - d) n = dealtBy t n d := by
  by_cases hp : t - d ≤ 0
  · cases n with
    | zero => unfold dealtBy topF prodF fac; rfl
    | succ n => rw [topF_zero hp, dealtBy_zero (h.resolve_left (by omega)) hp]
  · obtain ⟨a, ha⟩ : ∃ a : Nat, t - d = (a : Int) + 1 := ⟨(t - d - 1).toNat, by omega⟩
    rw [dealtBy_ch ha, ha, topF_ch]
/-- behind each other numbers of falls: the law's other way -/
theorem step_dealt {t : Int} {n d : Nat} (hn : 0 < n) (hd : d + 1 ≤ n) (ht : 0 < t) :
    dealtBy t n d * (t - 1 - d) / (if 1 < t - 1 - d + n then t - 1 - d + n else 1) = dealtBy t n ((d : Int) + 1) := by
  by_cases h0 : t - 1 - d < 0
  · rw [dealtBy_zero (by omega) (by omega), dealtBy_zero (by omega) (by omega), Int.zero_mul, Int.zero_ediv]
  · obtain ⟨a, ha⟩ : ∃ a : Nat, t - 1 - d = (a : Int) := ⟨(t - 1 - d).toNat, by omega⟩
    have e1 : t - d = (a : Int) + 1 := by omega
    rw [dealtBy_ch e1, ha]
    have em : (if 1 < (a : Int) + n then (a : Int) + n else 1) = ((a + n : Nat) : Int) := by split <;> omega
    rw [em]
    cases a with
    | zero =>
      rw [dealtBy_zero (by omega) (by omega)]
      simp
    | succ a =>
      rw [dealtBy_ch (a := a) (by omega)]
      have h := ch_left (a + n) n (by omega)
      have e2 : a + 1 + n = a + n + 1 := by omega
      have e3 : a + n + 1 - n = a + 1 := by omega
      rw [e3] at h
      rw [e2]
      have e4 : (ch (a + n + 1) n : Int) * ((a + 1 : Nat) : Int) = (ch (a + n) n : Int) * ((a + n + 1 : Nat) : Int) := by
        rw [← Int.natCast_mul, ← Int.natCast_mul, h]
      rw [e4]
      exact Int.mul_ediv_cancel _ (by omega)
end K80

/-! ## K80H -/
set_option Elab.async false
set_option linter.all false
set_option maxRecDepth 100000
set_option maxHeartbeats 4000000
set_option autoImplicit false
namespace K80
open PySem L2 Fz
def topS (i : Nat) : Stmt := PySem.Challenge.pw_cutandjoin_k80_whole_main_cards.main.body.getD i (.Pass ⟨0, 0, 0, 0⟩)
abbrev s_common_measure : Stmt := topS 2
theorem sc_common_measure : FnScope ["one", "other"] ["one", "other"] (defScope s_common_measure) := ⟨rfl, rfl, rfl, by decide +kernel, rfl, by decide +kernel, by decide +kernel⟩
abbrev s_fraction_of : Stmt := topS 3
theorem sc_fraction_of : FnScope ["top", "bottom", "common"] ["top", "bottom"] (defScope s_fraction_of) := ⟨rfl, rfl, rfl, by decide +kernel, rfl, by decide +kernel, by decide +kernel⟩
abbrev s_is_less_fraction : Stmt := topS 4
theorem sc_is_less_fraction : FnScope ["one", "other"] ["one", "other"] (defScope s_is_less_fraction) := ⟨rfl, rfl, rfl, by decide +kernel, rfl, by decide +kernel, by decide +kernel⟩
abbrev s_power_of : Stmt := topS 6
theorem sc_power_of : FnScope ["number", "times", "found", "turn"] ["number", "times"] (defScope s_power_of) := ⟨rfl, rfl, rfl, by decide +kernel, rfl, by decide +kernel, by decide +kernel⟩
abbrev s_product_to : Stmt := topS 8
theorem sc_product_to : FnScope ["many", "found", "turn"] ["many"] (defScope s_product_to) := ⟨rfl, rfl, rfl, by decide +kernel, rfl, by decide +kernel, by decide +kernel⟩
abbrev s_falls_number : Stmt := topS 10
theorem sc_falls_number : FnScope ["order", "i"] ["order"] (defScope s_falls_number) := ⟨rfl, rfl, rfl, by decide +kernel, rfl, by decide +kernel, by decide +kernel⟩
abbrev s_dealt_by : Stmt := topS 11
theorem sc_dealt_by : FnScope ["t", "n", "d", "found", "step"] ["t", "n", "d"] (defScope s_dealt_by) := ⟨rfl, rfl, rfl, by decide +kernel, rfl, by decide +kernel, by decide +kernel⟩
abbrev s_dealt_number : Stmt := topS 12
theorem sc_dealt_number : FnScope ["t", "order"] ["t", "order"] (defScope s_dealt_number) := ⟨rfl, rfl, rfl, by decide +kernel, rfl, by decide +kernel, by decide +kernel⟩
abbrev s_deal_chance : Stmt := topS 14
theorem sc_deal_chance : FnScope ["piles", "order"] ["piles", "order"] (defScope s_deal_chance) := ⟨rfl, rfl, rfl, by decide +kernel, rfl, by decide +kernel, by decide +kernel⟩
abbrev s_counts_of_falls : Stmt := topS 15
theorem sc_counts_of_falls : FnScope ["n", "row", "many", "longer", "d", "stay"] ["n"] (defScope s_counts_of_falls) := ⟨rfl, rfl, rfl, by decide +kernel, rfl, by decide +kernel, by decide +kernel⟩
abbrev s_far_from_even : Stmt := topS 16
theorem sc_far_from_even : FnScope ["n", "piles", "ways", "orders", "total", "d", "many"] ["n", "piles"] (defScope s_far_from_even) := ⟨rfl, rfl, rfl, by decide +kernel, rfl, by decide +kernel, by decide +kernel⟩
abbrev s_fewest_deals : Stmt := topS 17
theorem sc_fewest_deals : FnScope ["n", "piles", "share", "great", "many"] ["n", "piles", "share"] (defScope s_fewest_deals) := ⟨rfl, rfl, rfl, by decide +kernel, rfl, by decide +kernel, by decide +kernel⟩
abbrev s_law_own_bag : Stmt := topS 19
theorem sc_law_own_bag : FnScope ["script", "cells", "mixed", "cell"] ["script"] (defScope s_law_own_bag) := ⟨rfl, rfl, rfl, by decide +kernel, rfl, by decide +kernel, by decide +kernel⟩
abbrev s_law_draw : Stmt := topS 20
theorem sc_law_draw : FnScope ["bag", "below", "cell", "found"] ["bag", "below"] (defScope s_law_draw) := ⟨rfl, rfl, rfl, by decide +kernel, rfl, by decide +kernel, by decide +kernel⟩
abbrev s_law_pick : Stmt := topS 21
theorem sc_law_pick : FnScope ["bag", "some"] ["bag", "some"] (defScope s_law_pick) := ⟨rfl, rfl, rfl, by decide +kernel, rfl, by decide +kernel, by decide +kernel⟩
abbrev s_law_gcd : Stmt := topS 22
theorem sc_law_gcd : FnScope ["one", "other"] ["one", "other"] (defScope s_law_gcd) := ⟨rfl, rfl, rfl, by decide +kernel, rfl, by decide +kernel, by decide +kernel⟩
abbrev s_law_least : Stmt := topS 23
theorem sc_law_least : FnScope ["top", "low", "common"] ["top", "low"] (defScope s_law_least) := ⟨rfl, rfl, rfl, by decide +kernel, rfl, by decide +kernel, by decide +kernel⟩
abbrev s_law_times : Stmt := topS 24
theorem sc_law_times : FnScope ["one", "many", "found", "turn"] ["one", "many"] (defScope s_law_times) := ⟨rfl, rfl, rfl, by decide +kernel, rfl, by decide +kernel, by decide +kernel⟩
abbrev s_law_orders : Stmt := topS 25
theorem sc_law_orders : FnScope ["most", "rows", "n", "more", "falls", "order", "at", "is_same"] ["most"] (defScope s_law_orders) := ⟨rfl, rfl, rfl, by decide +kernel, rfl, by decide +kernel, by decide +kernel⟩
abbrev s_law_deals : Stmt := topS 26
theorem sc_law_deals : FnScope ["counts", "n", "piles", "found", "cards", "rows", "card", "row", "more", "pile", "made"] ["counts", "n", "piles"] (defScope s_law_deals) := ⟨rfl, rfl, rfl, by decide +kernel, rfl, by decide +kernel, by decide +kernel⟩
abbrev s_law_falls_row : Stmt := topS 27
theorem sc_law_falls_row : FnScope ["n", "row", "many", "ahead", "same", "d"] ["n"] (defScope s_law_falls_row) := ⟨rfl, rfl, rfl, by decide +kernel, rfl, by decide +kernel, by decide +kernel⟩
abbrev s_law_far : Stmt := topS 28
theorem sc_law_far : FnScope ["n", "piles", "row", "even", "ways", "many", "top", "i", "d"] ["n", "piles", "row"] (defScope s_law_far) := ⟨rfl, rfl, rfl, by decide +kernel, rfl, by decide +kernel, by decide +kernel⟩
abbrev s_law_order : Stmt := topS 29
theorem sc_law_order : FnScope ["bag", "n", "way", "found", "turn", "rest", "card"] ["bag", "n"] (defScope s_law_order) := ⟨rfl, rfl, rfl, by decide +kernel, rfl, by decide +kernel, by decide +kernel⟩
abbrev s_law_piles : Stmt := topS 30
theorem sc_law_piles : FnScope ["bag", "near", "way"] ["bag", "near"] (defScope s_law_piles) := ⟨rfl, rfl, rfl, by decide +kernel, rfl, by decide +kernel, by decide +kernel⟩
abbrev s_law_cards : Stmt := topS 31
theorem sc_law_cards : FnScope ["bag"] ["bag"] (defScope s_law_cards) := ⟨rfl, rfl, rfl, by decide +kernel, rfl, by decide +kernel, by decide +kernel⟩
abbrev s_law_are_chances_right : Stmt := topS 32
theorem sc_law_are_chances_right : FnScope ["bag", "turn", "order", "n", "falls", "piles", "top", "i", "due", "kept"] ["bag"] (defScope s_law_are_chances_right) := ⟨rfl, rfl, rfl, by decide +kernel, rfl, by decide +kernel, by decide +kernel⟩
abbrev s_law_are_deals_right : Stmt := topS 33
theorem sc_law_are_deals_right : FnScope ["bag", "n", "first", "counts", "piles", "ways", "top", "orders", "falls", "order", "second", "number"] ["bag"] (defScope s_law_are_deals_right) := ⟨rfl, rfl, rfl, by decide +kernel, rfl, by decide +kernel, by decide +kernel⟩
abbrev s_law_are_fars_right : Stmt := topS 34
theorem sc_law_are_fars_right : FnScope ["bag", "turn", "n", "piles", "top", "low", "due"] ["bag"] (defScope s_law_are_fars_right) := ⟨rfl, rfl, rfl, by decide +kernel, rfl, by decide +kernel, by decide +kernel⟩
abbrev s_law_due_deals : Stmt := topS 35
theorem sc_law_due_deals : FnScope ["n", "piles", "share", "row", "many", "deals", "top", "low"] ["n", "piles", "share"] (defScope s_law_due_deals) := ⟨rfl, rfl, rfl, by decide +kernel, rfl, by decide +kernel, by decide +kernel⟩
abbrev s_law_is_fewest : Stmt := topS 36
theorem sc_law_is_fewest : FnScope ["bag", "n", "piles", "share", "due", "told"] ["bag", "n", "piles", "share"] (defScope s_law_is_fewest) := ⟨rfl, rfl, rfl, by decide +kernel, rfl, by decide +kernel, by decide +kernel⟩
abbrev s_law_near : Stmt := topS 37
theorem sc_law_near : FnScope ["bag", "n", "piles", "deals", "top", "low", "more"] ["bag", "n", "piles", "deals"] (defScope s_law_near) := ⟨rfl, rfl, rfl, by decide +kernel, rfl, by decide +kernel, by decide +kernel⟩
abbrev s_law_are_fewest_right : Stmt := topS 38
theorem sc_law_are_fewest_right : FnScope ["bag", "piles", "deals", "low", "n", "shares"] ["bag"] (defScope s_law_are_fewest_right) := ⟨rfl, rfl, rfl, by decide +kernel, rfl, by decide +kernel, by decide +kernel⟩
abbrev s_law_are_ends_right : Stmt := topS 39
theorem sc_law_are_ends_right : FnScope ["bag", "n", "even", "i", "share"] ["bag"] (defScope s_law_are_ends_right) := ⟨rfl, rfl, rfl, by decide +kernel, rfl, by decide +kernel, by decide +kernel⟩
abbrev s_law : Stmt := topS 40
theorem sc_law : FnScope ["script", "bag"] ["script"] (defScope s_law) := ⟨rfl, rfl, rfl, by decide +kernel, rfl, by decide +kernel, by decide +kernel⟩
/-- what the module and the built-ins give -/
structure Bt (P : Program) (mg : Str → Option Value) (base : Heap) : Prop where
  n_abs : mg "abs" = none
  n_range : mg "range" = none
  n_len : mg "len" = none
  n_list : mg "list" = none
  n_enumerate : mg "enumerate" = none
  n_int : mg "int" = none
  n_reversed : mg "reversed" = none
  n_sum : mg "sum" = none
  n_max : mg "max" = none
  n_tuple : mg "tuple" = none
  n_repr : mg "repr" = none
  n_min : mg "min" = none
  c_MAX_DEALS : ∃ t, mg "MAX_DEALS" = some (.int 20 t)
  hpl : base.NoSeer ∧ P.given.tree = none
end K80

/-! ## K80N -/
set_option autoImplicit false
set_option linter.all false
/-! K80N: mirrors of the program's defs. -/
namespace K80
open PySem L2 Fz
theorem cmul {i j : Int} {a b : Nat} (ha : Bd a i) (hb : Bd b j) (h : a + b ≤ 900000) : CMulW i j :=
  wide_mul (a := a + 1) (b := b + 1) (ha.mono (Nat.le_succ a)) (hb.mono (Nat.le_succ b)) (Nat.succ_pos _) (Nat.succ_pos _) (by omega)
theorem cdiv {i j : Int} {b : Nat} (h : 0 < j) (hb : Bd b j) (h9 : b ≤ 8000) : CDivW i j := wide_div (b := b + 1) h (hb.mono (Nat.le_succ b)) (Nat.succ_pos _) (by omega)
def ti (l : List Int) : PyData := .tuple (l.map PyData.int)
def li (l : List Int) : PyData := .list (l.map PyData.int)
theorem at_ints {l : List Int} {i : Nat} (h : i < l.length) : atI (l.map PyData.int) (i : Int) = some (.int (l.getD i 0)) := by
  refine atI_nat ?_
  rw [List.getElem?_map, List.getElem?_eq_getElem h, List.getD_eq_getElem?_getD, List.getElem?_eq_getElem h]
  rfl
theorem at_intsZ {l : List Int} {j : Int} (h0 : 0 ≤ j) (h : j < l.length) : atI (l.map PyData.int) j = some (.int (l.getD j.toNat 0)) := by
  have e : j = ((j.toNat : Nat) : Int) := by omega
  rw [e]
  exact at_ints (by omega)
/-- a fraction in least terms -/
def frD (t b : Int) : PyData := .tuple [.int (t / (Int.gcd t b : Int)), .int (b / (Int.gcd t b : Int))]
def fallsN (l : List Int) : Nat := ((List.range (l.length - 1)).filter fun i => decide (l.getD (i + 1) 0 < l.getD i 0)).length
theorem fallsN_le (l : List Int) : fallsN l ≤ l.length - 1 := by
  unfold fallsN
  refine Nat.le_trans (List.length_filter_le _ _) ?_
  rw [List.length_range]; exact Nat.le_refl _
def stepRow (row : List Int) (many : Nat) : List Int := (List.range many).map fun d => (if d < many - 1 then row.getD d 0 * ((d : Int) + 1) else 0) + (if 0 < d then row.getD (d - 1) 0 * ((many : Int) - d) else 0)
def rowAt : Nat → List Int
  | 0 => [1]
  | k + 1 => stepRow (rowAt k) (k + 2)
theorem rowAt_len : ∀ k, (rowAt k).length = k + 1
  | 0 => rfl
  | k + 1 => by unfold rowAt stepRow; rw [List.length_map, List.length_range]
theorem getD_map_range {f : Nat → Int} {n i : Nat} (h : i < n) : ((List.range n).map f).getD i 0 = f i := by
  rw [List.getD_eq_getElem?_getD, List.getElem?_map, List.getElem?_range h]; rfl
theorem getD_out {l : List Int} {i : Nat} (h : l.length ≤ i) : l.getD i 0 = 0 := by
  rw [List.getD_eq_getElem?_getD, List.getElem?_eq_none h]; rfl
theorem rowAt_bd : ∀ k, k ≤ 100 → ∀ i, Bd (9 * k + 1) ((rowAt k).getD i 0)
  | 0, _, i => by
    unfold rowAt Bd
    cases i with
    | zero => decide
    | succ i => exact bd_zero 1
  | k + 1, hk, i => by
    by_cases hi : i < k + 2
    · unfold rowAt stepRow
      rw [getD_map_range hi]
      have ih := rowAt_bd k (by omega)
      have b1 : Bd (9 * k + 1 + 7) (if i < k + 2 - 1 then (rowAt k).getD i 0 * ((i : Int) + 1) else 0) := by
        split
        · exact (ih i).mul (Bd.of (n := 103) (by omega) (by omega) (by decide))
        · exact bd_zero _
      have b2 : Bd (9 * k + 1 + 7) (if 0 < i then (rowAt k).getD (i - 1) 0 * (((k + 2 : Nat) : Int) - i) else 0) := by
        split
        · exact (ih _).mul (Bd.of (n := 103) (by omega) (by omega) (by decide))
        · exact bd_zero _
      exact (b1.add b2).mono (by omega)
    · rw [getD_out (by rw [rowAt_len]; omega)]
      exact bd_zero _
def cofRow (n : Nat) : List Int := rowAt (n - 1)
/-- the differences of the first d numbers of falls, together -/
def farS (n : Nat) (p : Int) : Nat → Int
  | 0 => 0
  | d + 1 => farS n p d + (cofRow n).getD d 0 * (((dealtBy p n (d : Int) * (fac n : Int) - p ^ n).natAbs : Nat) : Int)
def farT (n : Nat) (p : Int) : Int := farS n p (cofRow n).length
theorem shift_bd {p : Int} (hp : Bd 410 p) {d : Int} (hd : 0 ≤ d ∧ d ≤ 60) : ∀ i : Nat, i < 64 → Bd 411 (p - d + i) := fun i hi => by
  have h2 : Bd 410 ((i : Int) - d) := (Bd.of (k := 7) (n := 127) (by omega) (by omega) (by decide)).mono (by decide)
  have e : p - d + i = p + ((i : Int) - d) := by omega
  rw [e]
  exact hp.add h2
theorem prod_bd {p : Int} (hp : Bd 410 p) {d : Int} (hd : 0 ≤ d ∧ d ≤ 60) {n : Nat} (hn : n ≤ 60) : Bd 25000 (prodF (p - d) n) := (prodF_bd (shift_bd hp hd) n (by omega)).mono (by omega)
theorem dealt_bd {p : Int} (hp : Bd 410 p) {d : Int} (hd : 0 ≤ d ∧ d ≤ 60) {n : Nat} (hn : n ≤ 60) : Bd 25000 (dealtBy p n d) := (prod_bd hp hd hn).div
theorem fac_bd' {n : Nat} (hn : n ≤ 60) : Bd 400 (fac n : Int) := (fac_bd n (by omega)).mono (by omega)
theorem pow_bd' {p : Int} (hp : Bd 410 p) {n : Nat} (hn : n ≤ 60) : Bd 25000 (p ^ n) := (hp.pow n).mono (by omega)
theorem diff_bd {p : Int} (hp : Bd 410 p) {d : Int} (hd : 0 ≤ d ∧ d ≤ 60) {n : Nat} (hn : n ≤ 60) : Bd 26000 (dealtBy p n d * (fac n : Int) - p ^ n) :=
  (((dealt_bd hp hd hn).mul (fac_bd' hn)).sub ((pow_bd' hp hn).mono (by decide))).mono (by decide)
theorem row_bd {n : Nat} (hn : n ≤ 60) (i : Nat) : Bd 600 ((cofRow n).getD i 0) := (rowAt_bd (n - 1) (by omega) i).mono (by omega)
theorem cof_len (n : Nat) : (cofRow n).length = n - 1 + 1 := rowAt_len _
theorem farS_bd {p : Int} (hp : Bd 410 p) {n : Nat} (hn : n ≤ 60) : ∀ d, d ≤ 60 → Bd (27000 + d) (farS n p d)
  | 0, _ => bd_zero _
  | d + 1, h => by
    unfold farS
    exact (farS_bd hp hn d (by omega)).add (((row_bd hn d).mul (diff_bd hp (d := (d : Int)) (by omega) hn).abs).mono (by omega))
theorem farT_bd {p : Int} (hp : Bd 410 p) {n : Nat} (hn : n ≤ 60) : Bd 28000 (farT n p) := (farS_bd hp hn _ (by rw [cof_len]; omega)).mono (by rw [cof_len]; omega)
end K80
namespace K80
open PySem L2 Fz
/-- the fraction's test is the test of what it comes from -/
theorem less_red {a b t l : Int} (hl : 0 < l) : (a * (l / (Int.gcd t l : Int)) < t / (Int.gcd t l : Int) * b) ↔ a * l < t * b := by
  have hg : (0 : Int) < (Int.gcd t l : Int) := by
    have : 0 < Int.gcd t l := Int.gcd_pos_of_ne_zero_right t (by omega)
    omega
  have e1 : l = l / (Int.gcd t l : Int) * (Int.gcd t l : Int) := (Int.ediv_mul_cancel (Int.gcd_dvd_right t l)).symm
  have e2 : t = t / (Int.gcd t l : Int) * (Int.gcd t l : Int) := (Int.ediv_mul_cancel (Int.gcd_dvd_left t l)).symm
  generalize l / (Int.gcd t l : Int) = l' at *
  generalize t / (Int.gcd t l : Int) = t' at *
  generalize (Int.gcd t l : Int) = g at *
  subst e1 e2
  rw [← Int.mul_assoc, show t' * g * b = t' * b * g by rw [Int.mul_assoc, Int.mul_comm g, Int.mul_assoc]]
  exact ⟨fun h => Int.mul_lt_mul_of_pos_right h hg, fun h => Int.lt_of_mul_lt_mul_right h (Int.le_of_lt hg)⟩
def farL (n : Nat) (p : Int) : Int := 2 * p ^ n * (fac n : Int)
theorem farL_pos {n : Nat} {p : Int} (h : 0 < p) : 0 < farL n p := by
  have h1 : 0 < p ^ n := Int.pow_pos h
  have h2 := fac_pos n
  unfold farL
  exact Int.mul_pos (Int.mul_pos (by decide) h1) (by omega)
theorem farL_bd {p : Int} (hp : Bd 410 p) {n : Nat} (hn : n ≤ 60) : Bd 28000 (farL n p) :=
  ((((Bd.of (k := 2) (x := 2) (n := 3) (by decide) (by decide) (by decide)).mul (pow_bd' hp hn)).mul (fac_bd' hn)).mono (by decide))
def fewT (n : Nat) (p a b : Int) (m : Nat) : Bool := decide (farT n (p ^ m) * b ≤ a * farL n (p ^ m))
def fewM (n : Nat) (p a b : Int) : Option Nat := (List.range 21).find? (fewT n p a b)
def optD : Option Nat → PyData
  | none => .none
  | some m => .int m
theorem find_at {f : Nat → Bool} {n i : Nat} (h : i < n) (h1 : f i = true) (h2 : ∀ j, j < i → f j = false) : (List.range n).find? f = some i := by
  induction n with
  | zero => omega
  | succ n ih =>
    rw [List.range_succ, List.find?_append]
    by_cases e : i < n
    · rw [ih e]; rfl
    · have ei : i = n := by omega
      subst ei
      have : (List.range i).find? f = none := List.find?_eq_none.mpr fun x hx => by
        rw [h2 x (List.mem_range.mp hx)]; exact Bool.false_ne_true
      rw [this]
      show [i].find? f = some i
      rw [List.find?_cons_of_pos h1]
theorem find_no {f : Nat → Bool} {n : Nat} (h2 : ∀ j, j < n → f j = false) : (List.range n).find? f = none := List.find?_eq_none.mpr fun x hx => by
  rw [h2 x (List.mem_range.mp hx)]; exact Bool.false_ne_true
end K80

/-! ## K80D -/
set_option autoImplicit false
set_option linter.all false
/-! K80D: what the law draws. -/
namespace K80
open PySem L2 Fz
def natsL (n : Nat) : List Int := (List.range n).map fun (i : Nat) => (i : Int)
/-- mixed, card by card: what is left, what is laid, the bag -/
def mixS (n : Nat) (b : Bag) : Nat → List Int × List Int × Bag
  | 0 => (natsL n, [], b)
  | i + 1 => let s := mixS n b i
    (s.1.eraseIdx (drawV s.2.2 s.1.length).toNat, s.2.1 ++ [s.1.getD (drawV s.2.2 s.1.length).toNat 0], drawB s.2.2 s.1.length)
theorem mixS_len (n : Nat) (b : Bag) : ∀ i, i ≤ n → (mixS n b i).1.length = n - i ∧ (mixS n b i).2.1.length = i
  | 0, _ => by unfold mixS natsL; simp
  | i + 1, h => by
    obtain ⟨h1, h2⟩ := mixS_len n b i (by omega)
    unfold mixS
    have hp : (0 : Int) < ((mixS n b i).1.length : Int) := by omega
    have hv := drawV_ok (mixS n b i).2.2 hp
    refine ⟨?_, ?_⟩
    · show ((mixS n b i).1.eraseIdx _).length = _
      rw [List.length_eraseIdx_of_lt (by omega), h1]; omega
    · show ((mixS n b i).2.1 ++ [_]).length = _
      rw [List.length_append, h2]; rfl
/-- one card put elsewhere -/
def oneP (n : Nat) (s : List Int × Bag) : List Int × Bag :=
  let j := (drawV s.2 n).toNat
  let b1 := drawB s.2 n
  let k := (drawV b1 n).toNat
  let l1 := s.1.eraseIdx j
  (l1.take k ++ [s.1.getD j 0] ++ l1.drop k, drawB b1 n)
def turnS (n : Nat) (l : List Int) (b : Bag) : Nat → List Int × Bag
  | 0 => (l, b)
  | i + 1 => oneP n (turnS n l b i)
theorem oneP_len {n : Nat} (hn : 0 < n) {s : List Int × Bag} (h : s.1.length = n) : (oneP n s).1.length = n := by
  have hv := drawV_ok s.2 (show (0 : Int) < (n : Int) by omega)
  have e1 : (s.1.eraseIdx (drawV s.2 n).toNat).length = n - 1 := by rw [List.length_eraseIdx_of_lt (by omega), h]
  unfold oneP
  show (List.take _ (s.1.eraseIdx _) ++ [_] ++ List.drop _ (s.1.eraseIdx _)).length = n
  rw [List.length_append, List.length_append, List.length_take, List.length_drop, e1, List.length_singleton]
  omega
theorem turnS_len {n : Nat} {l : List Int} {b : Bag} (h : l.length = n) : ∀ i, (0 < n ∨ i = 0) → (turnS n l b i).1.length = n
  | 0, _ => h
  | i + 1, hn => oneP_len (hn.resolve_right (by omega)) (turnS_len h i (.inl (hn.resolve_right (by omega))))
def orderP (b : Bag) (n : Nat) : List Int × Bag :=
  if drawV b 4 = 0 then ((mixS n (drawB b 4) n).2.1, (mixS n (drawB b 4) n).2.2)
  else if 0 < n then turnS n (if drawV b 4 = 1 then (natsL n).reverse else natsL n) (drawB (drawB b 4) 5) (drawV (drawB b 4) 5).toNat
  else ((if drawV b 4 = 1 then (natsL n).reverse else natsL n), drawB b 4)
theorem natsL_len (n : Nat) : (natsL n).length = n := by unfold natsL; rw [List.length_map, List.length_range]
theorem orderP_len (b : Bag) (n : Nat) : (orderP b n).1.length = n := by
  unfold orderP
  have hl : (if drawV b 4 = 1 then (natsL n).reverse else natsL n).length = n := by
    split
    · rw [List.length_reverse, natsL_len]
    · exact natsL_len n
  split
  · exact (mixS_len n (drawB b 4) n (Nat.le_refl n)).2
  · split
    · exact turnS_len hl _ (.inl (by assumption))
    · exact hl
def R_order : Bag → List PyData → PyData → Bag → Prop := fun b ds d b' => ∃ n : Nat, n ≤ 60 ∧ ds = [.int n] ∧ d = ti (orderP b n).1 ∧ b' = (orderP b n).2
def pickI (b : Bag) (l : List Int) : Int := l.getD (drawV b l.length).toNat 0
theorem getD_map_int {l : List Int} {k : Nat} (h : k < l.length) : (l.map PyData.int).getD k .none = .int (l.getD k 0) := by
  rw [List.getD_eq_getElem?_getD, List.getElem?_map, List.getElem?_eq_getElem h, List.getD_eq_getElem?_getD, List.getElem?_eq_getElem h]; rfl
theorem pickI_mem {b : Bag} {l : List Int} (h : l ≠ []) : pickI b l ∈ l := by
  have hl := List.length_pos_iff.mpr h
  have hv := drawV_ok b (show (0 : Int) < (l.length : Int) by omega)
  unfold pickI
  have hlt : (drawV b l.length).toNat < l.length := by omega
  rw [List.getD_eq_getElem?_getD, List.getElem?_eq_getElem hlt]
  exact List.getElem_mem hlt
def pilesL : List Int := [2, 4, 8, 16, 128, 1024, 524288, 1000000, 999999]
def pilesP (b : Bag) (near : Int) : Int × Bag :=
  if drawV b 6 = 0 then (1 + drawV (drawB b 6) 1000000, drawB (drawB b 6) 1000000)
  else if drawV b 6 = 1 then (pickI (drawB b 6) pilesL, drawB (drawB b 6) 9)
  else if drawV b 6 < 4 then (1 + drawV (drawB b 6) 9, drawB (drawB b 6) 9)
  else ((if near - 1 + drawV (drawB b 6) 4 > 1 then near - 1 + drawV (drawB b 6) 4 else 1), drawB (drawB b 6) 4)
theorem pilesP_ok (b : Bag) {near : Int} (h : near ≤ 100) : 1 ≤ (pilesP b near).1 ∧ (pilesP b near).1 ≤ 1000000 := by
  unfold pilesP
  split
  · have := drawV_ok (drawB b 6) (show (0 : Int) < 1000000 by decide)
    exact ⟨by show 1 ≤ 1 + _; omega, by show 1 + _ ≤ _; omega⟩
  · split
    · have := pickI_mem (b := drawB b 6) (l := pilesL) (by decide)
      show 1 ≤ pickI _ _ ∧ pickI _ _ ≤ _
      generalize pickI (drawB b 6) pilesL = z at *
      simp only [pilesL, List.mem_cons, List.not_mem_nil, or_false] at this
      omega
    · split
      · have := drawV_ok (drawB b 6) (show (0 : Int) < 9 by decide)
        exact ⟨by show 1 ≤ 1 + _; omega, by show 1 + _ ≤ _; omega⟩
      · have := drawV_ok (drawB b 6) (show (0 : Int) < 4 by decide)
        dsimp only
        split <;> omega
def cardsL : List Int := [0, 1, 2, 3, 4, 5, 9, 17, 30, 51, 52, 52, 52]
def cardsP (b : Bag) : Int × Bag :=
  if drawV b 2 = 0 then (drawV (drawB b 2) 53, drawB (drawB b 2) 53) else (pickI (drawB b 2) cardsL, drawB (drawB b 2) 13)
theorem cardsP_ok (b : Bag) : 0 ≤ (cardsP b).1 ∧ (cardsP b).1 ≤ 52 := by
  unfold cardsP
  split
  · have := drawV_ok (drawB b 2) (show (0 : Int) < 53 by decide)
    exact ⟨by show 0 ≤ drawV _ _; omega, by show drawV _ _ ≤ _; omega⟩
  · have := pickI_mem (b := drawB b 2) (l := cardsL) (by decide)
    show 0 ≤ pickI _ _ ∧ pickI _ _ ≤ _
    generalize pickI (drawB b 2) cardsL = z at *
    simp only [cardsL, List.mem_cons, List.not_mem_nil, or_false] at this
    omega
def R_piles : Bag → List PyData → PyData → Bag → Prop := fun b ds d b' => ∃ near : Int, near ≤ 100 ∧ ds = [.int near] ∧ d = .int (pilesP b near).1 ∧ b' = (pilesP b near).2
def R_cards : Bag → List PyData → PyData → Bag → Prop := fun b ds d b' => ds = [] ∧ d = .int (cardsP b).1 ∧ b' = (cardsP b).2
theorem bd20 {p : Int} (h : 1 ≤ p ∧ p ≤ 1000000) : Bd 20 p := Bd.of (n := 1000001) (by omega) (by omega) (by decide)
theorem bd20' {p : Int} (h : 1 ≤ p ∧ p ≤ 1000000) : Bd 410 p := (bd20 h).mono (by decide)
end K80

/-! ## K80T -/
set_option autoImplicit false
set_option linter.all false
/-! K80T: the orders, the deals, as the law counts them. -/
namespace K80
open PySem L2 Fz
/-! ### the orders, with their falls -/
def sameM (n : Nat) (o : List Int) (at' : Nat) : Bool := decide (at' = n) || (decide (0 < at') && decide (o.getD at' 0 < o.getD (at' - 1) 0))
def putM (n : Nat) (fo : Int × List Int) (at' : Nat) : Int × List Int := (if sameM n fo.2 at' then fo.1 else fo.1 + 1, fo.2.take at' ++ [(n : Int)] ++ fo.2.drop at')
def ordersM : Nat → List (Int × List Int)
  | 0 => [(0, [])]
  | n + 1 => (ordersM n).flatMap fun fo => (List.range (n + 1)).map (putM n fo)
def pairD (fo : Int × List Int) : PyData := .tuple [.int fo.1, tupD fo.2]
def R_orders : List PyData → PyData → Prop := fun ds d => ∃ n : Nat, n ≤ 5 ∧ ds = [.int n] ∧ d = .list ((List.range (n + 1)).map fun k => .list ((ordersM k).map pairD))
theorem ordersM_len : ∀ n, ∀ fo ∈ ordersM n, fo.2.length = n
  | 0, fo, h => by
    rw [List.mem_singleton.mp h]; rfl
  | n + 1, fo, h => by
    obtain ⟨g, hg, h⟩ := List.mem_flatMap.mp h
    obtain ⟨at', ha, rfl⟩ := List.mem_map.mp h
    have := ordersM_len n g hg
    have hat := List.mem_range.mp ha
    unfold putM
    show (List.take at' g.2 ++ [(n : Int)] ++ List.drop at' g.2).length = n + 1
    rw [List.length_append, List.length_append, List.length_take, List.length_drop, List.length_singleton]
    omega
/-! ### the deals -/
abbrev Row := List (List Int)
def rowD (r : Row) : PyData := .tuple (r.map tupD)
def layM (card : Int) (pile : Nat) (r : Row) : Row := r.take pile ++ [r.getD pile [] ++ [card]] ++ r.drop (pile + 1)
def moreM (card : Int) (rows : List Row) (i : Nat) : List Row := (List.range i).flatMap fun pile => rows.map (layM card pile)
def rowsM (m : Nat) (cards : List Int) : List Row := cards.foldl (fun rows card => moreM card rows m) [List.replicate m []]
def addM (z : Int) (f : Tab) (r : Row) : Tab := putT f r.flatten ((getT f r.flatten).getD 0 + z)
def dealT (t : Tab) (m : Nat) : Tab := t.foldl (fun f x => (rowsM m x.1).foldl (addM x.2) f) []
def OkT (t : Tab) (m : Nat) : Prop := t.length ≤ 100 ∧ ∀ x ∈ t, x.1.length ≤ 10 ∧ m ^ x.1.length ≤ 500 ∧ getT t x.1 = some x.2
def R_deals : Tab → Int → Int → Tab → Prop := fun t n m u => ∃ k : Nat, m = k ∧ 1 ≤ k ∧ k ≤ 10 ∧ OkT t k ∧ u = dealT t k
def GoodR (m c : Nat) (r : Row) : Prop := r.length = m ∧ r.flatten.length = c
theorem lay_good {m c pile : Nat} {card : Int} {r : Row} (h : GoodR m c r) (hp : pile < m) : GoodR m (c + 1) (layM card pile r) := by
  obtain ⟨h1, h2⟩ := h
  unfold layM
  have e : r = r.take pile ++ [r.getD pile []] ++ r.drop (pile + 1) := by
    have e1 : r.getD pile [] = r[pile]'(by omega) := by
      rw [List.getD_eq_getElem?_getD, List.getElem?_eq_getElem (by omega)]; rfl
    rw [e1, List.append_assoc]
    show r = r.take pile ++ (r[pile] :: r.drop (pile + 1))
    rw [List.getElem_cons_drop, List.take_append_drop]
  refine ⟨?_, ?_⟩
  · rw [List.length_append, List.length_append, List.length_take, List.length_drop, List.length_singleton]; omega
  · rw [e] at h2
    simp only [List.flatten_append, List.length_append, List.flatten_cons, List.flatten_nil, List.length_nil] at h2 ⊢
    simp only [List.length_cons, List.length_nil] at h2 ⊢
    omega
theorem more_good {m c : Nat} {card : Int} {rows : List Row} (h : ∀ r ∈ rows, GoodR m c r) {i : Nat} (hi : i ≤ m) : ∀ r ∈ moreM card rows i, GoodR m (c + 1) r := fun r hr => by
  obtain ⟨pile, hp, hr⟩ := List.mem_flatMap.mp hr
  obtain ⟨q, hq, rfl⟩ := List.mem_map.mp hr
  exact lay_good (h q hq) (Nat.lt_of_lt_of_le (List.mem_range.mp hp) hi)
theorem more_succ (card : Int) (rows : List Row) (i : Nat) : moreM card rows (i + 1) = moreM card rows i ++ rows.map (layM card i) := by
  unfold moreM
  rw [List.range_succ, List.flatMap_append, List.flatMap_singleton]
theorem more_len (card : Int) (rows : List Row) : ∀ i : Nat, (moreM card rows i).length = i * rows.length
  | 0 => by unfold moreM; simp
  | i + 1 => by rw [more_succ, List.length_append, more_len card rows i, List.length_map, Nat.succ_mul]
theorem rows_snoc (m : Nat) (cards : List Int) (card : Int) : rowsM m (cards ++ [card]) = moreM card (rowsM m cards) m := by
  unfold rowsM
  rw [List.foldl_append]; rfl
theorem rows_ok (m : Nat) : ∀ n (cards : List Int), cards.length = n → (rowsM m cards).length = m ^ n ∧ ∀ r ∈ rowsM m cards, GoodR m n r
  | 0, cards, h => by
    have e := List.eq_nil_of_length_eq_zero h
    subst e
    refine ⟨rfl, fun r hr => ?_⟩
    rw [List.mem_singleton.mp hr]
    refine ⟨List.length_replicate .., ?_⟩
    have : ∀ k : Nat, (List.replicate k ([] : List Int)).flatten = [] := fun k => by
      induction k with
      | zero => rfl
      | succ k ih => rw [List.replicate_succ, List.flatten_cons, ih]; rfl
    rw [this]; rfl
  | n + 1, cards, h => by
    have hne : cards ≠ [] := fun e => by rw [e] at h; cases h
    have e := List.dropLast_concat_getLast hne
    have hl : cards.dropLast.length = n := by rw [List.length_dropLast, h]; rfl
    obtain ⟨h1, h2⟩ := rows_ok m n cards.dropLast hl
    rw [← e, rows_snoc]
    refine ⟨by rw [more_len, h1, Nat.pow_succ, Nat.mul_comm], more_good h2 (Nat.le_refl m)⟩
theorem putT_len (t : Tab) (k : List Int) (z : Int) : (putT t k z).length ≤ t.length + 1 := by
  unfold putT
  split
  · rw [List.length_map]; omega
  · rw [List.length_append]; exact Nat.le_refl _
theorem add_len (z : Int) : ∀ (rows : List Row) (f : Tab), (rows.foldl (addM z) f).length ≤ f.length + rows.length
  | [], f => Nat.le_refl _
  | r :: rows, f => by
    have h1 := add_len z rows (addM z f r)
    have h2 : (addM z f r).length ≤ f.length + 1 := putT_len _ _ _
    rw [List.foldl_cons, List.length_cons]; omega
end K80

/-! ## K80C -/
set_option autoImplicit false
set_option linter.all false
set_option maxRecDepth 100000
/-! K80C: the few deals, one by one. -/
namespace K80
open PySem L2 Fz
def numT (t : Tab) (o : List Int) : Int := (getT t o).getD 0
def diffT (t : Tab) (w l : Int) (o : List Int) : Int := ((numT t o * l - w).natAbs : Int)
def sumT (t : Tab) (w l : Int) : List (Int × List Int) → Int → Int
  | [], a => a
  | fo :: r, a => sumT t w l r (a + diffT t w l fo.2)
def resOk (n : Nat) (p : Int) (t : Tab) : Bool := (ordersM n).all (fun fo => decide (dealtBy p n (fallsN fo.2 : Nat) = numT t fo.2)) && decide (sumT t (p ^ n) (ordersM n).length (ordersM n) 0 = farT n p) && decide ((ordersM n).length = fac n)
def okB (t : Tab) (m : Nat) : Bool := decide (t.length ≤ 100) && t.all fun x => decide (x.1.length ≤ 10) && decide (m ^ x.1.length ≤ 500) && decide (getT t x.1 = some x.2)
def fstT (n m : Nat) : Tab := dealT [(natsL n, 1)] m
def maxF (n : Nat) : Nat := if n = 5 then 2 else if 3 < n then 3 else 5
theorem first_ok : ∀ n, n < 6 → ∀ m, m < 6 → 1 ≤ m → m ≤ maxF n → (okB [(natsL n, 1)] m && resOk n m (fstT n m)) = true := by decide +kernel
theorem second_ok : ∀ n, n < 4 → ∀ m, m < 4 → 1 ≤ m → ∀ k, k < 4 → 1 ≤ k → (okB (fstT n m) k && resOk n ((m : Int) * k) (dealT (fstT n m) k)) = true := by decide +kernel
theorem okB_T {t : Tab} {m : Nat} (h : okB t m = true) : OkT t m := by
  unfold okB at h
  rw [Bool.and_eq_true] at h
  refine ⟨of_decide_eq_true h.1, fun x hx => ?_⟩
  have := List.all_eq_true.mp h.2 x hx
  rw [Bool.and_eq_true, Bool.and_eq_true] at this
  exact ⟨of_decide_eq_true this.1.1, of_decide_eq_true this.1.2, of_decide_eq_true this.2⟩
structure ResT (n : Nat) (p : Int) (t : Tab) : Prop where
  num : ∀ fo ∈ ordersM n, dealtBy p n (fallsN fo.2 : Nat) = numT t fo.2
  sum : sumT t (p ^ n) (ordersM n).length (ordersM n) 0 = farT n p
  len : (ordersM n).length = fac n
theorem resOk_T {n : Nat} {p : Int} {t : Tab} (h : resOk n p t = true) : ResT n p t := by
  unfold resOk at h
  rw [Bool.and_eq_true, Bool.and_eq_true] at h
  exact ⟨fun fo hfo => of_decide_eq_true (List.all_eq_true.mp h.1.1 fo hfo), of_decide_eq_true h.1.2, of_decide_eq_true h.2⟩
end K80

/-! ## A1 -/
set_option Elab.async false
set_option linter.all false
set_option maxRecDepth 100000
set_option maxHeartbeats 4000000
set_option autoImplicit false
namespace K80
open PySem L2 Fz
variable {P : Program} {w : World} {K : PySem.W.Frag} {mg : Str → Option Value} {base : Heap} {f : Addr} {fd : FuncData}
abbrev iv (x : Int) : Option AD := some (.d (.int x))
def R_cm : List PyData → PyData → Prop := fun ds d => ∃ a b : Int, ds = [.int a, .int b] ∧ d = .int (Int.gcd a b)
theorem abs_if (a : Int) : (if a < 0 then -a else a) = (a.natAbs : Int) := by split <;> omega
theorem gcd_step {x y : Int} (hx : 0 ≤ x) (hy : 0 < y) : Int.gcd y (x % y) = Int.gcd x y := by
  obtain ⟨n, rfl⟩ := Int.eq_ofNat_of_zero_le hx
  obtain ⟨m, rfl⟩ := Int.eq_ofNat_of_zero_le (Int.le_of_lt hy)
  show Nat.gcd m (((n : Int) % (m : Int)).natAbs) = Nat.gcd n m
  have e : ((n : Int) % (m : Int)).natAbs = n % m := by omega
  rw [e, Nat.gcd_comm m, ← Nat.gcd_rec, Nat.gcd_comm]
theorem ok_common_measure (Fn : Fun K "common_measure" "common_measure" s_common_measure f fd) (T : Bt P mg base) : FnOk P w K mg base CX0 41 f fd ["one", "other"] (spR K R_cm) := by
  refine fn_data Fn sc_common_measure (by decide) (fun ds d ⟨a, b, h, _⟩ => by rw [h]; rfl) fun cdv A outer s H E hr => ⟨_, (pss_cons (ps_par (i := 0) (j := 1) (by rfl) sc_common_measure.nd rfl rfl (by decide) rfl rfl (pa_cons (pe_callB call_abs (by rfl) T.n_abs (by decide +kernel) (pa_cons (pv 0) pa_nil)) (pa_cons (pe_callB call_abs (by rfl) T.n_abs (by decide +kernel) (pa_cons (pv 1) pa_nil)) pa_nil)) (by rfl))
      (pss_cons (ps_while PassesOwn.never (pt_cmpR op_ne (pv 1) pe_int (nomark _)) (pss_one (ps_par (i := 0) (j := 1) (by rfl) sc_common_measure.nd rfl rfl (by decide) rfl rfl (pa_cons (pv 1) (pa_cons (pe_op op_mod (pv 0) (pv 1)) pa_nil)) (by rfl))))
      (pss_one (ps_ret (pv 0))))), ?_⟩
  rintro B Q ds d rfl hM ⟨a, b, rfl, rfl⟩ q
  refine x_seq (x_par (ea_cons (ex_abs (ex_v rfl)) (ea_cons (ex_abs (ex_v rfl)) ea_nil)) ?_)
  rw [abs_if, abs_if]
  refine x_seq (x_while (m0 := (b.natAbs : Int).toNat) (fun m ε L => ∃ x y : Int, 0 ≤ x ∧ 0 ≤ y ∧ Int.gcd x y = Int.gcd a b ∧ m = y.toNat ∧ ε = [iv x, iv y] ∧ L = []) ⟨a.natAbs, b.natAbs, by omega, by omega, by show Nat.gcd _ _ = _; simp [Int.gcd], rfl, rfl, rfl⟩ ?_)
  rintro m ε' L' ⟨x, y, hx, hy, hg, rfl, rfl, rfl⟩
  refine ⟨_, _, et_test (ex_neI (ex_v rfl) ex_cI), fun hb => ?_, fun hb => ?_⟩
  · have hy0 : y ≠ 0 := by simpa using hb
    refine x_par (ea_cons (ex_v rfl) (ea_cons (ex_mod (ex_v rfl) (ex_v rfl) (by omega)) ea_nil)) ?_
    refine x_abs ⟨(x % y).toNat, ?_, y, x % y, hy, Int.emod_nonneg _ hy0, ?_, rfl, rfl, rfl⟩ (Wk.refl _)
    · have := Int.emod_lt_of_pos x (show 0 < y by omega)
      have := Int.emod_nonneg x hy0
      omega
    · rw [gcd_step hx (by omega), hg]
  · have hy0 : y = 0 := by simpa using hb
    subst hy0
    refine x_ret (ex_v rfl) fun v F σ H r o => q v F H (hM ▸ r.nx) ?_
    rw [← hg, Int.gcd_zero_right]
    have : (x.natAbs : Int) = x := by omega
    rw [this]; exact o
def R_frac : List PyData → PyData → Prop := fun ds d => ∃ t b : Int, ds = [.int t, .int b] ∧ 0 < b ∧ d = frD t b
theorem gcd_pos {t b : Int} (h : 0 < b) : (0 : Int) < (Int.gcd t b : Int) := by
  have : 0 < Int.gcd t b := Int.gcd_pos_of_ne_zero_right t (by omega)
  omega
theorem ok_fraction_of (Fn : Fun K "fraction_of" "fraction_of" s_fraction_of f fd) (T : Bt P mg base) (C_common_measure : Df P w K mg base 41 "common_measure" ["one", "other"] (spR K R_cm)) :
    FnOk P w K mg base CX0 42 f fd ["top", "bottom"] (spR K R_frac) := by
  refine fn_data Fn sc_fraction_of (by decide) (fun ds d ⟨a, b, h, _⟩ => by rw [h]; rfl) fun cdv A outer s H E hr => ⟨_, (pss_cons (ps_set (i := 2) sc_fraction_of.nd rfl (.inl rfl) (pe_ifExp (pt_cmpR op_gt (pv 1) pe_int (nomark _)) (pe_callD C_common_measure (hr.mono (by decide)) (by rfl) (pa_cons (pv 0) (pa_cons (pv 1) pa_nil))) (pe_un un_neg (pe_callD C_common_measure (hr.mono (by decide)) (by rfl) (pa_cons (pv 0) (pa_cons (pv 1) pa_nil))))))
      (pss_one (ps_ret (pe_tup (pa_cons (pe_op (op_fdivP hr T.hpl) (pv 0) (pv 2)) (pa_cons (pe_op (op_fdivP hr T.hpl) (pv 1) (pv 2)) pa_nil)))))), ?_⟩
  rintro B Q ds d rfl hM ⟨t, b, rfl, hb, rfl⟩ q
  have hg := gcd_pos (t := t) hb
  refine x_seq (x_set (a := .d (.int (Int.gcd t b : Int))) (ex_if (et_test (ex_gt (ex_v rfl) ex_cI)) (fun _ => ex_call (ds := [.int t, .int b]) (ea_cons (ex_v rfl) (ea_cons (ex_v rfl) ea_nil)) ⟨t, b, rfl, rfl⟩) (fun h => absurd hb (by simpa using h))) ?_)
  exact x_ret (ex_tup (ds := [.int _, .int _]) (ea_cons (ex_fdivP (ex_v rfl) (ex_v rfl) hg) (ea_cons (ex_fdivP (ex_v rfl) (ex_v rfl) hg) ea_nil)) (Nat.le_of_ble_eq_true rfl)) fun v F σ H r o => q v F H (hM ▸ r.nx) o
def R_less : List PyData → PyData → Prop := fun ds d => ∃ a b x y : Int, ds = [.tuple [.int a, .int b], .tuple [.int x, .int y]] ∧ Bd 100000 a ∧ Bd 100000 b ∧ Bd 100000 x ∧ Bd 100000 y ∧ d = .bool (decide (a * y < x * b))
theorem ok_is_less_fraction (Fn : Fun K "is_less_fraction" "is_less_fraction" s_is_less_fraction f fd) (T : Bt P mg base) : FnOk P w K mg base CX0 41 f fd ["one", "other"] (spR K R_less) := by
  refine fn_data Fn sc_is_less_fraction (by decide) (fun ds d ⟨_, _, _, _, h, _⟩ => by rw [h]; rfl) fun cdv A outer s H E hr => ⟨_, (pss_one (ps_ret (pe_cmpR op_lt (pe_op op_mulW (pe_ix (r := rIxT K) ix_tup (pv 0) pe_int (fun _ _ => rfl)) (pe_ix (r := rIxT K) ix_tup (pv 1) pe_int (fun _ _ => rfl))) (pe_op op_mulW (pe_ix (r := rIxT K) ix_tup (pv 1) pe_int (fun _ _ => rfl)) (pe_ix (r := rIxT K) ix_tup (pv 0) pe_int (fun _ _ => rfl))) (nomark _)))), ?_⟩
  rintro B Q ds d rfl hM ⟨a, b, x, y, rfl, ha, hb, hx, hy, rfl⟩ q
  exact x_ret (ex_lt (ex_mul (ex_ixT (ex_v rfl) ex_cI rfl) (ex_ixT (ex_v rfl) ex_cI rfl) (cmul ha hy (by decide))) (ex_mul (ex_ixT (ex_v rfl) ex_cI rfl) (ex_ixT (ex_v rfl) ex_cI rfl) (cmul hx hb (by decide)))) fun v F σ H r o => q v F H (hM ▸ r.nx) o
def R_pow : List PyData → PyData → Prop := fun ds d => ∃ (x : Int) (n k : Nat), ds = [.int x, .int n] ∧ Bd k x ∧ k * n + k + 1 ≤ 500000 ∧ n ≤ 100000 ∧ d = .int (x ^ n)
theorem pow_side {x : Int} {k n i : Nat} (hx : Bd k x) (hk : k * n + k + 1 ≤ 500000) (hi : i < n) : CMulW (x ^ i) x := by
  have : k * i ≤ k * n := Nat.mul_le_mul_left k (Nat.le_of_lt hi)
  exact cmul (hx.pow i) hx (by omega)
theorem ok_power_of (Fn : Fun K "power_of" "power_of" s_power_of f fd) (T : Bt P mg base) : FnOk P w K mg base CX0 41 f fd ["number", "times"] (spR K R_pow) := by
  refine fn_data Fn sc_power_of (by decide) (fun ds d ⟨_, _, _, h, _⟩ => by rw [h]; rfl) fun cdv A outer s H E hr => ⟨_, (pss_cons (ps_set (i := 2) sc_power_of.nd rfl (.inl rfl) pe_int)
      (pss_cons (ps_for PassesOwn.never rfl (pi_range1 (by rfl) T.n_range (pa_cons (pv 1) pa_nil)) (pg_name (i := 3) sc_power_of.nd rfl (Or.inl rfl)) (pss_one (ps_set (i := 2) sc_power_of.nd rfl (.inl rfl) (pe_op op_mulW (pv 2) (pv 0)))))
      (pss_one (ps_ret (pv 2))))), ?_⟩
  rintro B Q ds d rfl hM ⟨x, n, k, rfl, hx, hk, hn, rfl⟩ q
  refine x_seq (x_set ex_cI ?_)
  refine x_sq (x_forR1 (ea_cons (ex_v rfl) ea_nil) (by omega) (fun i ε L => ε = [iv x, iv n, iv (x ^ i), none] ∧ L = []) ⟨by rw [Int.pow_zero]; rfl, rfl⟩ ?_ ?_)
  · rintro i ε' L' hi ⟨rfl, rfl⟩
    refine x_set (ex_mul (ex_v rfl) (ex_v rfl) (pow_side hx hk (by omega))) ?_
    exact x_abs ⟨rfl, rfl⟩ ⟨.inr rfl, .inr rfl, .inr (by rw [Int.pow_succ]), .inl rfl, trivial⟩
  · rintro ε' L' ⟨rfl, rfl⟩
    exact x_ret (ex_v rfl) fun v F σ H r o => q v F H (hM ▸ r.nx) o
def R_prod : List PyData → PyData → Prop := fun ds d => ∃ n : Nat, ds = [.int n] ∧ n ≤ 60 ∧ d = .int (fac n : Int)
theorem ok_product_to (Fn : Fun K "product_to" "product_to" s_product_to f fd) (T : Bt P mg base) : FnOk P w K mg base CX0 41 f fd ["many"] (spR K R_prod) := by
  refine fn_data Fn sc_product_to (by decide) (fun ds d ⟨_, h, _⟩ => by rw [h]; rfl) fun cdv A outer s H E hr => ⟨_, (pss_cons (ps_set (i := 1) sc_product_to.nd rfl (.inl rfl) pe_int)
      (pss_cons (ps_for PassesOwn.never rfl (pi_range1 (by rfl) T.n_range (pa_cons (pv 0) pa_nil)) (pg_name (i := 2) sc_product_to.nd rfl (Or.inl rfl)) (pss_one (ps_set (i := 1) sc_product_to.nd rfl (.inl rfl) (pe_op op_mulW (pv 1) (pe_op op_add (pv 2) pe_int)))))
      (pss_one (ps_ret (pv 1))))), ?_⟩
  rintro B Q ds d rfl hM ⟨n, rfl, hn, rfl⟩ q
  refine x_seq (x_set ex_cI ?_)
  refine x_sq (x_forR1 (ea_cons (ex_v rfl) ea_nil) (by omega) (fun i ε L => ε = [iv n, iv (fac i : Int), none] ∧ L = []) ⟨rfl, rfl⟩ ?_ ?_)
  · rintro i ε' L' hi ⟨rfl, rfl⟩
    refine x_set (ex_mul (ex_v rfl) (ex_add (ex_v rfl) ex_cI) (cmul (fac_bd' (by omega)) (Bd.of (k := 7) (n := 128) (by omega) (by omega) (by decide)) (by decide))) ?_
    exact x_abs ⟨rfl, rfl⟩ ⟨.inr rfl, .inr (by rw [fac_succ, Int.natCast_mul]; rfl), .inl rfl, trivial⟩
  · rintro ε' L' ⟨rfl, rfl⟩
    exact x_ret (ex_v rfl) fun v F σ H r o => q v F H (hM ▸ r.nx) o
def R_falls : List PyData → PyData → Prop := fun ds d => ∃ l : List Int, ds = [ti l] ∧ l.length ≤ 60 ∧ d = .int (fallsN l : Int)
theorem ok_falls_number (Fn : Fun K "falls_number" "falls_number" s_falls_number f fd) (T : Bt P mg base) : FnOk P w K mg base CX0 41 f fd ["order"] (spR K R_falls) := by
  refine fn_data Fn sc_falls_number (by decide) (fun ds d ⟨_, h, _⟩ => by rw [h]; rfl) fun cdv A outer s H E hr => ⟨_, (pss_one (ps_ret (pe_callB (r := Evl.rLenS K) call_len_seq (by rfl) T.n_len (by decide +kernel) (pa_cons (pe_lc (own := [("i", 1)]) rfl sc_falls_number.nd (pi_range2 (by rfl) T.n_range (pa_cons pe_int (pa_cons (pe_callB (r := Evl.rLenS K) call_len_seq (by rfl) T.n_len (by decide +kernel) (pa_cons (pv 0) pa_nil)) pa_nil))) (blkOk_by (own := [("i", 1)]) (N := ["order", "i"]) (sc := defScope s_falls_number) (by decide +kernel)) (fun _ _ _ _ _ => (pg_name (i := 1) sc_falls_number.nd rfl (Or.inl rfl))) (fun _ _ _ _ _ => (pts_one (pt_cmpR op_gt (pe_ix (r := rIxT K) ix_tup (pv 0) (pe_op op_sub (pv 1) pe_int) (fun _ _ => rfl)) (pe_ix (r := rIxT K) ix_tup (pv 0) (pv 1) (fun _ _ => rfl)) (nomark _)))) (fun _ _ _ _ _ => (pv 1))) pa_nil)))), ?_⟩
  rintro B Q ds d rfl hM ⟨l, rfl, hl, rfl⟩ q
  have e0 : ((l.map PyData.int).length : Int) = (l.length : Int) := by rw [List.length_map]
  have hi0 : ∀ i : Nat, (1 : Int) + i < l.length → atI (l.map PyData.int) ((1 : Int) + i - 1) = some (.int (l.getD i 0)) := fun i hi => by
    have e : (1 : Int) + (i : Int) - 1 = (i : Int) := by omega
    rw [e]; exact at_ints (by omega)
  have hi1 : ∀ i : Nat, (1 : Int) + i < l.length → atI (l.map PyData.int) ((1 : Int) + i) = some (.int (l.getD (i + 1) 0)) := fun i hi => by
    have e : (1 : Int) + (i : Int) = ((i + 1 : Nat) : Int) := by omega
    rw [e]; exact at_ints (by omega)
  have e1 : ((l.length : Int) - 1).toNat = l.length - 1 := by omega
  refine x_ret (ex_int (ex_lenL (ex_frz (en_lcR2P (fun i => decide (l.getD (i + 1) 0 < l.getD i 0)) (fun i => .int (1 + (i : Int))) (ea_cons ex_cI (ea_cons (ex_int (ex_lenT (ds := l.map PyData.int) (ex_v rfl) rfl) e0) ea_nil)) (by omega) (by simp)
    (fun i m hi => et_test (ex_gt (ex_ixT (ds := l.map PyData.int) (ex_v rfl) (ex_sub (ex_v rfl) ex_cI) (hi0 i hi)) (ex_ixT (ds := l.map PyData.int) (ex_v rfl) (ex_v rfl) (hi1 i hi)))) (fun i m hi _ => ex_v rfl) (by omega))) .d rfl) ?_) fun v F σ H r o => q v F H (hM ▸ r.nx) o
  rw [List.length_map, e1]; rfl
end K80

/-! ## A2 -/
set_option Elab.async false
set_option linter.all false
set_option maxRecDepth 100000
set_option maxHeartbeats 4000000
set_option autoImplicit false
namespace K80
open PySem L2 Fz
variable {P : Program} {w : World} {K : PySem.W.Frag} {mg : Str → Option Value} {base : Heap} {f : Addr} {fd : FuncData}
def R_dby : List PyData → PyData → Prop := fun ds d => ∃ (t : Int) (n k : Nat), ds = [.int t, .int n, .int k] ∧ Bd 410 t ∧ n ≤ 60 ∧ k ≤ 60 ∧ d = .int (dealtBy t n k)
theorem ok_dealt_by (Fn : Fun K "dealt_by" "dealt_by" s_dealt_by f fd) (T : Bt P mg base) (C_product_to : Df P w K mg base 41 "product_to" ["many"] (spR K R_prod)) :
    FnOk P w K mg base CX0 42 f fd ["t", "n", "d"] (spR K R_dby) := by
  refine fn_data Fn sc_dealt_by (by decide) (fun ds d ⟨_, _, _, h, _⟩ => by rw [h]; rfl) fun cdv A outer s H E hr => ⟨_, (pss_cons (ps_set (i := 3) sc_dealt_by.nd rfl (.inl rfl) pe_int)
      (pss_cons (ps_for PassesOwn.never rfl (pi_range1 (by rfl) T.n_range (pa_cons (pv 1) pa_nil)) (pg_name (i := 4) sc_dealt_by.nd rfl (Or.inl rfl)) (pss_one (ps_set (i := 3) sc_dealt_by.nd rfl (.inl rfl) (pe_op op_mulW (pv 3) (pe_op op_add (pe_op op_sub (pv 0) (pv 2)) (pv 4))))))
      (pss_one (ps_ret (pe_op op_fdivW (pv 3) (pe_callD C_product_to (hr.mono (by decide)) (by rfl) (pa_cons (pv 1) pa_nil))))))), ?_⟩
  rintro B Q ds d rfl hM ⟨t, n, k, rfl, ht, hn, hk, rfl⟩ q
  refine x_seq (x_set ex_cI ?_)
  refine x_sq (x_forR1 (ea_cons (ex_v rfl) ea_nil) (by omega) (fun i ε L => ε = [iv t, iv n, iv k, iv (prodF (t - k) i), none] ∧ L = []) ⟨rfl, rfl⟩ ?_ ?_)
  · rintro i ε' L' hi ⟨rfl, rfl⟩
    refine x_set (ex_mul (ex_v rfl) (ex_add (ex_sub (ex_v rfl) (ex_v rfl)) (ex_v rfl)) (cmul (prod_bd ht (by omega) (by omega)) (shift_bd ht (by omega) i (by omega)) (by decide))) ?_
    exact x_abs ⟨rfl, rfl⟩ ⟨.inr rfl, .inr rfl, .inr rfl, .inr rfl, .inl rfl, trivial⟩
  · rintro ε' L' ⟨rfl, rfl⟩
    refine x_ret (ex_fdiv (ex_v rfl) (ex_call (ds := [.int n]) (ea_cons (ex_v rfl) ea_nil) ⟨n, rfl, hn, rfl⟩) (cdiv ?_ (fac_bd' hn) (by decide))) fun v F σ H r o => q v F H (hM ▸ r.nx) o
    have := fac_pos n
    omega
def R_dnum : List PyData → PyData → Prop := fun ds d => ∃ (t : Int) (l : List Int), ds = [.int t, ti l] ∧ Bd 410 t ∧ l.length ≤ 60 ∧ d = .int (dealtBy t l.length (fallsN l : Int))
theorem len_ti (l : List Int) : ((l.map PyData.int).length : Int) = (l.length : Int) := by rw [List.length_map]
theorem ok_dealt_number (Fn : Fun K "dealt_number" "dealt_number" s_dealt_number f fd) (T : Bt P mg base) (C_dealt_by : Df P w K mg base 42 "dealt_by" ["t", "n", "d"] (spR K R_dby)) (C_falls_number : Df P w K mg base 41 "falls_number" ["order"] (spR K R_falls)) :
    FnOk P w K mg base CX0 43 f fd ["t", "order"] (spR K R_dnum) := by
  refine fn_data Fn sc_dealt_number (by decide) (fun ds d ⟨_, _, h, _⟩ => by rw [h]; rfl) fun cdv A outer s H E hr => ⟨_, (pss_one (ps_ret (pe_callD C_dealt_by (hr.mono (by decide)) (by rfl) (pa_cons (pv 0) (pa_cons (pe_callB (r := Evl.rLenS K) call_len_seq (by rfl) T.n_len (by decide +kernel) (pa_cons (pv 1) pa_nil)) (pa_cons (pe_callD C_falls_number (hr.mono (by decide)) (by rfl) (pa_cons (pv 1) pa_nil)) pa_nil)))))), ?_⟩
  rintro B Q ds d rfl hM ⟨t, l, rfl, ht, hl, rfl⟩ q
  have hf := fallsN_le l
  exact x_ret (ex_call (ds := [.int t, .int (l.length : Int), .int (fallsN l : Int)]) (ea_cons (ex_v rfl) (ea_cons (ex_int (ex_lenT (ds := l.map PyData.int) (ex_v rfl) rfl) (len_ti l)) (ea_cons (ex_call (ds := [ti l]) (ea_cons (ex_v rfl) ea_nil) ⟨l, rfl, hl, rfl⟩) ea_nil))) ⟨t, l.length, fallsN l, rfl, ht, hl, by omega, rfl⟩) fun v F σ H r o => q v F H (hM ▸ r.nx) o
def R_chance : List PyData → PyData → Prop := fun ds d => ∃ (t : Int) (l : List Int), ds = [.int t, ti l] ∧ 0 < t ∧ Bd 410 t ∧ l.length ≤ 60 ∧ d = frD (dealtBy t l.length (fallsN l : Int)) (t ^ l.length)
theorem ok_deal_chance (Fn : Fun K "deal_chance" "deal_chance" s_deal_chance f fd) (T : Bt P mg base) (C_fraction_of : Df P w K mg base 42 "fraction_of" ["top", "bottom"] (spR K R_frac)) (C_dealt_number : Df P w K mg base 43 "dealt_number" ["t", "order"] (spR K R_dnum))
    (C_power_of : Df P w K mg base 41 "power_of" ["number", "times"] (spR K R_pow)) : FnOk P w K mg base CX0 44 f fd ["piles", "order"] (spR K R_chance) := by
  refine fn_data Fn sc_deal_chance (by decide) (fun ds d ⟨_, _, h, _⟩ => by rw [h]; rfl) fun cdv A outer s H E hr => ⟨_, (pss_one (ps_ret (pe_callD C_fraction_of (hr.mono (by decide)) (by rfl) (pa_cons (pe_callD C_dealt_number (hr.mono (by decide)) (by rfl) (pa_cons (pv 0) (pa_cons (pv 1) pa_nil))) (pa_cons (pe_callD C_power_of (hr.mono (by decide)) (by rfl) (pa_cons (pv 0) (pa_cons (pe_callB (r := Evl.rLenS K) call_len_seq (by rfl) T.n_len (by decide +kernel) (pa_cons (pv 1) pa_nil)) pa_nil))) pa_nil))))), ?_⟩
  rintro B Q ds d rfl hM ⟨t, l, rfl, h0, ht, hl, rfl⟩ q
  refine x_ret (ex_call (ds := [.int _, .int _]) (ea_cons (ex_call (ds := [.int t, ti l]) (ea_cons (ex_v rfl) (ea_cons (ex_v rfl) ea_nil)) ⟨t, l, rfl, ht, hl, rfl⟩)
    (ea_cons (ex_call (ds := [.int t, .int (l.length : Int)]) (ea_cons (ex_v rfl) (ea_cons (ex_int (ex_lenT (ds := l.map PyData.int) (ex_v rfl) rfl) (len_ti l)) ea_nil)) ⟨t, l.length, 410, rfl, ht, by omega, by omega, rfl⟩) ea_nil)) ⟨_, _, rfl, Int.pow_pos h0, rfl⟩) fun v F σ H r o => q v F H (hM ▸ r.nx) o
def R_cof : List PyData → PyData → Prop := fun ds d => ∃ n : Nat, ds = [.int n] ∧ n ≤ 60 ∧ d = li (cofRow n)
theorem row_get {k d : Nat} (h : d < k + 1) : atI ((rowAt k).map PyData.int) (d : Int) = some (.int ((rowAt k).getD d 0)) := at_ints (by rw [rowAt_len]; exact h)
theorem ok_counts_of_falls (Fn : Fun K "counts_of_falls" "counts_of_falls" s_counts_of_falls f fd) (T : Bt P mg base) : FnOk P w K mg base CX0 41 f fd ["n"] (spR K R_cof) := by
  refine fn_data Fn sc_counts_of_falls (by decide) (fun ds d ⟨_, h, _⟩ => by rw [h]; rfl) fun cdv A outer s H E hr => ⟨_, (pss_cons (ps_set (i := 1) sc_counts_of_falls.nd rfl (.inl rfl) (pe_lst (pa_cons pe_int pa_nil)))
      (pss_cons (ps_for PassesOwn.never rfl (pi_range2 (by rfl) T.n_range (pa_cons pe_int (pa_cons (pe_op op_add (pv 0) pe_int) pa_nil))) (pg_name (i := 2) sc_counts_of_falls.nd rfl (Or.inl rfl)) (pss_cons (ps_set (i := 3) sc_counts_of_falls.nd rfl (.inl rfl) (pe_lst pa_nil))
      (pss_cons (ps_for PassesOwn.never rfl (pi_range1 (by rfl) T.n_range (pa_cons (pv 2) pa_nil)) (pg_name (i := 4) sc_counts_of_falls.nd rfl (Or.inl rfl)) (pss_cons (ps_set (i := 5) sc_counts_of_falls.nd rfl (.inl rfl) (pe_ifExp (pt_cmpR op_lt (pv 4) (pe_op op_sub (pv 2) pe_int) (nomark _)) (pe_op op_mulW (pe_ix (r := rIxL K) ix_list (pv 1) (pv 4) (fun _ _ => rfl)) (pe_op op_add (pv 4) pe_int)) pe_int))
      (pss_one (ps_expr (pe_bm PySem.F.plainAttrs_list PySem.F.slot_list_append PySem.F.type_list_append mt_append (pv 3) (pa_cons (pe_op op_add (pv 5) (pe_ifExp (pt_cmpR op_gt (pv 4) pe_int (nomark _)) (pe_op op_mulW (pe_ix (r := rIxL K) ix_list (pv 1) (pe_op op_sub (pv 4) pe_int) (fun _ _ => rfl)) (pe_op op_sub (pv 2) (pv 4))) pe_int)) pa_nil))))))
      (pss_one (ps_set (i := 1) sc_counts_of_falls.nd rfl (.inl rfl) (pe_callTy (r := rListOf K) call_list_of (by rfl) T.n_list (by decide +kernel) (pa_cons (pv 3) pa_nil)))))))
      (pss_one (ps_ret (pv 1))))), ?_⟩
  rintro B Q ds d rfl hM ⟨n, rfl, hn, rfl⟩ q
  refine x_seq (x_set (a := .d (li (rowAt 0))) (ex_frz (en_lst (ds := [.int 1]) (ea_cons ex_cI ea_nil) (Nat.le_of_ble_eq_true rfl))) ?_)
  refine x_sq (x_forR2 (ea_cons ex_cI (ea_cons (ex_add (ex_v rfl) ex_cI) ea_nil)) (by omega) (fun i ε L => ε = [iv n, some (.d (li (rowAt i))), none, none, none, none] ∧ L = []) ⟨rfl, rfl⟩ ?_ ?_)
  · rintro i ε' L' hi ⟨rfl, rfl⟩
    have hi2 : i + 2 ≤ n := by omega
    have em : (2 : Int) + (i : Int) = ((i + 2 : Nat) : Int) := by omega
    rw [em]
    refine x_seq (x_setN (en_lst (ds := []) ea_nil (Nat.zero_le _)) fun p hp => ?_)
    refine x_sq (x_forR1 (ea_cons (ex_v rfl) ea_nil) (by omega) (fun j ε L => ε = [iv n, some (.d (li (rowAt i))), iv ((i + 2 : Nat) : Int), some (.v (.ref p)), none, none] ∧ L = [.lst p (((List.range j).map fun (d : Nat) => (if d < i + 2 - 1 then (rowAt i).getD d 0 * ((d : Int) + 1) else 0) + (if 0 < d then (rowAt i).getD (d - 1) 0 * (((i + 2 : Nat) : Int) - d) else 0)).map PyData.int)]) ⟨rfl, rfl⟩ ?_ ?_)
    · rintro j ε' L' hj ⟨rfl, rfl⟩
      have hb := rowAt_bd i (by omega)
      refine x_seq (x_set (ex_ifI (et_test (ex_lt (ex_v rfl) (ex_sub (ex_v rfl) ex_cI))) (fun hc => ex_mul (ex_ixL (ds := (rowAt i).map PyData.int) (ex_v rfl) (ex_v rfl) .d (row_get ?_)) (ex_add (ex_v rfl) ex_cI) (cmul ((hb j).mono (show _ ≤ 1000 by omega)) (Bd.of (k := 7) (n := 128) (by omega) (by omega) (by decide)) (by decide))) (fun _ => ex_cI)) ?_)
      · have := of_decide_eq_true hc
        omega
      · refine x_app (ex_v rfl) (ex_add (ex_v rfl) (ex_ifI (et_test (ex_gt (ex_v rfl) ex_cI)) (fun hc => ex_mul (ex_ixL (ds := (rowAt i).map PyData.int) (d := .int ((rowAt i).getD (j - 1) 0)) (ex_v rfl) (ex_sub (ex_v rfl) ex_cI) .d ?_) (ex_sub (ex_v rfl) (ex_v rfl)) (cmul ((hb (j - 1)).mono (show _ ≤ 1000 by omega)) (Bd.of (k := 7) (n := 128) (by omega) (by omega) (by decide)) (by decide))) (fun _ => ex_cI))) (k := 0) rfl ⟨0, _, rfl⟩ ?_ ?_
        · have h0 : (0 : Int) < (j : Int) := of_decide_eq_true hc
          have e : (j : Int) - 1 = ((j - 1 : Nat) : Int) := by omega
          rw [e]
          exact row_get (by omega)
        · rw [List.length_map, List.length_map, List.length_range]; omega
        · refine x_abs (ε' := [iv n, some (.d (li (rowAt i))), iv ((i + 2 : Nat) : Int), some (.v (.ref p)), none, none]) ⟨rfl, ?_⟩ ⟨.inr rfl, .inr rfl, .inr rfl, .inr rfl, .inl rfl, .inl rfl, trivial⟩
          show [MO.lst p _] = [MO.lst p _]
          rw [List.range_succ, List.map_append, List.map_append]
          have e1 : decide ((j : Int) < ((i + 2 : Nat) : Int) - 1) = decide (j < i + 2 - 1) := by
            by_cases h : j < i + 2 - 1
            · rw [decide_eq_true h, decide_eq_true (by omega)]
            · rw [decide_eq_false h, decide_eq_false (by omega)]
          have e2 : decide ((0 : Int) < (j : Int)) = decide (0 < j) := by
            by_cases h : 0 < j
            · rw [decide_eq_true h, decide_eq_true (by omega)]
            · rw [decide_eq_false h, decide_eq_false (by omega)]
          rw [e1, e2]
          simp only [decide_eq_true_eq]
          rfl
    · rintro ε' L' ⟨rfl, rfl⟩
      refine x_set (a := .d (li (rowAt (i + 1)))) (ex_frz (en_list (ex_v rfl) (.o (k := 0) rfl))) ?_
      refine ho_drop (k := 0) (x_abs ⟨rfl, rfl⟩ ⟨.inr rfl, .inr rfl, .inl rfl, .inl rfl, .inl rfl, .inl rfl, trivial⟩) rfl fun x hx => by rw [hM]; exact List.not_mem_nil
  · rintro ε' L' ⟨rfl, rfl⟩
    refine x_ret (d := li (cofRow n)) (ex_is (ex_v rfl) ?_) fun v F σ H r o => q v F H (hM ▸ r.nx) o
    have e : ((n : Int) + 1 - 2).toNat = n - 1 := by omega
    rw [e]; rfl
end K80

/-! ## A3 -/
set_option Elab.async false
set_option linter.all false
set_option maxRecDepth 100000
set_option maxHeartbeats 4000000
set_option autoImplicit false
namespace K80
open PySem L2 Fz
variable {P : Program} {w : World} {K : PySem.W.Frag} {mg : Str → Option Value} {base : Heap} {f : Addr} {fd : FuncData}
def R_far : List PyData → PyData → Prop := fun ds d => ∃ (n : Nat) (p : Int), ds = [.int n, .int p] ∧ n ≤ 60 ∧ 0 < p ∧ Bd 410 p ∧ d = frD (farT n p) (farL n p)
theorem ints_at {l : List Int} {i : Nat} {d : PyData} (h : (l.map PyData.int)[i]? = some d) : i < l.length ∧ d = .int (l.getD i 0) := by
  rw [List.getElem?_map] at h
  have hi : i < l.length := by
    by_cases c : i < l.length
    · exact c
    · rw [List.getElem?_eq_none (by omega)] at h; cases h
  rw [List.getElem?_eq_getElem hi] at h
  refine ⟨hi, ?_⟩
  rw [List.getD_eq_getElem?_getD, List.getElem?_eq_getElem hi]
  cases h; rfl
theorem ok_far_from_even (Fn : Fun K "far_from_even" "far_from_even" s_far_from_even f fd) (T : Bt P mg base) (C_fraction_of : Df P w K mg base 42 "fraction_of" ["top", "bottom"] (spR K R_frac)) (C_power_of : Df P w K mg base 41 "power_of" ["number", "times"] (spR K R_pow))
    (C_product_to : Df P w K mg base 41 "product_to" ["many"] (spR K R_prod)) (C_counts_of_falls : Df P w K mg base 41 "counts_of_falls" ["n"] (spR K R_cof)) (C_dealt_by : Df P w K mg base 42 "dealt_by" ["t", "n", "d"] (spR K R_dby)) :
    FnOk P w K mg base CX0 43 f fd ["n", "piles"] (spR K R_far) := by
  refine fn_data Fn sc_far_from_even (by decide) (fun ds d ⟨_, _, h, _⟩ => by rw [h]; rfl) fun cdv A outer s H E hr => ⟨_, (pss_cons (ps_par (i := 2) (j := 3) (by rfl) sc_far_from_even.nd rfl rfl (by decide) rfl rfl (pa_cons (pe_callD C_power_of (hr.mono (by decide)) (by rfl) (pa_cons (pv 1) (pa_cons (pv 0) pa_nil))) (pa_cons (pe_callD C_product_to (hr.mono (by decide)) (by rfl) (pa_cons (pv 0) pa_nil)) pa_nil)) (by rfl))
      (pss_cons (ps_set (i := 4) sc_far_from_even.nd rfl (.inl rfl) pe_int)
      (pss_cons (ps_for PassesOwn.never rfl (pi_enum (by rfl) T.n_enumerate (pa_cons (pe_callD C_counts_of_falls (hr.mono (by decide)) (by rfl) (pa_cons (pv 0) pa_nil)) pa_nil)) (pg_tup rfl (pgs_cons (pg_name (i := 5) sc_far_from_even.nd rfl (Or.inl rfl)) (pgs_cons (pg_name (i := 6) sc_far_from_even.nd rfl (Or.inl rfl)) pgs_nil))) (pss_one (ps_set (i := 4) sc_far_from_even.nd rfl (.inl rfl) (pe_op op_add (pv 4) (pe_op op_mulW (pv 6) (pe_callB call_abs (by rfl) T.n_abs (by decide +kernel) (pa_cons (pe_op op_sub (pe_op op_mulW (pe_callD C_dealt_by (hr.mono (by decide)) (by rfl) (pa_cons (pv 1) (pa_cons (pv 0) (pa_cons (pv 5) pa_nil)))) (pv 3)) (pv 2)) pa_nil)))))))
      (pss_one (ps_ret (pe_callD C_fraction_of (hr.mono (by decide)) (by rfl) (pa_cons (pv 4) (pa_cons (pe_op op_mulW (pe_op op_mulW pe_int (pv 2)) (pv 3)) pa_nil)))))))), ?_⟩
  rintro B Q ds d rfl hM ⟨n, p, rfl, hn, h0, hp, rfl⟩ q
  refine x_seq (x_par (ea_cons (ex_call (ds := [.int p, .int n]) (ea_cons (ex_v rfl) (ea_cons (ex_v rfl) ea_nil)) ⟨p, n, 410, rfl, hp, by omega, by omega, rfl⟩) (ea_cons (ex_call (ds := [.int n]) (ea_cons (ex_v rfl) ea_nil) ⟨n, rfl, hn, rfl⟩) ea_nil)) ?_)
  refine x_sq (x_set ex_cI ?_)
  refine x_seq (x_forE (ds := (cofRow n).map PyData.int) (ea_cons (ex_call (ds := [.int n]) (ea_cons (ex_v rfl) ea_nil) ⟨n, rfl, hn, rfl⟩) ea_nil)
    (fun v i ε L => ε = [iv n, iv p, iv (p ^ n), iv (fac n : Int), iv (farS n p i), none, none] ∧ L = [.know v (li (cofRow n))]) (fun v => ⟨rfl, rfl⟩) (fun v i ε' L' h => by rw [h.2]; exact List.mem_singleton_self _) ?_ ?_)
  · rintro v i d ε' L' hd ⟨rfl, rfl⟩
    obtain ⟨hi, rfl⟩ := ints_at hd
    rw [cof_len] at hi
    refine ⟨_, gt_tup2, x_set (ex_add (ex_v rfl) (ex_mul (ex_v rfl) (ex_abs (ex_sub (ex_mul (ex_call (ds := [.int p, .int n, .int (i : Int)]) (ea_cons (ex_v rfl) (ea_cons (ex_v rfl) (ea_cons (ex_v rfl) ea_nil))) ⟨p, n, i, rfl, hp, hn, by omega, rfl⟩) (ex_v rfl) (cmul (dealt_bd hp (by omega) hn) (fac_bd' hn) (by decide))) (ex_v rfl))) ?_)) ?_⟩
    · rw [abs_if]
      exact cmul (row_bd hn i) (diff_bd hp (by omega) hn).abs (by decide)
    · refine x_abs ⟨rfl, rfl⟩ ⟨.inr rfl, .inr rfl, .inr rfl, .inr rfl, .inr ?_, .inl rfl, .inl rfl, trivial⟩
      rw [abs_if]; rfl
  · rintro v ε' L' ⟨rfl, rfl⟩
    refine x_ret (ex_call (ds := [.int (farT n p), .int (farL n p)]) (ea_cons (ex_int (ex_v rfl) ?_) (ea_cons (ex_mul (ex_mul ex_cI (ex_v rfl) (cmul (Bd.of (k := 2) (x := 2) (n := 3) (by decide) (by decide) (by decide)) (pow_bd' hp hn) (by decide))) (ex_v rfl) (cmul ((Bd.of (k := 2) (x := 2) (n := 3) (by decide) (by decide) (by decide)).mul (pow_bd' hp hn)) (fac_bd' hn) (by decide))) ea_nil)) ⟨_, _, rfl, farL_pos h0, rfl⟩) fun v F σ H r o => q v F H (hM ▸ r.nx) o
    rw [List.length_map]; rfl
def R_few : List PyData → PyData → Prop := fun ds d => ∃ (n : Nat) (p a b : Int), ds = [.int n, .int p, .tuple [.int a, .int b]] ∧ n ≤ 60 ∧ 0 < p ∧ Bd 20 p ∧ Bd 100000 a ∧ Bd 100000 b ∧ d = optD (fewM n p a b)
theorem pow20 {p : Int} (hp : Bd 20 p) {m : Nat} (hm : m ≤ 20) : Bd 410 (p ^ m) := (hp.pow m).mono (by omega)
theorem ok_fewest_deals (Fn : Fun K "fewest_deals" "fewest_deals" s_fewest_deals f fd) (T : Bt P mg base) (C_is_less_fraction : Df P w K mg base 41 "is_less_fraction" ["one", "other"] (spR K R_less)) (C_far_from_even : Df P w K mg base 43 "far_from_even" ["n", "piles"] (spR K R_far)) :
    FnOk P w K mg base CX0 44 f fd ["n", "piles", "share"] (spR K R_few) := by
  refine fn_data Fn sc_fewest_deals (by decide) (fun ds d ⟨_, _, _, _, h, _⟩ => by rw [h]; rfl) fun cdv A outer s H E hr => ⟨_, (pss_cons (ps_set (i := 3) sc_fewest_deals.nd rfl (.inl rfl) pe_int)
      (pss_cons (ps_for PassesOwn.never rfl (pi_range1 (by rfl) T.n_range (pa_cons (pe_op op_add (pe_glob (v := .int 20) rfl T.c_MAX_DEALS.choose_spec ⟨_, rfl⟩) pe_int) pa_nil)) (pg_name (i := 4) sc_fewest_deals.nd rfl (Or.inl rfl)) (pss_cons (ps_if (pt_not (pt_val (pe_callD C_is_less_fraction (hr.mono (by decide)) (by rfl) (pa_cons (pv 2) (pa_cons (pe_callD C_far_from_even (hr.mono (by decide)) (by rfl) (pa_cons (pv 0) (pa_cons (pv 3) pa_nil))) pa_nil))))) (pss_one (ps_ret (pv 4))) pss_nil)
      (pss_one (ps_set (i := 3) sc_fewest_deals.nd rfl (.inl rfl) (pe_op op_mulW (pv 3) (pv 1))))))
      (pss_one (ps_ret pe_non)))), ?_⟩
  rintro B Q ds d rfl hM ⟨n, p, a, b, rfl, hn, h0, hp, ha, hb, rfl⟩ q
  refine x_seq (x_set ex_cI ?_)
  refine x_sq (x_forR1 (n := 21) (ea_cons (ex_int (ex_add ex_cI ex_cI) (by decide)) ea_nil) (by decide) (fun i ε L => ε = [iv n, iv p, some (.d (.tuple [.int a, .int b])), iv (p ^ i), none] ∧ L = [] ∧ ∀ j, j < i → fewT n p a b j = false) ⟨by rw [Int.pow_zero]; rfl, rfl, fun j hj => absurd hj (Nat.not_lt_zero _)⟩ ?_ ?_)
  · rintro i ε' L' hi ⟨rfl, rfl, hj⟩
    have hi2 : i < 21 := by omega
    have hpi := pow20 hp (show i ≤ 20 by omega)
    have hpos : 0 < p ^ i := Int.pow_pos h0
    have hl := farL_pos (n := n) hpos
    have key : (!decide (a * (farL n (p ^ i) / (Int.gcd (farT n (p ^ i)) (farL n (p ^ i)) : Int)) < farT n (p ^ i) / (Int.gcd (farT n (p ^ i)) (farL n (p ^ i)) : Int) * b)) = fewT n p a b i := by
      unfold fewT
      by_cases c : a * farL n (p ^ i) < farT n (p ^ i) * b
      · rw [decide_eq_true ((less_red hl).mpr c), decide_eq_false (by omega)]; rfl
      · rw [decide_eq_false (fun z => c ((less_red hl).mp z)), decide_eq_true (by omega)]; rfl
    refine x_seq (x_if (et_is (et_not (et_B (ex_call (ds := [.tuple [.int a, .int b], frD (farT n (p ^ i)) (farL n (p ^ i))]) (ea_cons (ex_v rfl) (ea_cons (ex_call (ds := [.int n, .int (p ^ i)]) (ea_cons (ex_v rfl) (ea_cons (ex_v rfl) ea_nil)) ⟨n, p ^ i, rfl, hn, hpos, hpi, rfl⟩) ea_nil))
      ⟨a, b, _, _, rfl, ha, hb, ((farT_bd hpi hn).div).mono (by decide), ((farL_bd hpi hn).div).mono (by decide), rfl⟩))) key) (fun hc => ?_) fun hc => ?_)
    · refine x_ret (ex_v rfl) ?_
      refine fun v F σ H r o => q v F H (hM ▸ r.nx) ?_
      have e : fewM n p a b = some i := find_at hi2 hc hj
      rw [e]; exact o
    · refine x_next (x_set (ex_mul (ex_v rfl) (ex_v rfl) (cmul hpi hp (by decide))) ?_)
      refine x_abs ⟨rfl, rfl, fun j h => ?_⟩ ⟨.inr rfl, .inr rfl, .inr rfl, .inr (by rw [Int.pow_succ]), .inl rfl, trivial⟩
      by_cases e : j = i
      · rw [e]; exact hc
      · exact hj j (by omega)
  · rintro ε' L' ⟨rfl, rfl, hj⟩
    refine nxt (x_ret ex_cN fun v F σ H r o => q v F H (hM ▸ r.nx) ?_)
    have e : fewM n p a b = none := find_no hj
    rw [e]; exact o
end K80

/-! ## A4 -/
set_option Elab.async false
set_option linter.all false
set_option maxRecDepth 100000
set_option maxHeartbeats 4000000
set_option autoImplicit false
namespace K80
open PySem L2 Fz
variable {P : Program} {w : World} {K : PySem.W.Frag} {mg : Str → Option Value} {base : Heap} {f : Addr} {fd : FuncData}
theorem small_div {n : Int} (h : 0 < n) (hn : n.natAbs < 2 ^ 8000) (i : Int) : CDivW i n := wide_div (b := 8000) h hn (by decide) (by decide)
theorem last_get {r : List Int} {c : Int} : (r.reverse ++ [c])[(r.reverse ++ [c]).length - 1]? = some c := by
  rw [List.length_append, List.length_singleton, Nat.add_sub_cancel, List.getElem?_append_right (Nat.le_refl _), Nat.sub_self]; rfl
theorem ok_law_draw (Fn : Fun K "_law_draw" "_law_draw" s_law_draw f fd) (T : Bt P mg base) : FnOk P w K mg base CX0 41 f fd ["bag", "below"] (spB K R_draw) := by
  refine fn_bag Fn sc_law_draw (by decide) (fun b ds d b' ⟨_, _, _, h, _⟩ => by rw [h]; rfl) fun cdv A outer s H E hr => ⟨_, (pss_cons (ps_while PassesOwn.never (PW.pt (pw_and (pt_cmpR op_eq (pe_ix (r := rIxL K) ix_list (pv 0) pe_int (fun _ _ => rfl)) pe_int (nomark _)) (pw_and1 (pt_cmpR (r := rNeD K) (op_neD hr.units) (pe_ix (r := rIxL K) ix_list (pv 0) pe_int (fun _ _ => rfl)) (pe_lst pa_nil) (nomark _))))) (pss_cons (ps_set (i := 2) sc_law_draw.nd rfl (.inl rfl) (pe_bm0 PySem.F.plainAttrs_list PySem.F.slot_list_pop PySem.F.type_list_pop mt_pop (pe_ix (r := rIxL K) ix_list (pv 0) pe_int (fun _ _ => rfl))))
      (pss_one (ps_asg (pe_ifExp (pt_cmpR op_gt (pv 2) (pe_op op_pow pe_int pe_int) (nomark _)) (pv 2) pe_int) (pg_sub (pv 0) pe_int set_list)))))
      (pss_cons (ps_if (pt_cmpR op_gt (pe_ix (r := rIxL K) ix_list (pv 0) pe_int (fun _ _ => rfl)) pe_int (nomark _)) (pss_cons (ps_set (i := 3) sc_law_draw.nd rfl (.inl rfl) (pe_op op_mod (pe_ix (r := rIxL K) ix_list (pv 0) pe_int (fun _ _ => rfl)) (pv 1)))
      (pss_cons (ps_asg (pe_op op_fdivW (pe_ix (r := rIxL K) ix_list (pv 0) pe_int (fun _ _ => rfl)) (pv 1)) (pg_sub (pv 0) pe_int set_list))
      (pss_one (ps_ret (pv 3))))) pss_nil)
      (pss_cons (ps_asg (pe_op op_mod (pe_op op_add (pe_op op_mulW (pe_ix (r := rIxL K) ix_list (pv 0) pe_int (fun _ _ => rfl)) pe_int) pe_int) pe_int) (pg_sub (pv 0) pe_int set_list))
      (pss_one (ps_ret (pe_op op_mod (pe_op op_fdivW (pe_op op_mod (pe_op op_mulW (pe_ix (r := rIxL K) ix_list (pv 0) pe_int (fun _ _ => rfl)) (pe_ix (r := rIxL K) ix_list (pv 0) pe_int (fun _ _ => rfl))) pe_int) pe_int) (pv 1))))))), ?_⟩
  rintro B Q pb pc b ds d b' rfl hM ⟨n, hn, hz, rfl, rfl, rfl⟩ q
  refine x_seq (x_while (m0 := b.cells.length) (fun m ε L => ∃ (r : List Int) (u : Int), m = r.length ∧ fetchR r u = fetchR b.cells.reverse b.cur ∧ 0 ≤ u ∧ (∀ c ∈ r, 0 ≤ c) ∧ ε = [some (.v (.ref pb)), iv n, none, none] ∧ L = [.bag pb pc r.reverse u b.mix])
    ⟨b.cells.reverse, b.cur, by rw [List.length_reverse], rfl, b.ok.2.2.1, fun c hc => b.ok.2.2.2 c (List.mem_reverse.mp hc), rfl, by rw [List.reverse_reverse]; rfl⟩ ?_)
  rintro m ε' L' ⟨r, u, rfl, hf, hu, hr0, rfl, rfl⟩
  refine ⟨_, _, et_and (et_test (ex_eqI (ex_bag1 (k := 0) (ex_v rfl) ex_cI rfl) ex_cI)) (fun _ => et_test (ex_bagFull (k := 0) (ex_bag0 (k := 0) (ex_v rfl) ex_cI rfl) rfl)) (fun _ => rfl), fun hb => ?_, fun hb => ?_⟩
  · rw [Bool.and_eq_true] at hb
    have hu0 : u = 0 := of_decide_eq_true hb.1
    match r, hf, hr0, hb with
    | [], _, _, hb => exact absurd hb.2 (by decide)
    | c :: r, hf, hr0, hb =>
      have hc0 := hr0 c List.mem_cons_self
      refine x_seq (x_set (a := .d (.int c)) (ex_popBag (k := 0) (ex_bag0 (k := 0) (ex_v rfl) ex_cI rfl) rfl (by rw [List.reverse_cons]; exact last_get)) ?_)
      refine nxt (x_bag1 (k := 0) (ex_ifI (et_test (ex_gt (ex_v rfl) (ex_int (k := 1000000000) (ex_pow ex_cI ex_cI ⟨by decide, by decide, by decide⟩) (by decide +kernel)))) (fun _ => ex_v rfl) (fun _ => ex_cI)) (ex_v rfl) ex_cI rfl ?_)
      refine x_abs (ε' := [some (.v (.ref pb)), iv n, none, none]) ⟨r.length, Nat.lt_succ_self _, r, (if 1000000000 < c then c else 0), rfl, ?_, ?_, fun x hx => hr0 x (List.mem_cons_of_mem _ hx), rfl, ?_⟩ ⟨.inr rfl, .inr rfl, .inl rfl, .inl rfl, trivial⟩
      · rw [← hf, hu0]
        show _ = if (0 : Int) = 0 then _ else _
        rw [if_pos rfl]
      · split
        · exact hc0
        · exact Int.le_refl 0
      · show [MO.bag pb pc _ _ _] = [MO.bag pb pc _ _ _]
        rw [List.reverse_cons, List.dropLast_concat]
        simp only [decide_eq_true_eq]
  · have hdone : fetchR r u = (r, u) := by
      match r, hb with
      | [], _ => rfl
      | c :: r, hb =>
        have hu1 : u ≠ 0 := fun e => by
          subst e
          rw [List.reverse_cons] at hb
          simp at hb
        show (if u = 0 then _ else _) = _
        rw [if_neg hu1]
    rw [hdone] at hf
    have e1 : fetchC b = r := by unfold fetchC; rw [← hf]
    have e2 : fetchU b = u := by unfold fetchU; rw [← hf]
    refine nxt (x_seq (x_if (et_test (ex_gt (ex_bag1 (k := 0) (ex_v rfl) ex_cI rfl) ex_cI)) (fun hc => ?_) fun hc => ?_))
    · have hu1 : 0 < u := of_decide_eq_true hc
      obtain ⟨d1, d2, d3⟩ := drawB_pos hn (b := b) (by rw [e2]; exact hu1)
      refine x_seq (x_set (ex_mod (ex_bag1 (k := 0) (ex_v rfl) ex_cI rfl) (ex_v rfl) hn) ?_)
      refine x_sq (x_bag1 (k := 0) (ex_fdiv (ex_bag1 (k := 0) (ex_v rfl) ex_cI rfl) (ex_v rfl) (small_div hn hz u)) (ex_v rfl) ex_cI rfl ?_)
      refine nxt (x_ret (ex_v rfl) fun v F σ H rp o => q v F H (hM ▸ rp.nx) ?_ ?_)
      · rw [d1, d2, d3, e1, e2]; exact rp.bag List.mem_cons_self
      · unfold drawV; rw [e2, if_pos hu1]; exact o
    · have hu1 : ¬ 0 < u := of_decide_eq_false hc
      obtain ⟨d1, d2, d3⟩ := drawB_zero hn (b := b) (by rw [e2]; exact hu1)
      have m1 := b.ok.1
      have m2 := b.ok.2.1
      have n1 := nextM_ok b.mix
      refine x_next (x_sq (x_bag2 (k := 0) (ex_mod (ex_add (ex_mul (ex_bag2 (k := 0) (ex_v rfl) ex_cI rfl) ex_cI (cmul (Bd.of (k := 32) (n := 2147483648) (by omega) (by omega) (by decide)) (Bd.of (k := 16) (n := 48272) (by decide) (by decide) (by decide)) (by decide))) ex_cI) ex_cI (by decide)) (ex_v rfl) ex_cI rfl ?_))
      refine nxt (x_ret (ex_mod (ex_fdiv (ex_mod (ex_mul (ex_bag2 (k := 0) (ex_v rfl) ex_cI rfl) (ex_bag2 (k := 0) (ex_v rfl) ex_cI rfl) ?_) ex_cI (by decide)) ex_cI (cdiv (b := 3) (by decide) (by unfold Bd; decide) (by decide))) (ex_v rfl) hn) fun v F σ H rp o => q v F H (hM ▸ rp.nx) ?_ ?_)
      · have hb : Bd 32 (nextM b.mix) := Bd.of (k := 32) (n := 2147483648) (by omega) (by omega) (by decide)
        exact cmul hb hb (by decide)
      · rw [d1, d2, d3, e1, e2]; exact rp.bag List.mem_cons_self
      · unfold drawV; rw [e2, if_neg hu1]; exact o
end K80

/-! ## A5 -/
set_option Elab.async false
set_option linter.all false
set_option maxRecDepth 100000
set_option maxHeartbeats 4000000
set_option autoImplicit false
namespace K80
open PySem L2 Fz
variable {P : Program} {w : World} {K : PySem.W.Frag} {mg : Str → Option Value} {base : Heap} {f : Addr} {fd : FuncData}
theorem ok_law_pick (Fn : Fun K "_law_pick" "_law_pick" s_law_pick f fd) (T : Bt P mg base) (C_law_draw : Df P w K mg base 41 "_law_draw" ["bag", "below"] (spB K R_draw)) : FnOk P w K mg base CX0 42 f fd ["bag", "some"] (spB K R_pick) := by
  refine fn_bag Fn sc_law_pick (by decide) (fun b ds d b' ⟨_, _, _, h, _⟩ => by rw [h]; rfl) fun cdv A outer s H E hr => ⟨_, (pss_one (ps_ret (pe_ix (r := rIxL K) ix_list (pv 1) (pe_callD C_law_draw (hr.mono (by decide)) (by rfl) (pa_cons (pv 0) (pa_cons (pe_callB (r := Evl.rLenS K) call_len_seq (by rfl) T.n_len (by decide +kernel) (pa_cons (pv 1) pa_nil)) pa_nil))) (fun _ _ => rfl)))), ?_⟩
  rintro B Q pb pc b ds d b' rfl hM ⟨xs, hx, hz, rfl, rfl, rfl⟩ q
  have hl : 0 < (xs.length : Int) := by
    have := List.length_pos_iff.mpr hx
    omega
  have hv := drawV_ok b hl
  refine x_ret (ex_ixL (ds := xs) (ex_v rfl) (ex_callB (k := 0) (ds := [.int (xs.length : Int)]) (ea_cons (ex_v rfl) (ea_cons (ex_lenL (ex_v rfl) .d rfl) ea_nil)) rfl ⟨xs.length, hl, ?_, rfl, rfl, rfl⟩) .d ?_) fun v F σ H rp o => q v F H (hM ▸ rp.nx) (rp.bag List.mem_cons_self) o
  · have e : (xs.length : Int).natAbs < 2 ^ 20 := by omega
    exact Nat.lt_of_lt_of_le e (Nat.pow_le_pow_right (by decide) (by decide))
  · have e : drawV b xs.length = (((drawV b xs.length).toNat : Nat) : Int) := by omega
    rw [e]
    refine atI_nat ?_
    have hlt : (drawV b xs.length).toNat < xs.length := by omega
    rw [Int.toNat_natCast, List.getElem?_eq_getElem hlt, List.getD_eq_getElem?_getD, List.getElem?_eq_getElem hlt]; rfl
theorem ok_law_gcd (Fn : Fun K "_law_gcd" "_law_gcd" s_law_gcd f fd) (T : Bt P mg base) : FnOk P w K mg base CX0 41 f fd ["one", "other"] (spR K R_cm) := by
  refine fn_data Fn sc_law_gcd (by decide) (fun ds d ⟨a, b, h, _⟩ => by rw [h]; rfl) fun cdv A outer s H E hr => ⟨_, (pss_cons (ps_par (i := 0) (j := 1) (by rfl) sc_law_gcd.nd rfl rfl (by decide) rfl rfl (pa_cons (pe_callB call_abs (by rfl) T.n_abs (by decide +kernel) (pa_cons (pv 0) pa_nil)) (pa_cons (pe_callB call_abs (by rfl) T.n_abs (by decide +kernel) (pa_cons (pv 1) pa_nil)) pa_nil)) (by rfl))
      (pss_cons (ps_while PassesOwn.never (pt_cmpR op_ne (pv 1) pe_int (nomark _)) (pss_one (ps_par (i := 0) (j := 1) (by rfl) sc_law_gcd.nd rfl rfl (by decide) rfl rfl (pa_cons (pv 1) (pa_cons (pe_op op_mod (pv 0) (pv 1)) pa_nil)) (by rfl))))
      (pss_one (ps_ret (pv 0))))), ?_⟩
  rintro B Q ds d rfl hM ⟨a, b, rfl, rfl⟩ q
  refine x_seq (x_par (ea_cons (ex_abs (ex_v rfl)) (ea_cons (ex_abs (ex_v rfl)) ea_nil)) ?_)
  rw [abs_if, abs_if]
  refine x_sq (x_while (m0 := (b.natAbs : Int).toNat) (fun m ε L => ∃ x y : Int, 0 ≤ x ∧ 0 ≤ y ∧ Int.gcd x y = Int.gcd a b ∧ m = y.toNat ∧ ε = [iv x, iv y] ∧ L = []) ⟨a.natAbs, b.natAbs, by omega, by omega, by show Nat.gcd _ _ = _; simp [Int.gcd], rfl, rfl, rfl⟩ ?_)
  rintro m ε' L' ⟨x, y, hx, hy, hg, rfl, rfl, rfl⟩
  refine ⟨_, _, et_test (ex_neI (ex_v rfl) ex_cI), fun hb => ?_, fun hb => ?_⟩
  · have hy0 : y ≠ 0 := by simpa using hb
    refine x_par (ea_cons (ex_v rfl) (ea_cons (ex_mod (ex_v rfl) (ex_v rfl) (by omega)) ea_nil)) ?_
    refine x_abs ⟨(x % y).toNat, ?_, y, x % y, hy, Int.emod_nonneg _ hy0, ?_, rfl, rfl, rfl⟩ (Wk.refl _)
    · have := Int.emod_lt_of_pos x (show 0 < y by omega)
      have := Int.emod_nonneg x hy0
      omega
    · rw [gcd_step hx (by omega), hg]
  · have hy0 : y = 0 := by simpa using hb
    subst hy0
    refine nxt (x_ret (ex_v rfl) fun v F σ H r o => q v F H (hM ▸ r.nx) ?_)
    rw [← hg, Int.gcd_zero_right]
    have : (x.natAbs : Int) = x := by omega
    rw [this]; exact o
theorem ok_law_least (Fn : Fun K "_law_least" "_law_least" s_law_least f fd) (T : Bt P mg base) (C_law_gcd : Df P w K mg base 41 "_law_gcd" ["one", "other"] (spR K R_cm)) : FnOk P w K mg base CX0 42 f fd ["top", "low"] (spR K R_frac) := by
  refine fn_data Fn sc_law_least (by decide) (fun ds d ⟨a, b, h, _⟩ => by rw [h]; rfl) fun cdv A outer s H E hr => ⟨_, (pss_cons (ps_set (i := 2) sc_law_least.nd rfl (.inl rfl) (pe_callD C_law_gcd (hr.mono (by decide)) (by rfl) (pa_cons (pv 0) (pa_cons (pv 1) pa_nil))))
      (pss_one (ps_ret (pe_tup (pa_cons (pe_op (op_fdivP hr T.hpl) (pv 0) (pv 2)) (pa_cons (pe_op (op_fdivP hr T.hpl) (pv 1) (pv 2)) pa_nil)))))), ?_⟩
  rintro B Q ds d rfl hM ⟨t, b, rfl, hb, rfl⟩ q
  have hg := gcd_pos (t := t) hb
  refine x_seq (x_set (ex_call (ds := [.int t, .int b]) (ea_cons (ex_v rfl) (ea_cons (ex_v rfl) ea_nil)) ⟨t, b, rfl, rfl⟩) ?_)
  exact nxt (x_ret (ex_tup (ds := [.int _, .int _]) (ea_cons (ex_fdivP (ex_v rfl) (ex_v rfl) hg) (ea_cons (ex_fdivP (ex_v rfl) (ex_v rfl) hg) ea_nil)) (Nat.le_of_ble_eq_true rfl)) fun v F σ H r o => q v F H (hM ▸ r.nx) o)
theorem ok_law_times (Fn : Fun K "_law_times" "_law_times" s_law_times f fd) (T : Bt P mg base) : FnOk P w K mg base CX0 41 f fd ["one", "many"] (spR K R_pow) := by
  refine fn_data Fn sc_law_times (by decide) (fun ds d ⟨_, _, _, h, _⟩ => by rw [h]; rfl) fun cdv A outer s H E hr => ⟨_, (pss_cons (ps_set (i := 2) sc_law_times.nd rfl (.inl rfl) pe_int)
      (pss_cons (ps_for PassesOwn.never rfl (pi_range1 (by rfl) T.n_range (pa_cons (pv 1) pa_nil)) (pg_name (i := 3) sc_law_times.nd rfl (Or.inl rfl)) (pss_one (ps_set (i := 2) sc_law_times.nd rfl (.inl rfl) (pe_op op_mulW (pv 2) (pv 0)))))
      (pss_one (ps_ret (pv 2))))), ?_⟩
  rintro B Q ds d rfl hM ⟨x, n, k, rfl, hx, hk, hn, rfl⟩ q
  refine x_seq (x_set ex_cI ?_)
  refine x_sq (x_forR1 (ea_cons (ex_v rfl) ea_nil) (by omega) (fun i ε L => ε = [iv x, iv n, iv (x ^ i), none] ∧ L = []) ⟨by rw [Int.pow_zero]; rfl, rfl⟩ ?_ ?_)
  · rintro i ε' L' hi ⟨rfl, rfl⟩
    refine x_set (ex_mul (ex_v rfl) (ex_v rfl) (pow_side hx hk (by omega))) ?_
    exact x_abs ⟨rfl, rfl⟩ ⟨.inr rfl, .inr rfl, .inr (by rw [Int.pow_succ]), .inl rfl, trivial⟩
  · rintro ε' L' ⟨rfl, rfl⟩
    exact nxt (x_ret (ex_v rfl) fun v F σ H r o => q v F H (hM ▸ r.nx) o)
theorem filter_yes {α : Type} (l : List α) : l.filter (fun _ => true) = l := List.filter_eq_self.mpr fun _ _ => rfl
theorem getD_cons0 {l : List Int} {i : Nat} : ((0 : Int) :: l).getD i 0 = if 0 < i then l.getD (i - 1) 0 else 0 := by
  cases i with
  | zero => rfl
  | succ i => rfl
theorem getD_snoc0 {l : List Int} {i : Nat} : (l ++ [(0 : Int)]).getD i 0 = if i < l.length then l.getD i 0 else 0 := by
  rw [List.getD_eq_getElem?_getD, List.getD_eq_getElem?_getD]
  split
  · rw [List.getElem?_append_left (by assumption)]
  · rw [List.getElem?_append_right (by omega)]
    cases h : i - l.length with
    | zero => rfl
    | succ k => rfl
theorem ok_law_falls_row (Fn : Fun K "_law_falls_row" "_law_falls_row" s_law_falls_row f fd) (T : Bt P mg base) : FnOk P w K mg base CX0 41 f fd ["n"] (spR K R_cof) := by
  refine fn_data Fn sc_law_falls_row (by decide) (fun ds d ⟨_, h, _⟩ => by rw [h]; rfl) fun cdv A outer s H E hr => ⟨_, (pss_cons (ps_set (i := 1) sc_law_falls_row.nd rfl (.inl rfl) (pe_lst (pa_cons pe_int pa_nil)))
      (pss_cons (ps_for PassesOwn.never rfl (pi_range2 (by rfl) T.n_range (pa_cons pe_int (pa_cons (pe_op op_add (pv 0) pe_int) pa_nil))) (pg_name (i := 2) sc_law_falls_row.nd rfl (Or.inr rfl)) (pss_cons (ps_asg (pe_tup (pa_cons (pe_op op_cat (pe_lst (pa_cons pe_int pa_nil)) (pv 1)) (pa_cons (pe_op op_cat (pv 1) (pe_lst (pa_cons pe_int pa_nil))) pa_nil))) (pg_tup rfl (pgs_cons (pg_name (i := 3) sc_law_falls_row.nd rfl (Or.inr rfl)) (pgs_cons (pg_name (i := 4) sc_law_falls_row.nd rfl (Or.inr rfl)) pgs_nil))))
      (pss_one (ps_setLc (i := 1) (own := [("d", 5)]) rfl sc_law_falls_row.nd rfl rfl (sw_true rfl rfl rfl (by decide +kernel)) (pi_range1 (by rfl) T.n_range (pa_cons (pv 2) pa_nil)) (blkOk_by (own := [("d", 5)]) (N := ["n", "row", "many", "ahead", "same", "d"]) (sc := defScope s_law_falls_row) (by decide +kernel)) (fun _ _ _ _ _ => (pg_name (i := 5) sc_law_falls_row.nd rfl (Or.inl rfl))) (fun _ _ _ _ _ => pts_nil) (fun _ _ _ _ _ => (pe_op op_add (pe_op op_mulW (pe_op op_add (pv 5) pe_int) (pe_ix (r := rIxL K) ix_list (pv 4) (pv 5) (fun _ _ => rfl))) (pe_op op_mulW (pe_op op_sub (pv 2) (pv 5)) (pe_ix (r := rIxL K) ix_list (pv 3) (pv 5) (fun _ _ => rfl)))))))))
      (pss_one (ps_ret (pv 1))))), ?_⟩
  rintro B Q ds d rfl hM ⟨n, rfl, hn, rfl⟩ q
  refine x_seq (x_set (a := .d (li (rowAt 0))) (ex_frz (en_lst (ds := [.int 1]) (ea_cons ex_cI ea_nil) (Nat.le_of_ble_eq_true rfl))) ?_)
  refine x_sq (x_forR2 (ea_cons ex_cI (ea_cons (ex_add (ex_v rfl) ex_cI) ea_nil)) (by omega) (fun i ε L => ε = [iv n, some (.d (li (rowAt i))), none, none, none, none] ∧ L = []) ⟨rfl, rfl⟩ ?_ ?_)
  · rintro i ε' L' hi ⟨rfl, rfl⟩
    have hi2 : i + 2 ≤ n := by omega
    have em : (2 : Int) + (i : Int) = ((i + 2 : Nat) : Int) := by omega
    rw [em]
    have hln := rowAt_len i
    have hb := rowAt_bd i (by omega)
    refine x_seq (x_asg (ex_tup (ds := [li (0 :: rowAt i), li (rowAt i ++ [0])]) (ea_cons (ex_frz (en_cat (ds := [.int 0]) (es := (rowAt i).map PyData.int) (ex_frz (en_lst (ds := [.int 0]) (ea_cons ex_cI ea_nil) (Nat.le_of_ble_eq_true rfl))) (ex_v rfl) .d .d (by rw [List.length_map, hln, List.length_singleton]; omega)))
      (ea_cons (ex_is (ex_frz (en_cat (es := [.int 0]) (ds := (rowAt i).map PyData.int) (ex_v rfl) (ex_frz (en_lst (ds := [.int 0]) (ea_cons ex_cI ea_nil) (Nat.le_of_ble_eq_true rfl))) .d .d (by rw [List.length_map, hln, List.length_singleton]; omega))) (by unfold li; rw [List.map_append]; rfl)) ea_nil)) (Nat.le_of_ble_eq_true rfl)) gt_tup2 ?_)
    have h1 : ∀ j : Nat, (j : Int) < ((i + 2 : Nat) : Int) → atI ((rowAt i ++ [0]).map PyData.int) (j : Int) = some (.int ((rowAt i ++ [0]).getD j 0)) := fun j hj => at_ints (by rw [List.length_append, hln, List.length_singleton]; omega)
    have h2 : ∀ j : Nat, (j : Int) < ((i + 2 : Nat) : Int) → atI ((0 :: rowAt i).map PyData.int) (j : Int) = some (.int ((0 :: rowAt i).getD j 0)) := fun j hj => at_ints (by rw [List.length_cons, hln]; omega)
    have b1 : ∀ j : Nat, Bd 1000 ((rowAt i ++ [0]).getD j 0) := fun j => by
      rw [getD_snoc0]; split
      · exact (hb j).mono (by omega)
      · exact bd_zero _
    have b2 : ∀ j : Nat, Bd 1000 ((0 :: rowAt i).getD j 0) := fun j => by
      rw [getD_cons0]; split
      · exact (hb _).mono (by omega)
      · exact bd_zero _
    refine nxt (x_set (a := .d (li (rowAt (i + 1)))) (ex_is (ex_frz (en_lcR1P (fun _ => true) (fun j => .int (((j : Int) + 1) * (rowAt i ++ [0]).getD j 0 + (((i + 2 : Nat) : Int) - j) * (0 :: rowAt i).getD j 0)) (ea_cons (ex_v rfl) ea_nil) (by omega) (by simp) (fun j m hj => et_yes)
      (fun j m hj _ => ex_add (ex_mul (ex_add (ex_v rfl) ex_cI) (ex_ixL (ds := (rowAt i ++ [0]).map PyData.int) (ex_v rfl) (ex_v rfl) .d (h1 j hj)) (cmul (Bd.of (k := 7) (n := 128) (by omega) (by omega) (by decide)) (b1 j) (by decide)))
        (ex_mul (ex_sub (ex_v rfl) (ex_v rfl)) (ex_ixL (ds := (0 :: rowAt i).map PyData.int) (ex_v rfl) (ex_v rfl) .d (h2 j hj)) (cmul (Bd.of (k := 7) (n := 128) (by omega) (by omega) (by decide)) (b2 j) (by decide)))))) ?_) ?_)
    · rw [filter_yes, Int.toNat_natCast]
      unfold li
      congr 2
      show _ = (stepRow (rowAt i) (i + 2)).map PyData.int
      unfold stepRow
      rw [List.map_map]
      refine List.map_congr_left fun j hj => ?_
      have hj2 : j < i + 2 := List.mem_range.mp hj
      show PyData.int _ = PyData.int _
      rw [getD_snoc0, getD_cons0, hln]
      congr 1
      have e1 : i + 2 - 1 = i + 1 := rfl
      rw [e1]
      congr 1
      · split
        · exact Int.mul_comm _ _
        · exact Int.mul_zero _
      · split
        · exact Int.mul_comm _ _
        · exact Int.mul_zero _
    · exact x_abs ⟨rfl, rfl⟩ ⟨.inr rfl, .inr rfl, .inl rfl, .inl rfl, .inl rfl, .inl rfl, trivial⟩
  · rintro ε' L' ⟨rfl, rfl⟩
    refine nxt (x_ret (d := li (cofRow n)) (ex_is (ex_v rfl) ?_) fun v F σ H r o => q v F H (hM ▸ r.nx) o)
    have e : ((n : Int) + 1 - 2).toNat = n - 1 := by omega
    rw [e]; rfl
end K80

/-! ## A6 -/
set_option Elab.async false
set_option linter.all false
set_option maxRecDepth 100000
set_option maxHeartbeats 4000000
set_option autoImplicit false
namespace K80
open PySem L2 Fz
variable {P : Program} {w : World} {K : PySem.W.Frag} {mg : Str → Option Value} {base : Heap} {f : Addr} {fd : FuncData}
def R_lfar : List PyData → PyData → Prop := fun ds d => ∃ (n : Nat) (p : Int), ds = [.int n, .int p, li (cofRow n)] ∧ n ≤ 60 ∧ 0 < p ∧ Bd 410 p ∧ d = .tuple [.int (farT n p), .int (farL n p)]
theorem topF_pos {p : Int} (hp : 0 < p) (i : Nat) : topF p i * (p + i) / ((i : Int) + 1) = topF p (i + 1) := by
  show _ = topF p i * (if 0 > p + i then 0 else p + i) / ((i : Int) + 1)
  rw [if_neg (by omega)]
theorem topF_is {p : Int} (i : Nat) (hp : 0 < p) : topF p i = dealtBy p i 0 := by
  have h := topF_dealt (t := p) (d := 0) (n := i) (.inr (by omega))
  rw [Int.sub_zero] at h
  exact h
theorem topF_bd {p : Int} (hp : Bd 410 p) (h0 : 0 < p) {i : Nat} (hi : i ≤ 60) : Bd 25000 (topF p i) := by
  rw [topF_is i h0]; exact dealt_bd hp (by decide) hi
theorem plus_bd {p : Int} (hp : Bd 410 p) {z : Int} (hz : -64 < z ∧ z < 64) : Bd 411 (p + z) := hp.add ((Bd.of (k := 7) (n := 64) (by omega) (by omega) (by decide)).mono (by decide))
theorem ok_law_far (Fn : Fun K "_law_far" "_law_far" s_law_far f fd) (T : Bt P mg base) (C_law_times : Df P w K mg base 41 "_law_times" ["one", "many"] (spR K R_pow)) : FnOk P w K mg base CX0 42 f fd ["n", "piles", "row"] (spR K R_lfar) := by
  refine fn_data Fn sc_law_far (by decide) (fun ds d ⟨_, _, h, _⟩ => by rw [h]; rfl) fun cdv A outer s H E hr => ⟨_, (pss_cons (ps_asg (pe_tup (pa_cons pe_int (pa_cons (pe_callD C_law_times (hr.mono (by decide)) (by rfl) (pa_cons (pv 1) (pa_cons (pv 0) pa_nil))) (pa_cons pe_int (pa_cons pe_int pa_nil))))) (pg_tup rfl (pgs_cons (pg_name (i := 3) sc_law_far.nd rfl (Or.inl rfl)) (pgs_cons (pg_name (i := 4) sc_law_far.nd rfl (Or.inl rfl)) (pgs_cons (pg_name (i := 5) sc_law_far.nd rfl (Or.inl rfl)) (pgs_cons (pg_name (i := 6) sc_law_far.nd rfl (Or.inl rfl)) pgs_nil))))))
      (pss_cons (ps_for PassesOwn.never rfl (pi_range1 (by rfl) T.n_range (pa_cons (pv 0) pa_nil)) (pg_name (i := 7) sc_law_far.nd rfl (Or.inl rfl)) (pss_one (ps_par (i := 3) (j := 5) (by rfl) sc_law_far.nd rfl rfl (by decide) rfl rfl (pa_cons (pe_op op_mulW (pv 3) (pe_op op_add (pv 7) pe_int)) (pa_cons (pe_op op_fdivW (pe_op op_mulW (pv 5) (pe_op op_add (pv 1) (pv 7))) (pe_op op_add (pv 7) pe_int)) pa_nil)) (by rfl))))
      (pss_cons (ps_for PassesOwn.never rfl (pi_range1 (by rfl) T.n_range (pa_cons (pe_callB (call_max2 rfl) (by rfl) T.n_max (by decide +kernel) (pa_cons (pv 0) (pa_cons pe_int pa_nil))) pa_nil)) (pg_name (i := 8) sc_law_far.nd rfl (Or.inl rfl)) (pss_cons (ps_set (i := 6) sc_law_far.nd rfl (.inl rfl) (pe_op op_add (pv 6) (pe_op op_mulW (pe_ix (r := rIxL K) ix_list (pv 2) (pv 8) (fun _ _ => rfl)) (pe_callB call_abs (by rfl) T.n_abs (by decide +kernel) (pa_cons (pe_op op_sub (pe_op op_mulW (pv 5) (pv 3)) (pv 4)) pa_nil)))))
      (pss_one (ps_set (i := 5) sc_law_far.nd rfl (.inl rfl) (pe_op op_fdivW (pe_op op_mulW (pv 5) (pe_op op_sub (pe_op op_sub (pv 1) pe_int) (pv 8))) (pe_callB (call_max2 rfl) (by rfl) T.n_max (by decide +kernel) (pa_cons pe_int (pa_cons (pe_op op_add (pe_op op_sub (pe_op op_sub (pv 1) pe_int) (pv 8)) (pv 0)) pa_nil))))))))
      (pss_one (ps_ret (pe_tup (pa_cons (pv 6) (pa_cons (pe_op op_mulW (pe_op op_mulW pe_int (pv 4)) (pv 3)) pa_nil)))))))), ?_⟩
  rintro B Q ds d rfl hM ⟨n, p, rfl, hn, h0, hp, rfl⟩ q
  refine x_seq (x_asg (ex_tup (ds := [.int 1, .int (p ^ n), .int 1, .int 0]) (ea_cons ex_cI (ea_cons (ex_call (ds := [.int p, .int n]) (ea_cons (ex_v rfl) (ea_cons (ex_v rfl) ea_nil)) ⟨p, n, 410, rfl, hp, by omega, by omega, rfl⟩) (ea_cons ex_cI (ea_cons ex_cI ea_nil)))) (Nat.le_of_ble_eq_true rfl)) gt_tup4 ?_)
  refine x_sq (x_forR1 (ea_cons (ex_v rfl) ea_nil) (by omega) (fun i ε L => ε = [iv n, iv p, some (.d (li (cofRow n))), iv (fac i : Int), iv (p ^ n), iv (topF p i), iv 0, none, none] ∧ L = []) ⟨rfl, rfl⟩ ?_ ?_)
  · rintro i ε' L' hi ⟨rfl, rfl⟩
    refine x_par (ea_cons (ex_mul (ex_v rfl) (ex_add (ex_v rfl) ex_cI) (cmul (fac_bd' (by omega)) (Bd.of (k := 7) (n := 128) (by omega) (by omega) (by decide)) (by decide))) (ea_cons (ex_fdiv (ex_mul (ex_v rfl) (ex_add (ex_v rfl) (ex_v rfl)) (cmul (topF_bd hp h0 (by omega)) (plus_bd hp (by omega)) (by decide))) (ex_add (ex_v rfl) ex_cI) (cdiv (b := 7) (by omega) (Bd.of (k := 7) (n := 128) (by omega) (by omega) (by decide)) (by decide))) ea_nil)) ?_
    exact x_abs ⟨rfl, rfl⟩ ⟨.inr rfl, .inr rfl, .inr rfl, .inr (by rw [fac_succ, Int.natCast_mul]; rfl), .inr rfl, .inr (by rw [topF_pos h0]), .inr rfl, .inl rfl, .inl rfl, trivial⟩
  · rintro ε' L' ⟨rfl, rfl⟩
    have emx : (if (1 : Int) > (n : Int) then (1 : Int) else (n : Int)) = ((n - 1 + 1 : Nat) : Int) := by split <;> omega
    refine x_sq (x_forR1 (n := ((n - 1 + 1 : Nat) : Int)) (ea_cons (ex_int (ex_max2 (ex_v rfl) ex_cI) emx) ea_nil) (by omega) (fun i ε L => ∃ z : Int, (i < n - 1 + 1 → z = dealtBy p n i) ∧ ε = [iv n, iv p, some (.d (li (cofRow n))), iv (fac n : Int), iv (p ^ n), iv z, iv (farS n p i), none, none] ∧ L = []) ⟨topF p n, fun _ => by rw [topF_is n h0]; rfl, rfl, rfl⟩ ?_ ?_)
    · rintro i ε' L' hi ⟨z, hz, rfl, rfl⟩
      have hi2 : i < n - 1 + 1 := by omega
      obtain rfl := hz hi2
      refine x_seq (x_set (ex_add (ex_v rfl) (ex_mul (ex_ixL (ds := (cofRow n).map PyData.int) (d := .int ((cofRow n).getD i 0)) (ex_v rfl) (ex_v rfl) .d (at_ints (by rw [cof_len]; exact hi2))) (ex_abs (ex_sub (ex_mul (ex_v rfl) (ex_v rfl) (cmul (dealt_bd hp (by omega) hn) (fac_bd' hn) (by decide))) (ex_v rfl))) ?_)) ?_)
      · rw [abs_if]
        exact cmul (row_bd hn i) (diff_bd hp (by omega) hn).abs (by decide)
      · have eb : Bd 411 (p - 1 - i) := by
          have e : p - 1 - (i : Int) = p + (-1 - (i : Int)) := by omega
          rw [e]; exact plus_bd hp (by omega)
        have en : Bd 411 (p - 1 - i + n) := by
          have e : p - 1 - (i : Int) + n = p + (-1 - (i : Int) + n) := by omega
          rw [e]; exact plus_bd hp (by omega)
        refine nxt (x_set (ex_fdiv (ex_mul (ex_v rfl) (ex_sub (ex_sub (ex_v rfl) ex_cI) (ex_v rfl)) (cmul (dealt_bd hp (by omega) hn) eb (by decide))) (ex_max2 ex_cI (ex_add (ex_sub (ex_sub (ex_v rfl) ex_cI) (ex_v rfl)) (ex_v rfl))) (cdiv (b := 411) (by split <;> omega) (by split; exact en; exact bd_one 410) (by decide))) ?_)
        refine x_abs ⟨_, fun hj => ?_, rfl, rfl⟩ ⟨.inr rfl, .inr rfl, .inr rfl, .inr rfl, .inr rfl, .inr rfl, .inr ?_, .inl rfl, .inl rfl, trivial⟩
        · have hs := step_dealt (t := p) (n := n) (d := i) (by omega) (by omega) h0
          have e2 : ((i + 1 : Nat) : Int) = (i : Int) + 1 := by omega
          rw [e2, ← hs]
        · rw [abs_if]; rfl
    · rintro ε' L' ⟨z, _, rfl, rfl⟩
      have b2 : Bd 2 (2 : Int) := Bd.of (n := 3) (by decide) (by decide) (by decide)
      refine nxt (x_ret (ex_tup (ds := [.int (farT n p), .int (farL n p)]) (ea_cons (ex_int (ex_v rfl) ?_) (ea_cons (ex_mul (ex_mul ex_cI (ex_v rfl) (cmul b2 (pow_bd' hp hn) (by decide))) (ex_v rfl) (cmul (b2.mul (pow_bd' hp hn)) (fac_bd' hn) (by decide))) ea_nil)) (Nat.le_of_ble_eq_true rfl)) fun v F σ H r o => q v F H (hM ▸ r.nx) o)
      unfold farT
      rw [cof_len, Int.toNat_natCast]
theorem ok_law_due_deals (Fn : Fun K "_law_due_deals" "_law_due_deals" s_law_due_deals f fd) (T : Bt P mg base) (C_law_falls_row : Df P w K mg base 41 "_law_falls_row" ["n"] (spR K R_cof)) (C_law_far : Df P w K mg base 42 "_law_far" ["n", "piles", "row"] (spR K R_lfar)) :
    FnOk P w K mg base CX0 43 f fd ["n", "piles", "share"] (spR K R_few) := by
  refine fn_data Fn sc_law_due_deals (by decide) (fun ds d ⟨_, _, _, _, h, _⟩ => by rw [h]; rfl) fun cdv A outer s H E hr => ⟨_, (pss_cons (ps_par (i := 3) (j := 4) (by rfl) sc_law_due_deals.nd rfl rfl (by decide) rfl rfl (pa_cons (pe_callD C_law_falls_row (hr.mono (by decide)) (by rfl) (pa_cons (pv 0) pa_nil)) (pa_cons pe_int pa_nil)) (by rfl))
      (pss_cons (ps_for PassesOwn.never rfl (pi_range1 (by rfl) T.n_range (pa_cons pe_int pa_nil)) (pg_name (i := 5) sc_law_due_deals.nd rfl (Or.inl rfl)) (pss_cons (ps_asg (pe_callD C_law_far (hr.mono (by decide)) (by rfl) (pa_cons (pv 0) (pa_cons (pv 4) (pa_cons (pv 3) pa_nil)))) (pg_tup rfl (pgs_cons (pg_name (i := 6) sc_law_due_deals.nd rfl (Or.inl rfl)) (pgs_cons (pg_name (i := 7) sc_law_due_deals.nd rfl (Or.inl rfl)) pgs_nil))))
      (pss_cons (ps_if (pt_cmpR op_le (pe_op op_mulW (pv 6) (pe_ix (r := rIxT K) ix_tup (pv 2) pe_int (fun _ _ => rfl))) (pe_op op_mulW (pe_ix (r := rIxT K) ix_tup (pv 2) pe_int (fun _ _ => rfl)) (pv 7)) (nomark _)) (pss_one (ps_ret (pv 5))) pss_nil)
      (pss_one (ps_set (i := 4) sc_law_due_deals.nd rfl (.inl rfl) (pe_op op_mulW (pv 4) (pv 1)))))))
      (pss_one (ps_ret pe_non)))), ?_⟩
  rintro B Q ds d rfl hM ⟨n, p, a, b, rfl, hn, h0, hp, ha, hb, rfl⟩ q
  refine x_seq (x_par (ea_cons (ex_call (ds := [.int n]) (ea_cons (ex_v rfl) ea_nil) ⟨n, rfl, hn, rfl⟩) (ea_cons ex_cI ea_nil)) ?_)
  refine x_sq (x_forR1 (n := 21) (ea_cons ex_cI ea_nil) (by decide) (fun i ε L => ε = [iv n, iv p, some (.d (.tuple [.int a, .int b])), some (.d (li (cofRow n))), iv (p ^ i), none, none, none] ∧ L = [] ∧ ∀ j, j < i → fewT n p a b j = false) ⟨by rw [Int.pow_zero]; rfl, rfl, fun j hj => absurd hj (Nat.not_lt_zero _)⟩ ?_ ?_)
  · rintro i ε' L' hi ⟨rfl, rfl, hj⟩
    have hi2 : i < 21 := by omega
    have hpi := pow20 hp (show i ≤ 20 by omega)
    have hpos : 0 < p ^ i := Int.pow_pos h0
    refine x_seq (x_asg (ex_call (ds := [.int n, .int (p ^ i), li (cofRow n)]) (ea_cons (ex_v rfl) (ea_cons (ex_v rfl) (ea_cons (ex_v rfl) ea_nil))) ⟨n, p ^ i, rfl, hn, hpos, hpi, rfl⟩) gt_tup2 ?_)
    refine x_sq (x_if (et_test (ex_le (ex_mul (ex_v rfl) (ex_ixT (ex_v rfl) ex_cI rfl) (cmul (farT_bd hpi hn) hb (by decide))) (ex_mul (ex_ixT (ex_v rfl) ex_cI rfl) (ex_v rfl) (cmul ha (farL_bd hpi hn) (by decide))))) (fun hc => ?_) fun hc => ?_)
    · refine x_ret (ex_v rfl) fun v F σ H r o => q v F H (hM ▸ r.nx) ?_
      have e : fewM n p a b = some i := find_at hi2 hc hj
      rw [e]; exact o
    · refine x_next (x_set (ex_mul (ex_v rfl) (ex_v rfl) (cmul hpi hp (by decide))) ?_)
      refine x_abs ⟨rfl, rfl, fun j h => ?_⟩ ⟨.inr rfl, .inr rfl, .inr rfl, .inr rfl, .inr (by rw [Int.pow_succ]), .inl rfl, .inl rfl, .inl rfl, trivial⟩
      by_cases e : j = i
      · rw [e]; exact hc
      · exact hj j (by omega)
  · rintro ε' L' ⟨rfl, rfl, hj⟩
    refine nxt (x_ret ex_cN fun v F σ H r o => q v F H (hM ▸ r.nx) ?_)
    have e : fewM n p a b = none := find_no hj
    rw [e]; exact o
end K80

/-! ## A7 -/
set_option Elab.async false
set_option linter.all false
set_option maxRecDepth 100000
set_option maxHeartbeats 4000000
set_option autoImplicit false
namespace K80
open PySem L2 Fz
variable {P : Program} {w : World} {K : PySem.W.Frag} {mg : Str → Option Value} {base : Heap} {f : Addr} {fd : FuncData}
theorem sm {n : Int} (h : 0 < n) (h2 : n < 2 ^ 60) : n.natAbs < 2 ^ 8000 := Nat.lt_of_lt_of_le (show n.natAbs < 2 ^ 60 by omega) (Nat.pow_le_pow_right (by decide) (by decide))
/-- a draw of a written number -/
theorem ex_draw {B : Bg} {ε : Eps} {L La : Own} {tas : TA} {k : Nat} {pb pc : Addr} {b : Bag} {n : Int} {E : XK} (h : EA B tas ε L [.v (.ref pb), .d (.int n)] La) (hk : La[k]? = some (b.at pb pc)) (h0 : 0 < n) (h2 : n < 2 ^ 60) :
    EX B (tCall (spB B.K R_draw) [] E tas) ε L (.d (.int (drawV b n))) (La.set k ((drawB b n).at pb pc)) := ex_callB (ds := [.int n]) h hk ⟨n, h0, sm h0 h2, rfl, rfl, rfl⟩
theorem ok_law_piles (Fn : Fun K "_law_piles" "_law_piles" s_law_piles f fd) (T : Bt P mg base) (C_law_draw : Df P w K mg base 41 "_law_draw" ["bag", "below"] (spB K R_draw)) (C_law_pick : Df P w K mg base 42 "_law_pick" ["bag", "some"] (spB K R_pick)) :
    FnOk P w K mg base CX0 43 f fd ["bag", "near"] (spB K R_piles) := by
  refine fn_bag Fn sc_law_piles (by decide) (fun b ds d b' ⟨_, _, h, _⟩ => by rw [h]; rfl) fun cdv A outer s H E hr => ⟨_, (pss_cons (ps_set (i := 2) sc_law_piles.nd rfl (.inl rfl) (pe_callD C_law_draw (hr.mono (by decide)) (by rfl) (pa_cons (pv 0) (pa_cons pe_int pa_nil))))
      (pss_cons (ps_if (pt_cmpR op_eq (pv 2) pe_int (nomark _)) (pss_one (ps_ret (pe_op op_add pe_int (pe_callD C_law_draw (hr.mono (by decide)) (by rfl) (pa_cons (pv 0) (pa_cons (pe_op op_pow pe_int pe_int) pa_nil)))))) pss_nil)
      (pss_cons (ps_if (pt_cmpR op_eq (pv 2) pe_int (nomark _)) (pss_one (ps_ret (pe_callD C_law_pick (hr.mono (by decide)) (by rfl) (pa_cons (pv 0) (pa_cons (pe_lst (pa_cons pe_int (pa_cons pe_int (pa_cons pe_int (pa_cons pe_int (pa_cons pe_int (pa_cons pe_int (pa_cons (pe_op op_pow pe_int pe_int) (pa_cons (pe_op op_pow pe_int pe_int) (pa_cons pe_int pa_nil)))))))))) pa_nil))))) pss_nil)
      (pss_one (ps_ret (pe_ifExp (pt_cmpR op_lt (pv 2) pe_int (nomark _)) (pe_op op_add pe_int (pe_callD C_law_draw (hr.mono (by decide)) (by rfl) (pa_cons (pv 0) (pa_cons pe_int pa_nil)))) (pe_callB (call_max2 rfl) (by rfl) T.n_max (by decide +kernel) (pa_cons pe_int (pa_cons (pe_op op_add (pe_op op_sub (pv 1) pe_int) (pe_callD C_law_draw (hr.mono (by decide)) (by rfl) (pa_cons (pv 0) (pa_cons pe_int pa_nil)))) pa_nil))))))))), ?_⟩
  rintro B Q pb pc b ds d b' rfl hM ⟨near, hne, rfl, rfl, rfl⟩ q
  refine x_seq (x_set (ex_draw (k := 0) (ea_cons (ex_v rfl) (ea_cons ex_cI ea_nil)) rfl (by decide) (by decide)) ?_)
  refine x_sq (x_if (et_test (ex_eqI (ex_v rfl) ex_cI)) (fun hc => ?_) fun hc => ?_)
  · have c0 : drawV b 6 = 0 := of_decide_eq_true hc
    refine x_ret (ex_add ex_cI (ex_draw (k := 0) (n := 1000000) (ea_cons (ex_v rfl) (ea_cons (ex_int (ex_pow ex_cI ex_cI ⟨by decide, by decide, by decide⟩) (by decide +kernel)) ea_nil)) rfl (by decide) (by decide))) fun v F σ H rp o => q v F H (hM ▸ rp.nx) ?_ ?_
    · unfold pilesP; rw [if_pos c0]; exact rp.bag List.mem_cons_self
    · unfold pilesP; rw [if_pos c0]; exact o
  · have c0 : ¬ drawV b 6 = 0 := of_decide_eq_false hc
    refine x_next (x_sq (x_if (et_test (ex_eqI (ex_v rfl) ex_cI)) (fun hc => ?_) fun hc => ?_))
    · have c1 : drawV b 6 = 1 := of_decide_eq_true hc
      refine x_ret (d := .int (pickI (drawB b 6) pilesL)) (ex_is (ex_callB (k := 0) (ds := [.list (pilesL.map PyData.int)]) (ea_cons (ex_v rfl) (ea_cons (ex_is (ex_frz (en_lst (ds := pilesL.map PyData.int) (ea_cons ex_cI (ea_cons ex_cI (ea_cons ex_cI (ea_cons ex_cI (ea_cons ex_cI (ea_cons ex_cI (ea_cons (ex_int (ex_pow ex_cI ex_cI ⟨by decide, by decide, by decide⟩) (by decide +kernel)) (ea_cons (ex_int (ex_pow ex_cI ex_cI ⟨by decide, by decide, by decide⟩) (by decide +kernel)) (ea_cons ex_cI ea_nil))))))))) (Nat.le_of_ble_eq_true rfl))) rfl) ea_nil)) rfl ⟨_, by decide, by decide, rfl, rfl, rfl⟩) ?_) fun v F σ H rp o => q v F H (hM ▸ rp.nx) ?_ ?_
      · have hv := drawV_ok (drawB b 6) (show (0 : Int) < 9 by decide)
        show AD.d ((pilesL.map PyData.int).getD _ PyData.none) = _
        rw [getD_map_int (by show (drawV (drawB b 6) 9).toNat < 9; omega)]
        rfl
      · unfold pilesP; rw [if_neg c0, if_pos c1]; exact rp.bag List.mem_cons_self
      · unfold pilesP; rw [if_neg c0, if_pos c1]; exact o
    · have c1 : ¬ drawV b 6 = 1 := of_decide_eq_false hc
      by_cases c2 : drawV b 6 < 4
      · refine x_next (nxt (x_ret (d := .int (1 + drawV (drawB b 6) 9)) (L1 := [(drawB (drawB b 6) 9).at pb pc]) (ex_if (et_test (ex_lt (ex_v rfl) ex_cI)) (fun _ => ex_add ex_cI (ex_draw (k := 0) (ea_cons (ex_v rfl) (ea_cons ex_cI ea_nil)) rfl (by decide) (by decide))) (fun h => absurd c2 (of_decide_eq_false h))) fun v F σ H rp o => q v F H (hM ▸ rp.nx) ?_ ?_))
        · unfold pilesP; rw [if_neg c0, if_neg c1, if_pos c2]; exact rp.bag List.mem_cons_self
        · unfold pilesP; rw [if_neg c0, if_neg c1, if_pos c2]; exact o
      · refine x_next (nxt (x_ret (d := .int _) (L1 := [(drawB (drawB b 6) 4).at pb pc]) (ex_if (et_test (ex_lt (ex_v rfl) ex_cI)) (fun h => absurd (of_decide_eq_true h) c2) (fun h => ex_max2 ex_cI (ex_add (ex_sub (ex_v rfl) ex_cI) (ex_draw (k := 0) (ea_cons (ex_v rfl) (ea_cons ex_cI ea_nil)) rfl (by decide) (by decide))))) fun v F σ H rp o => q v F H (hM ▸ rp.nx) ?_ ?_))
        · unfold pilesP; rw [if_neg c0, if_neg c1, if_neg c2]; exact rp.bag List.mem_cons_self
        · unfold pilesP; rw [if_neg c0, if_neg c1, if_neg c2]; exact o
theorem ok_law_cards (Fn : Fun K "_law_cards" "_law_cards" s_law_cards f fd) (T : Bt P mg base) (C_law_draw : Df P w K mg base 41 "_law_draw" ["bag", "below"] (spB K R_draw)) (C_law_pick : Df P w K mg base 42 "_law_pick" ["bag", "some"] (spB K R_pick)) :
    FnOk P w K mg base CX0 43 f fd ["bag"] (spB K R_cards) := by
  refine fn_bag Fn sc_law_cards (by decide) (fun b ds d b' ⟨h, _⟩ => by rw [h]; rfl) fun cdv A outer s H E hr => ⟨_, (pss_cons (ps_if (pt_cmpR op_eq (pe_callD C_law_draw (hr.mono (by decide)) (by rfl) (pa_cons (pv 0) (pa_cons pe_int pa_nil))) pe_int (nomark _)) (pss_one (ps_ret (pe_callD C_law_draw (hr.mono (by decide)) (by rfl) (pa_cons (pv 0) (pa_cons pe_int pa_nil))))) pss_nil)
      (pss_one (ps_ret (pe_callD C_law_pick (hr.mono (by decide)) (by rfl) (pa_cons (pv 0) (pa_cons (pe_lst (pa_cons pe_int (pa_cons pe_int (pa_cons pe_int (pa_cons pe_int (pa_cons pe_int (pa_cons pe_int (pa_cons pe_int (pa_cons pe_int (pa_cons pe_int (pa_cons pe_int (pa_cons pe_int (pa_cons pe_int (pa_cons pe_int pa_nil)))))))))))))) pa_nil)))))), ?_⟩
  rintro B Q pb pc b ds d b' rfl hM ⟨rfl, rfl, rfl⟩ q
  refine x_seq (x_if (et_test (ex_eqI (ex_draw (k := 0) (ea_cons (ex_v rfl) (ea_cons ex_cI ea_nil)) rfl (by decide) (by decide)) ex_cI)) (fun hc => ?_) fun hc => ?_)
  · have c0 : drawV b 2 = 0 := of_decide_eq_true hc
    refine x_ret (ex_draw (k := 0) (ea_cons (ex_v rfl) (ea_cons ex_cI ea_nil)) rfl (by decide) (by decide)) fun v F σ H rp o => q v F H (hM ▸ rp.nx) ?_ ?_
    · unfold cardsP; rw [if_pos c0]; exact rp.bag List.mem_cons_self
    · unfold cardsP; rw [if_pos c0]; exact o
  · have c0 : ¬ drawV b 2 = 0 := of_decide_eq_false hc
    refine x_next (nxt (x_ret (d := .int (pickI (drawB b 2) cardsL)) (ex_is (ex_callB (k := 0) (ds := [.list (cardsL.map PyData.int)]) (ea_cons (ex_v rfl) (ea_cons (ex_is (ex_frz (en_lst (ds := cardsL.map PyData.int) (ea_cons ex_cI (ea_cons ex_cI (ea_cons ex_cI (ea_cons ex_cI (ea_cons ex_cI (ea_cons ex_cI (ea_cons ex_cI (ea_cons ex_cI (ea_cons ex_cI (ea_cons ex_cI (ea_cons ex_cI (ea_cons ex_cI (ea_cons ex_cI ea_nil))))))))))))) (Nat.le_of_ble_eq_true rfl))) rfl) ea_nil)) rfl ⟨_, by decide, by decide, rfl, rfl, rfl⟩) ?_) fun v F σ H rp o => q v F H (hM ▸ rp.nx) ?_ ?_))
    · have hv := drawV_ok (drawB b 2) (show (0 : Int) < 13 by decide)
      show AD.d ((cardsL.map PyData.int).getD _ PyData.none) = _
      rw [getD_map_int (by show (drawV (drawB b 2) 13).toNat < 13; omega)]
      rfl
    · unfold cardsP; rw [if_neg c0]; exact rp.bag List.mem_cons_self
    · unfold cardsP; rw [if_neg c0]; exact o
end K80

/-! ## A8 -/
set_option Elab.async false
set_option linter.all false
set_option maxRecDepth 100000
set_option maxHeartbeats 4000000
set_option autoImplicit false
namespace K80
open PySem L2 Fz
variable {P : Program} {w : World} {K : PySem.W.Frag} {mg : Str → Option Value} {base : Heap} {f : Addr} {fd : FuncData}
def cellF (c : Int) : Int := (if c < 0 then -c else c) % (10 : Int) ^ (64 : Int).toNat
theorem big_pos : (0 : Int) < (10 : Int) ^ (64 : Int).toNat := by decide +kernel
def cellD : PyData → PyData
  | .int c => .int (cellF c)
  | d => d
theorem ok_law_own_bag (Fn : Fun K "_law_own_bag" "_law_own_bag" s_law_own_bag f fd) (T : Bt P mg base) : FnOk P w K mg base CX0 41 f fd ["script"] (spOwn K) := by
  refine Fn.ok sc_law_own_bag (fun vs H Q E ⟨_, _, h, _⟩ => by rw [h]; rfl) fun cdv A outer s H vs Q E hr h => ?_
  obtain ⟨a, ns, rfl, hS, hl, q⟩ := h
  refine ⟨_, (pss_cons (ps_setLc (i := 1) (own := [("cell", 3)]) rfl sc_law_own_bag.nd rfl rfl (sw_true rfl rfl rfl (by decide +kernel)) (pi_list (pe_slice (r := rSlL K) sl_list (pv 0) po_none (po_some pe_int))) (blkOk_by (own := [("cell", 3)]) (N := ["script", "cells", "mixed", "cell"]) (sc := defScope s_law_own_bag) (by decide +kernel)) (fun _ _ _ _ _ => (pg_name (i := 3) sc_law_own_bag.nd rfl (Or.inl rfl))) (fun _ _ _ _ _ => pts_nil) (fun _ _ _ _ _ => (pe_op op_mod (pe_callTy call_int1 (by rfl) T.n_int (by decide +kernel) (pa_cons (pe_callB call_abs (by rfl) T.n_abs (by decide +kernel) (pa_cons (pv 3) pa_nil)) pa_nil)) (pe_op op_pow pe_int pe_int))))
      (pss_cons (ps_set (i := 2) sc_law_own_bag.nd rfl (.inl rfl) (pe_op op_add pe_int (pe_callB (r := Evl.rLenS K) call_len_seq (by rfl) T.n_len (by decide +kernel) (pa_cons (pv 1) pa_nil))))
      (pss_cons (ps_for PassesOwn.never rfl (pi_list (pv 1)) (pg_name (i := 3) sc_law_own_bag.nd rfl (Or.inl rfl)) (pss_one (ps_set (i := 2) sc_law_own_bag.nd rfl (.inl rfl) (pe_op op_mod (pe_op op_add (pe_op op_add (pe_op op_mulW (pv 2) pe_int) (pe_op op_mod (pv 3) pe_int)) pe_int) pe_int))))
      (pss_one (ps_ret (pe_lst (pa_cons (pe_listRev rfl (by rfl) T.n_list (by rfl) T.n_reversed (pe_callTy (r := rListOf K) call_list_of (by rfl) T.n_list (by decide +kernel) (pa_cons (pv 1) pa_nil))) (pa_cons pe_int (pa_cons (pv 2) pa_nil))))))))), ?_⟩
  refine (?_ : Ho ⟨K, H, H, []⟩ _ (some (.v (.ref a)) :: List.replicate (4 - 1) none) [.seq a (ns.map PyData.int)]) H _ H (rep_startS (N := ["script", "cells", "mixed", "cell"]) hS (by decide))
  obtain ⟨ms, hms, hml⟩ := cut_map PyData.int ns none (some 63)
  refine x_seq (x_set (a := .d (li (ms.map cellF))) (ex_is (ex_frz (en_lcLP (xs := ms.map PyData.int) (fun _ => true) cellD (fun d => [some (.v (.ref a)), none, none, some (.d d)]) (ex_frz (en_is (en_slL (ds := ns.map PyData.int) (ex_v rfl) eo_n (eo_s ex_cI) (.r (k := 0) rfl)) hms)) (by rw [List.length_map]; omega) (gw_name (by simp))
    (fun d hd => gt_name) (fun d hd m => et_yes) ?_)) ?_) ?_)
  · rintro d hd _ m
    obtain ⟨c, _, rfl⟩ := List.mem_map.mp hd
    exact ex_mod (ex_int1 (ex_abs (ex_v rfl))) (ex_pow ex_cI ex_cI ⟨by decide, by decide, by decide⟩) big_pos
  · rw [filter_yes, List.map_map]
    unfold li
    rw [List.map_map]; rfl
  · refine x_sq (x_set (a := .d (.int (2468 + (ms.length : Int)))) (ex_add ex_cI (ex_int (ex_lenL (ds := (ms.map cellF).map PyData.int) (ex_v rfl) .d rfl) (by rw [List.length_map, List.length_map]))) ?_)
    refine x_sq (x_forL (ds := (ms.map cellF).map PyData.int) (ex_v rfl) (fun v i ε L => ∃ m : Int, (0 ≤ m ∧ m < 2147483647) ∧ ε = [some (.v (.ref a)), some (.d (li (ms.map cellF))), iv m, none] ∧ L = [.seq a (ns.map PyData.int), .know v (li (ms.map cellF))]) (fun v => ⟨_, ⟨by omega, by omega⟩, rfl, rfl⟩)
      (fun v i ε' L' ⟨_, _, _, h⟩ => by rw [h]; exact List.mem_cons_of_mem _ (List.mem_singleton_self _)) ?_ ?_)
    · rintro v i d ε' L' hd ⟨m, hm, rfl, rfl⟩
      obtain ⟨_, rfl⟩ := ints_at hd
      refine ⟨_, gt_name, x_set (ex_mod (ex_add (ex_add (ex_mul (ex_v rfl) ex_cI (cmul (Bd.of (k := 32) (n := 2147483648) (by omega) (by omega) (by decide)) (Bd.of (k := 16) (n := 48272) (by decide) (by decide) (by decide)) (by decide))) (ex_mod (ex_v rfl) ex_cI (by decide))) ex_cI) ex_cI (by decide)) ?_⟩
      exact x_abs ⟨_, ⟨Int.emod_nonneg _ (by decide), Int.emod_lt_of_pos _ (by decide)⟩, rfl, rfl⟩ ⟨.inr rfl, .inr rfl, .inr rfl, .inl rfl, trivial⟩
    · rintro v ε' L' ⟨m, hm, rfl, rfl⟩
      refine nxt (x_retBag (c := (ms.map cellF).reverse) (u := 0) (mx := m) (en_is (en_listRevN (en_list (ds := (ms.map cellF).map PyData.int) (ex_v rfl) .d)) List.map_reverse.symm) (fun _ => ex_cI) (fun _ => ex_v rfl) fun pb pc F σ H' r n1 n2 ne => ?_)
      refine q pb pc ⟨(ms.map cellF).reverse, 0, m, hm.1, hm.2, Int.le_refl 0, fun c hc => ?_⟩ H' (fun b o e => r.h0 b o List.not_mem_nil e) n1 n2 ne (r.bag List.mem_cons_self)
      obtain ⟨z, _, rfl⟩ := List.mem_map.mp (List.mem_reverse.mp hc)
      exact Int.emod_nonneg _ (by have := big_pos; omega)
theorem shaped_li (l : List Int) : SeqAt.shaped (.list (l.map PyData.int)) = true := shaped_ints l
theorem nats_rg (n : Nat) : rgD 0 (n : Int) = (natsL n).map PyData.int := by
  unfold rgD natsL
  rw [List.map_map]
  have e : ((n : Int) - 0).toNat = n := by omega
  rw [e]
  refine List.map_congr_left fun i _ => ?_
  show PyData.int (0 + (i : Int)) = .int (i : Int)
  rw [Int.zero_add]
theorem erase_map {α β : Type} (f : α → β) : ∀ (l : List α) (i : Nat), (l.map f).eraseIdx i = (l.eraseIdx i).map f
  | [], _ => rfl
  | _ :: _, 0 => rfl
  | a :: l, i + 1 => by
    show f a :: (l.map f).eraseIdx i = f a :: (l.eraseIdx i).map f
    rw [erase_map f l i]
theorem ints_get {l : List Int} {k : Nat} (h : k < l.length) : (l.map PyData.int)[k]? = some (.int (l.getD k 0)) := by
  rw [List.getElem?_map, List.getElem?_eq_getElem h, List.getD_eq_getElem?_getD, List.getElem?_eq_getElem h]; rfl
theorem ok_law_order (Fn : Fun K "_law_order" "_law_order" s_law_order f fd) (T : Bt P mg base) (C_law_draw : Df P w K mg base 41 "_law_draw" ["bag", "below"] (spB K R_draw)) :
    FnOk P w K mg base CX0 42 f fd ["bag", "n"] (spB K R_order) := by
  refine fn_bag Fn sc_law_order (by decide) (fun b ds d b' ⟨_, _, h, _⟩ => by rw [h]; rfl) fun cdv A outer s H E hr => ⟨_, (pss_cons (ps_par (i := 2) (j := 3) (by rfl) sc_law_order.nd rfl rfl (by decide) rfl rfl (pa_cons (pe_callD C_law_draw (hr.mono (by decide)) (by rfl) (pa_cons (pv 0) (pa_cons pe_int pa_nil))) (pa_cons (pe_listRg rfl (by rfl) T.n_list (prg_1 (by rfl) T.n_range (pv 1))) pa_nil)) (by rfl))
      (pss_cons (ps_if (pt_cmpR op_eq (pv 2) pe_int (nomark _)) (pss_cons (ps_par (i := 5) (j := 3) (by rfl) sc_law_order.nd rfl rfl (by decide) rfl rfl (pa_cons (pv 3) (pa_cons (pe_lst pa_nil) pa_nil)) (by rfl))
      (pss_cons (ps_while PassesOwn.never (pt_cmpR (r := rNeD K) (op_neD hr.units) (pv 5) (pe_lst pa_nil) (nomark _)) (pss_one (ps_expr (pe_bm PySem.F.plainAttrs_list PySem.F.slot_list_append PySem.F.type_list_append mt_append (pv 3) (pa_cons (pe_bm PySem.F.plainAttrs_list PySem.F.slot_list_pop PySem.F.type_list_pop mt_popAt (pv 5) (pa_cons (pe_callD C_law_draw (hr.mono (by decide)) (by rfl) (pa_cons (pv 0) (pa_cons (pe_callB (r := Evl.rLenS K) call_len_seq (by rfl) T.n_len (by decide +kernel) (pa_cons (pv 5) pa_nil)) pa_nil))) pa_nil)) pa_nil)))))
      (pss_one (ps_ret (pe_tupleOf (by rfl) T.n_tuple (pv 3)))))) pss_nil)
      (Evl.pss_cut (ps_if (pt_cmpR op_eq (pv 2) pe_int (nomark _)) (pss_one (ps_set (i := 3) sc_law_order.nd rfl (.inl rfl) (pe_listRev rfl (by rfl) T.n_list (by rfl) T.n_reversed (pe_callTy (r := rListOf K) call_list_of (by rfl) T.n_list (by decide +kernel) (pa_cons (pv 3) pa_nil))))) pss_nil)
      (pss_cons (ps_for PassesOwn.never rfl (pi_range1 (by rfl) T.n_range (pa_cons (pe_ifExp (pt_cmpR op_gt (pv 1) pe_int (nomark _)) (pe_callD C_law_draw (hr.mono (by decide)) (by rfl) (pa_cons (pv 0) (pa_cons pe_int pa_nil))) pe_int) pa_nil)) (pg_name (i := 4) sc_law_order.nd rfl (Or.inl rfl)) (pss_cons (ps_set (i := 6) sc_law_order.nd rfl (.inl rfl) (pe_bm PySem.F.plainAttrs_list PySem.F.slot_list_pop PySem.F.type_list_pop mt_popAt (pv 3) (pa_cons (pe_callD C_law_draw (hr.mono (by decide)) (by rfl) (pa_cons (pv 0) (pa_cons (pv 1) pa_nil))) pa_nil)))
      (pss_one (ps_expr (pe_bm PySem.F.plainAttrs_list PySem.F.slot_list_insert PySem.F.type_list_insert mt_insert (pv 3) (pa_cons (pe_callD C_law_draw (hr.mono (by decide)) (by rfl) (pa_cons (pv 0) (pa_cons (pv 1) pa_nil))) (pa_cons (pv 6) pa_nil)))))))
      (pss_one (ps_ret (pe_tupleOf (by rfl) T.n_tuple (pv 3)))))))), ?_⟩
  rintro B Q pb pc b ds d b' rfl hM ⟨n, hn, rfl, rfl, rfl⟩ q
  have hln := natsL_len n
  refine x_seq (x_parN (ds := (natsL n).map PyData.int) (ex_draw (k := 0) (ea_cons (ex_v rfl) (ea_cons ex_cI ea_nil)) rfl (by decide) (by decide)) (en_is (en_listRg1 (ex_v rfl) (by omega)) (nats_rg n)) fun p hp => ?_)
  refine x_sq (x_if (et_test (ex_eqI (ex_v rfl) ex_cI)) (fun hc => ?_) fun hc => ?_)
  · have c0 : drawV b 4 = 0 := of_decide_eq_true hc
    refine x_seq (x_parN (ds := []) (ex_v rfl) (en_lst ea_nil (Nat.zero_le _)) fun p2 hp2 => ?_)
    refine x_sq (x_while (m0 := n) (fun m ε L => ∃ i : Nat, i + m = n ∧ ε = [some (.v (.ref pb)), iv n, iv (drawV b 4), some (.v (.ref p2)), none, some (.v (.ref p)), none] ∧ L = [.lst p2 ((mixS n (drawB b 4) i).2.1.map PyData.int), .lst p ((mixS n (drawB b 4) i).1.map PyData.int), (mixS n (drawB b 4) i).2.2.at pb pc]) ⟨0, by omega, rfl, rfl⟩ ?_)
    · rintro m ε' L' ⟨i, him, rfl, rfl⟩
      obtain ⟨l1, l2⟩ := mixS_len n (drawB b 4) i (by omega)
      refine ⟨_, _, ex_neNil (ex_v rfl) (.o (k := 1) rfl) (shaped_ints _) |> et_test, fun hb => ?_, fun hb => ?_⟩
      · have hpos : 0 < (mixS n (drawB b 4) i).1.length := by
          cases h : (mixS n (drawB b 4) i).1 with
          | nil => rw [h] at hb; exact absurd hb (by decide)
          | cons x t => exact Nat.succ_pos _
        have hv := drawV_ok (mixS n (drawB b 4) i).2.2 (show (0 : Int) < ((mixS n (drawB b 4) i).1.length : Int) by omega)
        have ej : drawV (mixS n (drawB b 4) i).2.2 ((mixS n (drawB b 4) i).1.length : Int) = (((drawV (mixS n (drawB b 4) i).2.2 ((mixS n (drawB b 4) i).1.length : Int)).toNat : Nat) : Int) := by omega
        refine x_app (k := 0) (ex_v rfl) (ex_popAt (k := 1) (j := (drawV (mixS n (drawB b 4) i).2.2 ((mixS n (drawB b 4) i).1.length : Int)).toNat) (ex_v rfl) (ex_draw (k := 2) (n := ((mixS n (drawB b 4) i).1.length : Int)) (ea_cons (ex_v rfl) (ea_cons (ex_int (ex_lenL (ex_v rfl) (.o (k := 1) rfl) rfl) (by rw [List.length_map])) ea_nil)) rfl (by omega) (by omega)) ⟨1, _, rfl⟩ rfl (by omega) (by rw [ej, List.length_map]; exact seq_nat (by omega)) (ints_get (by omega))) rfl ⟨0, _, rfl⟩ (by rw [List.length_map]; omega) ?_
        refine x_abs (ε' := [some (.v (.ref pb)), iv n, iv (drawV b 4), some (.v (.ref p2)), none, some (.v (.ref p)), none]) ⟨n - (i + 1), by omega, i + 1, by omega, rfl, ?_⟩ (Wk.refl _)
        show [MO.lst p2 _, MO.lst p _, _] = [MO.lst p2 _, MO.lst p _, _]
        rw [erase_map]
        simp only [mixS, List.map_append]
        rfl
      · have hz : (mixS n (drawB b 4) i).1.length = 0 := by
          cases h : (mixS n (drawB b 4) i).1 with
          | nil => rfl
          | cons x t => rw [h] at hb; exact absurd hb (by simp)
        have ein : i = n := by omega
        subst ein
        refine nxt (x_ret (ex_tupL (ex_v rfl) (.o (k := 0) rfl)) fun v F σ H rp o => q v F H (hM ▸ rp.nx) ?_ ?_)
        · unfold orderP; rw [if_pos c0]; exact rp.bag (List.mem_cons_of_mem _ (List.mem_cons_of_mem _ List.mem_cons_self))
        · unfold orderP; rw [if_pos c0]; exact o
  · have c0 : ¬ drawV b 4 = 0 := of_decide_eq_false hc
    refine x_next (nxt (x_cut (M := fun ε L => ∃ pf, ε = [some (.v (.ref pb)), iv n, none, some (.v (.ref pf)), none, none, none] ∧ L = [.lst pf ((if drawV b 4 = 1 then (natsL n).reverse else natsL n).map PyData.int), (drawB b 4).at pb pc]) ?_ ?_))
    · refine x_if (et_test (ex_eqI (ex_v rfl) ex_cI)) (fun hc => ?_) fun hc => ?_
      · have c1 : drawV b 4 = 1 := of_decide_eq_true hc
        refine x_setN (en_listRevN (en_list (ds := (natsL n).map PyData.int) (ex_v rfl) (.o (k := 0) rfl))) fun pf hpf => ?_
        refine ho_drop (k := 1) (x_abs ⟨pf, rfl, ?_⟩ ⟨.inr rfl, .inr rfl, .inl rfl, .inr rfl, .inl rfl, .inl rfl, .inl rfl, trivial⟩) rfl (fun x hx => by rw [List.mem_singleton.mp hx]; exact hp)
        rw [if_pos c1, List.map_reverse]; rfl
      · have c1 : ¬ drawV b 4 = 1 := of_decide_eq_false hc
        refine x_next (x_abs ⟨p, rfl, ?_⟩ ⟨.inr rfl, .inr rfl, .inl rfl, .inr rfl, .inl rfl, .inl rfl, .inl rfl, trivial⟩)
        rw [if_neg c1]; rfl
    · rintro ε' L' ⟨pf, rfl, rfl⟩
      generalize hl0 : (if drawV b 4 = 1 then (natsL n).reverse else natsL n) = l0
      have hlen : l0.length = n := by
        rw [← hl0]; split
        · rw [List.length_reverse, hln]
        · exact hln
      by_cases hn0 : 0 < n
      · have hop : orderP b n = turnS n l0 (drawB (drawB b 4) 5) (drawV (drawB b 4) 5).toNat := by unfold orderP; rw [if_neg c0, if_pos hn0, hl0]
        have hv := drawV_ok (drawB b 4) (show (0 : Int) < 5 by decide)
        refine x_seq (x_forR1 (n := drawV (drawB b 4) 5) (L1 := [.lst pf (l0.map PyData.int), (drawB (drawB b 4) 5).at pb pc]) (ea_cons (ex_if (et_test (ex_gt (ex_v rfl) ex_cI)) (fun _ => ex_draw (k := 1) (ea_cons (ex_v rfl) (ea_cons ex_cI ea_nil)) rfl (by decide) (by decide)) (fun h => absurd (of_decide_eq_false h) (by omega))) ea_nil) (by omega)
          (fun i ε L => ε = [some (.v (.ref pb)), iv n, none, some (.v (.ref pf)), none, none, none] ∧ L = [.lst pf ((turnS n l0 (drawB (drawB b 4) 5) i).1.map PyData.int), (turnS n l0 (drawB (drawB b 4) 5) i).2.at pb pc]) ⟨rfl, rfl⟩ ?_ ?_)
        · rintro i ε' L' hi ⟨rfl, rfl⟩
          have hti := turnS_len (b := drawB (drawB b 4) 5) hlen i (.inl hn0)
          generalize hs : turnS n l0 (drawB (drawB b 4) 5) i = s at *
          have hd1 := drawV_ok s.2 (show (0 : Int) < (n : Int) by omega)
          have hd2 := drawV_ok (drawB s.2 n) (show (0 : Int) < (n : Int) by omega)
          have ej : drawV s.2 (n : Int) = (((drawV s.2 (n : Int)).toNat : Nat) : Int) := by omega
          refine x_seq (x_set (ex_popAt (k := 0) (j := (drawV s.2 (n : Int)).toNat) (ex_v rfl) (ex_draw (k := 1) (ea_cons (ex_v rfl) (ea_cons (ex_v rfl) ea_nil)) rfl (by omega) (by omega)) ⟨0, _, rfl⟩ rfl (by omega) (by rw [ej, List.length_map, Int.toNat_natCast]; exact seq_nat (by omega)) (ints_get (by omega))) ?_)
          refine nxt (x_ins (k := 0) (i := drawV (drawB s.2 n) n) (ex_v rfl) (ex_draw (k := 1) (ea_cons (ex_v rfl) (ea_cons (ex_v rfl) ea_nil)) rfl (by omega) (by omega)) (ex_v rfl) rfl ⟨0, _, rfl⟩ ?_ (by omega) ?_)
          · rw [erase_map, List.length_map]
            have := List.length_eraseIdx_le s.1 (drawV s.2 (n : Int)).toNat
            omega
          · refine x_abs ⟨rfl, ?_⟩ ⟨.inr rfl, .inr rfl, .inl rfl, .inr rfl, .inl rfl, .inl rfl, .inl rfl, trivial⟩
            show [MO.lst pf _, _] = [MO.lst pf _, _]
            have e2 : turnS n l0 (drawB (drawB b 4) 5) (i + 1) = oneP n s := by unfold turnS; rw [hs]
            rw [e2, erase_map]
            simp only [oneP, List.map_append, List.map_take, List.map_drop]
            rfl
        · rintro ε' L' ⟨rfl, rfl⟩
          refine nxt (x_ret (ex_tupL (ex_v rfl) (.o (k := 0) rfl)) fun v F σ H rp o => q v F H (hM ▸ rp.nx) ?_ ?_)
          · rw [hop]; exact rp.bag (List.mem_cons_of_mem _ List.mem_cons_self)
          · rw [hop]; exact o
      · have hop : orderP b n = (l0, drawB b 4) := by unfold orderP; rw [if_neg c0, if_neg hn0, hl0]
        refine x_seq (x_forR1 (n := 0) (L1 := [.lst pf (l0.map PyData.int), (drawB b 4).at pb pc]) (ea_cons (ex_if (et_test (ex_gt (ex_v rfl) ex_cI)) (fun h => absurd (of_decide_eq_true h) (by omega)) (fun _ => ex_cI)) ea_nil) (by omega)
          (fun i ε L => ε = [some (.v (.ref pb)), iv n, none, some (.v (.ref pf)), none, none, none] ∧ L = [.lst pf (l0.map PyData.int), (drawB b 4).at pb pc]) ⟨rfl, rfl⟩ (fun i ε' L' hi _ => absurd hi (by omega)) ?_)
        rintro ε' L' ⟨rfl, rfl⟩
        refine nxt (x_ret (ex_tupL (ex_v rfl) (.o (k := 0) rfl)) fun v F σ H rp o => q v F H (hM ▸ rp.nx) ?_ ?_)
        · rw [hop]; exact rp.bag (List.mem_cons_of_mem _ List.mem_cons_self)
        · rw [hop]; exact o
end K80

/-! ## A9 -/
set_option Elab.async false
set_option linter.all false
set_option maxRecDepth 100000
set_option maxHeartbeats 4000000
set_option autoImplicit false
namespace K80
open PySem L2 Fz
variable {P : Program} {w : World} {K : PySem.W.Frag} {mg : Str → Option Value} {base : Heap} {f : Addr} {fd : FuncData}
theorem cut_take (xs : List PyData) (k : Nat) : cutD xs none (some (k : Int)) = xs.take k := by
  unfold cutD
  rw [HT.sIx_none, HT.sIx_nat, List.drop_zero, Nat.sub_zero]
  by_cases h : k ≤ xs.length
  · rw [Nat.min_eq_left h]
  · rw [Nat.min_eq_right (by omega), List.take_length, List.take_of_length_le (by omega)]
theorem cut_drop (xs : List PyData) (k : Nat) : cutD xs (some (k : Int)) none = xs.drop k := by
  unfold cutD
  rw [HT.sIx_none, HT.sIx_nat]
  by_cases h : k ≤ xs.length
  · rw [Nat.min_eq_left h, List.take_of_length_le (by rw [List.length_drop]; exact Nat.le_refl _)]
  · rw [Nat.min_eq_right (by omega), List.drop_length, List.drop_of_length_le (by omega), List.take_nil]
section
variable {B : Bg} {ε : Eps} {L La Lb : Own} {te ti : TE}
theorem ex_takeI {o : List Int} {k : Nat} {i : Int} (h : EX B te ε L (.d (tupD o)) La) (h2 : EX B ti ε La (.d (.int i)) Lb) (e : i = k) : EX B (tSl (rSlA B.K) te tNoPart (tPart ti)) ε L (.d (tupD (o.take k))) Lb := by
  subst e
  refine ex_is (ex_slT (ds := o.map PyData.int) h eo_n (eo_s h2)) ?_
  rw [cut_take]; unfold tupD; rw [List.map_take]
theorem ex_dropI {o : List Int} {k : Nat} {i : Int} (h : EX B te ε L (.d (tupD o)) La) (h2 : EX B ti ε La (.d (.int i)) Lb) (e : i = k) : EX B (tSl (rSlA B.K) te (tPart ti) tNoPart) ε L (.d (tupD (o.drop k))) Lb := by
  subst e
  refine ex_is (ex_slT (ds := o.map PyData.int) h (eo_s h2) eo_n) ?_
  rw [cut_drop]; unfold tupD; rw [List.map_drop]
theorem ex_catI {o u : List Int} {ta tb : TE} (h : EX B ta ε L (.d (tupD o)) La) (h2 : EX B tb ε La (.d (tupD u)) Lb) (hl : o.length + u.length ≤ 100000) : EX B (tOp (rCatA B.K) ta tb) ε L (.d (tupD (o ++ u))) Lb := by
  refine ex_is (ex_catT (ds := o.map PyData.int) (es := u.map PyData.int) h h2 (by rw [List.length_map, List.length_map]; exact hl)) ?_
  unfold tupD; rw [List.map_append]
end
theorem same_eq (i : Nat) (o : List Int) (a : Nat) : (decide ((a : Int) = (i : Int)) || (decide ((0 : Int) < (a : Int)) && decide (o.getD a 0 < o.getD (a - 1) 0))) = sameM i o a := by
  unfold sameM
  have e1 : decide ((a : Int) = (i : Int)) = decide (a = i) := by
    by_cases h : a = i
    · rw [decide_eq_true h, decide_eq_true (by omega)]
    · rw [decide_eq_false h, decide_eq_false (by omega)]
  have e2 : decide ((0 : Int) < (a : Int)) = decide (0 < a) := by
    by_cases h : 0 < a
    · rw [decide_eq_true h, decide_eq_true (by omega)]
    · rw [decide_eq_false h, decide_eq_false (by omega)]
  rw [e1, e2]
def accM (i j : Nat) : List (Int × List Int) := ((ordersM i).take j).flatMap fun fo => (List.range (i + 1)).map (putM i fo)
theorem accM_succ {i j : Nat} {fo : Int × List Int} (h : (ordersM i)[j]? = some fo) : accM i (j + 1) = accM i j ++ (List.range (i + 1)).map (putM i fo) := by
  unfold accM
  rw [List.take_add_one, h, List.flatMap_append]
  simp
theorem ordersM_count : ∀ i, i ≤ 5 → (ordersM i).length ≤ 120 := by decide +kernel
theorem accM_len (i j : Nat) (hi : i ≤ 5) : (accM i j).length ≤ 720 := by
  have h1 := ordersM_count i hi
  have : ∀ l : List (Int × List Int), (l.flatMap fun fo => (List.range (i + 1)).map (putM i fo)).length = l.length * (i + 1) := fun l => by
    induction l with
    | nil => simp
    | cons a l ih => rw [List.flatMap_cons, List.length_append, ih, List.length_map, List.length_range, List.length_cons, Nat.succ_mul]; omega
  unfold accM
  rw [this, List.length_take]
  have h2 : min j (ordersM i).length * (i + 1) ≤ 120 * 6 := Nat.mul_le_mul (by omega) (by omega)
  omega
theorem ok_law_orders (Fn : Fun K "_law_orders" "_law_orders" s_law_orders f fd) (T : Bt P mg base) : FnOk P w K mg base CX0 41 f fd ["most"] (spR K R_orders) := by
  refine fn_data Fn sc_law_orders (by decide) (fun ds d ⟨_, _, h, _⟩ => by rw [h]; rfl) fun cdv A outer s H E hr => ⟨_, (pss_cons (ps_set (i := 1) sc_law_orders.nd rfl (.inl rfl) (pe_lst (pa_cons (pe_lst (pa_cons (pe_tup (pa_cons pe_int (pa_cons (pe_tup pa_nil) pa_nil))) pa_nil)) pa_nil)))
      (pss_cons (ps_for PassesOwn.never rfl (pi_range1 (by rfl) T.n_range (pa_cons (pv 0) pa_nil)) (pg_name (i := 2) sc_law_orders.nd rfl (Or.inl rfl)) (pss_cons (ps_set (i := 3) sc_law_orders.nd rfl (.inl rfl) (pe_lst pa_nil))
      (pss_cons (ps_for PassesOwn.never rfl (pi_list (pe_ix (r := rIxL K) ix_list (pv 1) (pv 2) (fun _ _ => rfl))) (pg_tup rfl (pgs_cons (pg_name (i := 4) sc_law_orders.nd rfl (Or.inl rfl)) (pgs_cons (pg_name (i := 5) sc_law_orders.nd rfl (Or.inl rfl)) pgs_nil))) (pss_one (ps_for PassesOwn.never rfl (pi_range1 (by rfl) T.n_range (pa_cons (pe_op op_add (pv 2) pe_int) pa_nil)) (pg_name (i := 6) sc_law_orders.nd rfl (Or.inl rfl)) (pss_cons (ps_set (i := 7) sc_law_orders.nd rfl (.inl rfl) (pe_or (pe_cmpR op_eq (pv 6) (pv 2) (nomark _)) (pe_one (pe_and (pe_cmpR op_gt (pv 6) pe_int (nomark _)) (pe_one (pe_cmpR op_gt (pe_ix (r := rIxT K) ix_tup (pv 5) (pe_op op_sub (pv 6) pe_int) (fun _ _ => rfl)) (pe_ix (r := rIxT K) ix_tup (pv 5) (pv 6) (fun _ _ => rfl)) (nomark _)))))))
      (pss_one (ps_expr (pe_bm PySem.F.plainAttrs_list PySem.F.slot_list_append PySem.F.type_list_append mt_append (pv 3) (pa_cons (pe_tup (pa_cons (pe_ifExp (pt_val (pv 7)) (pv 4) (pe_op op_add (pv 4) pe_int)) (pa_cons (pe_op (r := rCatA K) op_catA (pe_op (r := rCatA K) op_catA (pe_slice (r := rSlA K) sl_tupA (pv 5) po_none (po_some (pv 6))) (pe_tup (pa_cons (pv 2) pa_nil))) (pe_slice (r := rSlA K) sl_tupA (pv 5) (po_some (pv 6)) po_none)) pa_nil))) pa_nil))))))))
      (pss_one (ps_expr (pe_bm PySem.F.plainAttrs_list PySem.F.slot_list_append PySem.F.type_list_append mt_append (pv 1) (pa_cons (pv 3) pa_nil)))))))
      (pss_one (ps_ret (pv 1))))), ?_⟩
  rintro B Q ds d rfl hM ⟨n, hn, rfl, rfl⟩ q
  refine x_seq (x_setN (en_lst (ds := [.list ((ordersM 0).map pairD)]) (ea_cons (ex_frz (en_lst (ds := (ordersM 0).map pairD) (ea_cons (ex_tup (ds := [.int 0, tupD []]) (ea_cons ex_cI (ea_cons (ex_tup (ds := []) ea_nil (Nat.zero_le _)) ea_nil)) (Nat.le_of_ble_eq_true rfl)) ea_nil) (Nat.le_of_ble_eq_true rfl))) ea_nil) (Nat.le_of_ble_eq_true rfl)) fun p hp => ?_)
  refine x_sq (x_forR1 (n := n) (ea_cons (ex_v rfl) ea_nil) (by omega) (fun i ε L => ε = [iv n, some (.v (.ref p)), none, none, none, none, none, none] ∧ L = [.lst p ((List.range (i + 1)).map fun k => .list ((ordersM k).map pairD))]) ⟨rfl, rfl⟩ ?_ ?_)
  · rintro i ε' L' hi ⟨rfl, rfl⟩
    have hi5 : i ≤ 5 := by omega
    refine x_seq (x_setN (en_lst (ds := []) ea_nil (Nat.zero_le _)) fun pm hpm => ?_)
    refine x_seq (x_forL (ds := (ordersM i).map pairD) (ex_ixL (ds := (List.range (i + 1)).map fun k => .list ((ordersM k).map pairD)) (ex_v rfl) (ex_v rfl) (.o (k := 1) rfl) (atI_nat (by rw [List.getElem?_map, List.getElem?_range (by omega)]; rfl)))
      (fun v j ε L => ε = [iv n, some (.v (.ref p)), iv i, some (.v (.ref pm)), none, none, none, none] ∧ L = [.lst pm ((accM i j).map pairD), .lst p ((List.range (i + 1)).map fun k => .list ((ordersM k).map pairD)), .know v (.list ((ordersM i).map pairD))])
      (fun v => ⟨rfl, rfl⟩) (fun v j ε' L' ⟨_, h⟩ => by rw [h]; simp) ?_ ?_)
    · rintro v j d ε' L' hd ⟨rfl, rfl⟩
      rw [List.getElem?_map] at hd
      cases hfo : (ordersM i)[j]? with
      | none => rw [hfo] at hd; cases hd
      | some fo =>
      rw [hfo] at hd
      cases hd
      have hol := ordersM_len i fo (List.mem_of_getElem? hfo)
      refine ⟨_, gt_tup2 (d := .int fo.1) (e := tupD fo.2), ?_⟩
      refine x_forR1 (n := (i : Int) + 1) (ea_cons (ex_add (ex_v rfl) ex_cI) ea_nil) (by omega) (fun a ε L => ε = [iv n, some (.v (.ref p)), iv i, some (.v (.ref pm)), iv fo.1, some (.d (tupD fo.2)), none, none] ∧ L = [.lst pm ((accM i j ++ (List.range a).map (putM i fo)).map pairD), .lst p ((List.range (i + 1)).map fun k => .list ((ordersM k).map pairD)), .know v (.list ((ordersM i).map pairD))]) ⟨rfl, by rw [List.range_zero, List.map_nil, List.append_nil]⟩ ?_ ?_
      · rintro a ε' L' ha ⟨rfl, rfl⟩
        refine x_seq (x_set (a := .d (.bool (sameM i fo.2 a))) (ex_boolE (ex_orV (ex_eqI (ex_v rfl) (ex_v rfl)) (fun hb => ex_andV (ex_gt (ex_v rfl) ex_cI) (fun hc => ex_gt (ex_ixT (ds := fo.2.map PyData.int) (d := .int (fo.2.getD (a - 1) 0)) (ex_v rfl) (ex_sub (ex_v rfl) ex_cI) ?_) (ex_ixT (ds := fo.2.map PyData.int) (d := .int (fo.2.getD a 0)) (ex_v rfl) (ex_v rfl) ?_)) (fun _ => rfl)) (fun _ => rfl)) (same_eq i fo.2 a)) ?_)
        · have h0 : (0 : Int) < (a : Int) := of_decide_eq_true hc
          have e : (a : Int) - 1 = ((a - 1 : Nat) : Int) := by omega
          rw [e]
          exact at_ints (by omega)
        · have h1 : ¬ (a : Int) = (i : Int) := of_decide_eq_false hb
          exact at_ints (by omega)
        · refine nxt (x_app (d := pairD (putM i fo a)) (ex_v rfl) (ex_is (ex_tup (ds := [.int (if sameM i fo.2 a then fo.1 else fo.1 + 1), tupD (fo.2.take a ++ [(i : Int)] ++ fo.2.drop a)]) (ea_cons (ex_ifI (et_test (ex_v rfl)) (fun _ => ex_v rfl) (fun _ => ex_add (ex_v rfl) ex_cI)) (ea_cons (ex_catI (ex_catI (ex_takeI (ex_v rfl) (ex_v rfl) rfl) (ex_tup (ds := [PyData.int (i : Int)]) (ea_cons (ex_v rfl) ea_nil) (Nat.le_of_ble_eq_true rfl)) ?_) (ex_dropI (ex_v rfl) (ex_v rfl) rfl) ?_) ea_nil)) (Nat.le_of_ble_eq_true rfl)) rfl) (k := 0) rfl ⟨0, _, rfl⟩ ?_ ?_)
          · rw [List.length_take, List.length_singleton]; omega
          · rw [List.length_append, List.length_take, List.length_drop, List.length_singleton]; omega
          · have := accM_len i j hi5
            rw [List.length_map, List.length_append, List.length_map, List.length_range]; omega
          · refine x_abs (ε' := [iv n, some (.v (.ref p)), iv i, some (.v (.ref pm)), iv fo.1, some (.d (tupD fo.2)), none, none]) ⟨rfl, ?_⟩ ⟨.inr rfl, .inr rfl, .inr rfl, .inr rfl, .inr rfl, .inr rfl, .inl rfl, .inl rfl, trivial⟩
            show [MO.lst pm _, _, _] = [MO.lst pm _, _, _]
            have e : (List.range (a + 1)).map (putM i fo) = (List.range a).map (putM i fo) ++ [putM i fo a] := by rw [List.range_succ, List.map_append]; rfl
            rw [e]
            simp only [List.map_append, List.append_assoc]
            rfl
      · rintro ε' L' ⟨rfl, rfl⟩
        refine x_abs (ε' := [iv n, some (.v (.ref p)), iv i, some (.v (.ref pm)), none, none, none, none]) ⟨rfl, ?_⟩ ⟨.inr rfl, .inr rfl, .inr rfl, .inr rfl, .inl rfl, .inl rfl, .inl rfl, .inl rfl, trivial⟩
        rw [accM_succ hfo]
        have e : ((i : Int) + 1).toNat = i + 1 := by omega
        rw [e]
    · rintro v ε' L' ⟨rfl, rfl⟩
      have e : accM i (((ordersM i).map pairD).length) = ordersM (i + 1) := by
        unfold accM
        rw [List.length_map, List.take_length]; rfl
      rw [e]
      refine ho_drop (k := 2) ?_ rfl (fun x hx => nomatch hx)
      refine nxt (x_app (d := .list ((ordersM (i + 1)).map pairD)) (ex_v rfl) (ex_frzV (k := 0) rfl rfl hpm) (k := 0) rfl ⟨1, _, rfl⟩ ?_ ?_)
      · rw [List.length_map, List.length_range]; omega
      · refine x_abs (ε' := [iv n, some (.v (.ref p)), none, none, none, none, none, none]) ⟨rfl, ?_⟩ ⟨.inr rfl, .inr rfl, .inl rfl, .inl rfl, .inl rfl, .inl rfl, .inl rfl, .inl rfl, trivial⟩
        show [MO.lst p _] = [MO.lst p _]
        rw [List.range_succ, List.map_append]
        simp only [List.range_succ, List.map_append]
        rfl
  · rintro ε' L' ⟨rfl, rfl⟩
    refine nxt (x_ret (L1 := []) (ex_frzV (k := 0) rfl rfl hp) fun v F σ H r o => q v F H (hM ▸ r.nx) o)
end K80

/-! ## A10 -/
set_option Elab.async false
set_option linter.all false
set_option maxRecDepth 100000
set_option maxHeartbeats 4000000
set_option autoImplicit false
namespace K80
open PySem L2 Fz
variable {P : Program} {w : World} {K : PySem.W.Frag} {mg : Str → Option Value} {base : Heap} {f : Addr} {fd : FuncData}
def catD (card : Int) : PyData → PyData
  | .tuple xs => .tuple (xs ++ [.int card])
  | d => d
def layD (card : Int) (pile : Nat) : PyData → PyData
  | .tuple xs => .tuple (xs.take pile ++ [catD card (xs.getD pile .none)] ++ xs.drop (pile + 1))
  | d => d
theorem row_at {r : Row} {i : Nat} (h : i < r.length) : (r.map tupD).getD i .none = tupD (r.getD i []) := by
  rw [List.getD_eq_getElem?_getD, List.getElem?_map, List.getElem?_eq_getElem h, List.getD_eq_getElem?_getD, List.getElem?_eq_getElem h]; rfl
theorem layD_row {card : Int} {i : Nat} {r : Row} (h : i < r.length) : layD card i (rowD r) = rowD (layM card i r) := by
  unfold rowD layM
  show PyData.tuple (((r.map tupD).take i) ++ [catD card ((r.map tupD).getD i .none)] ++ ((r.map tupD).drop (i + 1))) = _
  rw [row_at h]
  simp only [List.map_append, List.map_take, List.map_drop, List.map_cons, List.map_nil]
  unfold tupD catD
  simp only [List.map_append, List.map_cons, List.map_nil]
theorem rep_startT {N : List Str} {H : Hp} {p : Addr} {o : HO} {n m : Int} (h : H p = some o) (ho : ∀ xs, o ≠ .tup xs) (hn : 3 ≤ N.length) :
    Rep ⟨K, fun _ => none, H, [p]⟩ (some (.v (.ref p)) :: iv n :: iv m :: List.replicate (N.length - 3) none) [.raw p o] (fun _ => none) (_root_.L2.start N [.ref p, .int n, .int m]) H := by
  refine ⟨(fun _ _ e => by cases e), fun x hx => ?_, fun x hx => ⟨rfl, .inl hx⟩, ?_, fun i x e => ?_, ?_, Sub.rfl' _, fun _ _ _ e => e, fun _ e _ => .inl e, fun x hx => hx⟩
  · rw [List.mem_singleton.mp hx]; exact ⟨h, ho⟩
  · show ([p] : List Addr).Nodup
    simp
  · match i, e with
    | 0, e => cases e; exact ⟨_, rfl, _, rfl, rfl⟩
    | 1, e => cases e; exact ⟨_, rfl, _, rfl, .int _⟩
    | 2, e => cases e; exact ⟨_, rfl, _, rfl, .int _⟩
    | i + 3, e =>
      have e : (List.replicate (N.length - 3) (none : Option AD))[i]? = some x := e
      rw [List.getElem?_replicate] at e
      split at e
      · cases e
        refine ⟨none, ?_, trivial⟩
        show (List.replicate (N.length - 3) (none : Option V))[i]? = some none
        rw [List.getElem?_replicate, if_pos (by assumption)]
      · cases e
  · show (some (V.ref p) :: some (V.int n) :: some (V.int m) :: List.replicate (N.length - 3) none).length = _
    simp only [List.length_cons, List.length_replicate]
theorem deal_succ {t : Tab} {m i : Nat} {x : List Int × Int} (h : t[i]? = some x) : dealT (t.take (i + 1)) m = (rowsM m x.1).foldl (addM x.2) (dealT (t.take i) m) := by
  unfold dealT
  rw [List.take_add_one, h, List.foldl_append]; rfl
theorem rows_succ {m j : Nat} {cards : List Int} {c : Int} (h : cards[j]? = some c) : rowsM m (cards.take (j + 1)) = moreM c (rowsM m (cards.take j)) m := by
  rw [List.take_add_one, h]
  exact rows_snoc _ _ _
theorem ok_law_deals (Fn : Fun K "_law_deals" "_law_deals" s_law_deals f fd) (T : Bt P mg base) : FnOk P w K mg base CX0 41 f fd ["counts", "n", "piles"] (spTab K R_deals) := by
  refine Fn.ok sc_law_deals (fun vs H Q E ⟨_, _, _, _, _, h, _⟩ => by rw [h]; rfl) fun cdv A outer s H vs Q E hr h => ?_
  obtain ⟨p, t, n, m, u, rfl, hp, ⟨k, rfl, hk1, hk10, ⟨hT1, hT2⟩, rfl⟩, q⟩ := h
  refine ⟨_, (pss_cons (ps_set (i := 3) sc_law_deals.nd rfl (.inl rfl) pe_dnewT)
      (pss_cons (ps_lock (ps_for PassesOwn.never rfl (pi_keys (pv 0)) (pg_name (i := 4) sc_law_deals.nd rfl (Or.inl rfl)) (pss_cons (ps_set (i := 5) sc_law_deals.nd rfl (.inl rfl) (pe_lst (pa_cons (pe_op (r := rRepT1 K) op_repT1 (pe_tup (pa_cons (pe_tup pa_nil) pa_nil)) (pv 2)) pa_nil)))
      (pss_cons (ps_for PassesOwn.never rfl (pi_tup (pv 4)) (pg_name (i := 6) sc_law_deals.nd rfl (Or.inr rfl)) (pss_cons (ps_set (i := 8) sc_law_deals.nd rfl (.inl rfl) (pe_lst pa_nil))
      (pss_cons (ps_for PassesOwn.never rfl (pi_range1 (by rfl) T.n_range (pa_cons (pv 2) pa_nil)) (pg_name (i := 9) sc_law_deals.nd rfl (Or.inr rfl)) (pss_one (ps_set (i := 8) sc_law_deals.nd rfl (.inl rfl) (pe_op op_cat (pv 8) (pe_lc (own := [("row", 7)]) rfl sc_law_deals.nd (pi_list (pv 5)) (blkOk_by (own := [("row", 7)]) (N := ["counts", "n", "piles", "found", "cards", "rows", "card", "row", "more", "pile", "made"]) (sc := defScope s_law_deals) (by decide +kernel)) (fun _ _ _ _ _ => (pg_name (i := 7) sc_law_deals.nd rfl (Or.inl rfl))) (fun _ _ _ _ _ => pts_nil) (fun _ _ _ _ _ => (pe_op (r := rCatA K) op_catA (pe_op (r := rCatA K) op_catA (pe_slice (r := rSlA K) sl_tupA (pv 7) po_none (po_some (pv 9))) (pe_tup (pa_cons (pe_op (r := rCatA K) op_catA (pe_ix (r := rIxT K) ix_tup (pv 7) (pv 9) (fun _ _ => rfl)) (pe_tup (pa_cons (pv 6) pa_nil))) pa_nil))) (pe_slice (r := rSlA K) sl_tupA (pv 7) (po_some (pe_op op_add (pv 9) pe_int)) po_none))))))))
      (pss_one (ps_set (i := 5) sc_law_deals.nd rfl (.inl rfl) (pe_callTy (r := rListOf K) call_list_of (by rfl) T.n_list (by decide +kernel) (pa_cons (pv 8) pa_nil)))))))
      (pss_one (ps_for PassesOwn.never rfl (pi_list (pv 5)) (pg_name (i := 7) sc_law_deals.nd rfl (Or.inl rfl)) (pss_cons (ps_set (i := 10) sc_law_deals.nd rfl (.inl rfl) (pe_callB (r := rSumT K) (cr_sumT rfl) (by rfl) T.n_sum (by decide +kernel) (pa_cons (pe_callTy (r := rListOf K) call_list_of (by rfl) T.n_list (by decide +kernel) (pa_cons (pv 7) pa_nil)) (pa_cons (pe_tup pa_nil) pa_nil))))
      (pss_one (ps_dput (hu_in hr) (pv 3) (pv 10) (pe_op op_add (pe_dget2 (hu_in hr) (pv 3) (pv 10) pe_int ⟨by rfl, by rfl, by rfl, by rfl⟩) (pe_dget (hu_in hr) (pv 0) (pv 4) (fun _ _ => rfl))) rfl)))))))))
      (pss_one (ps_ret (pv 3))))), ?_⟩
  refine (?_ : Ho ⟨K, fun _ => none, H, [p]⟩ _ (some (.v (.ref p)) :: iv n :: iv k :: List.replicate (11 - 3) none) [.raw p (.dT (tabV t))]) (fun _ => none) _ H (rep_startT (N := ["counts", "n", "piles", "found", "cards", "rows", "card", "row", "more", "pile", "made"]) hp noT_dT (by decide))
  refine x_seq (x_setR exr_newT fun pf hpf => ?_)
  refine x_sq (x_forD (kk := 1) rfl (fun od => ex_v rfl) (fun od i ε L => ε = [some (.v (.ref p)), iv n, iv k, some (.v (.ref pf)), none, none, none, none, none, none, none] ∧ L = [.raw pf (.dT (tabV (dealT (t.take i) k))), .raw p (.frz od (.dT (tabV t)))] ∧ (dealT (t.take i) k).length ≤ 500 * i) (fun od => ⟨rfl, rfl, Nat.le_refl _⟩) (fun od i ε' L' ⟨_, h, _⟩ => by rw [h]; rfl) ?_ ?_)
  · rintro od i cards z ε' L' hx ⟨rfl, rfl, hfl⟩
    have hil : i < t.length := (List.getElem?_eq_some_iff.mp hx).1
    obtain ⟨c10, c500, cget⟩ := hT2 _ (List.mem_of_getElem? hx)
    have c10 : cards.length ≤ 10 := c10
    have c500 : k ^ cards.length ≤ 500 := c500
    have cget : getT t cards = some z := cget
    have hrows : ∀ j, j ≤ cards.length → (rowsM k (cards.take j)).length ≤ 500 ∧ ∀ r ∈ rowsM k (cards.take j), GoodR k j r := fun j hj => by
      obtain ⟨h1, h2⟩ := rows_ok k j (cards.take j) (by rw [List.length_take]; omega)
      exact ⟨by rw [h1]; exact Nat.le_trans (Nat.pow_le_pow_right hk1 hj) c500, h2⟩
    refine ⟨_, gt_name, fun D' hD' => ?_⟩
    refine x_seq (x_set (a := .d (.list ((rowsM k (cards.take 0)).map rowD))) (ex_frz (en_lst (ds := [rowD (List.replicate k [])]) (ea_cons (ex_is (ex_rep1 (ds := [tupD []]) (ex_tup (ds := [tupD []]) (ea_cons (ex_tup (ds := []) ea_nil (Nat.zero_le _)) ea_nil) (Nat.le_of_ble_eq_true rfl)) (ex_v rfl) (List.cons_ne_nil _ _) (Nat.le_of_ble_eq_true rfl) ⟨by omega, by omega⟩) ?_) ea_nil) (Nat.le_of_ble_eq_true rfl))) ?_)
    · unfold rowD
      rw [List.map_replicate, Int.toNat_natCast]
      have : ∀ m : Nat, (List.replicate m [tupD []]).flatten = List.replicate m (tupD []) := fun m => by
        induction m with
        | zero => rfl
        | succ m ih => rw [List.replicate_succ, List.flatten_cons, ih, List.replicate_succ]; rfl
      rw [this]
    refine x_seq (x_forT (ds := cards.map PyData.int) (ex_v rfl) (fun v j ε L => ε = [some (.v (.ref p)), iv n, iv k, some (.v (.ref pf)), some (.d (tupD cards)), some (.d (.list ((rowsM k (cards.take j)).map rowD))), none, none, none, none, none] ∧ L = [.raw pf (.dT (tabV (dealT (t.take i) k))), .raw p (.frz od (.dT (tabV t))), .know v (tupD cards)]) (fun v => ⟨rfl, rfl⟩) (fun v j ε' L' ⟨_, h⟩ => by rw [h]; simp [tupD]) ?_ ?_)
    · rintro v j d ε' L' hd ⟨rfl, rfl⟩
      rw [List.getElem?_map] at hd
      cases hc : cards[j]? with
      | none => rw [hc] at hd; cases hd
      | some c =>
      rw [hc] at hd
      cases hd
      have hjl : j < cards.length := (List.getElem?_eq_some_iff.mp hc).1
      obtain ⟨l500, hgood⟩ := hrows j (Nat.le_of_lt hjl)
      generalize hR : rowsM k (cards.take j) = R at *
      refine ⟨_, gt_name, ?_⟩
      refine x_seq (x_set (a := .d (.list [])) (ex_frz (en_lst (ds := []) ea_nil (Nat.zero_le _))) ?_)
      refine x_seq (x_forR1 (n := (k : Int)) (ea_cons (ex_v rfl) ea_nil) (by omega) (fun a ε L => ε = [some (.v (.ref p)), iv n, iv k, some (.v (.ref pf)), some (.d (tupD cards)), some (.d (.list (R.map rowD))), iv c, none, some (.d (.list ((moreM c R a).map rowD))), none, none] ∧ L = [.raw pf (.dT (tabV (dealT (t.take i) k))), .raw p (.frz od (.dT (tabV t))), .know v (tupD cards)]) ⟨rfl, rfl⟩ ?_ ?_)
      · rintro a ε' L' ha ⟨rfl, rfl⟩
        have hak : a < k := by omega
        refine x_set (a := .d (.list ((moreM c R (a + 1)).map rowD))) (ex_is (ex_frz (en_cat (ds := (moreM c R a).map rowD) (es := (R.map (layM c a)).map rowD) (ex_v rfl) (ex_is (ex_frz (en_lcLP (xs := R.map rowD) (fun _ => true) (layD c a) (fun d => [some (.v (.ref p)), iv n, iv k, some (.v (.ref pf)), some (.d (tupD cards)), some (.d (.list (R.map rowD))), iv c, some (.d d), some (.d (.list ((moreM c R a).map rowD))), iv a, none]) (ex_v rfl) (by rw [List.length_map]; omega) (gw_name (by simp))
          (fun d hd => gt_name) (fun d hd m => et_yes) ?_)) ?_) .d .d ?_)) ?_) ?_
        · rintro d hd _ m
          obtain ⟨r, hr, rfl⟩ := List.mem_map.mp hd
          obtain ⟨g1, g2⟩ := hgood r hr
          have hga : (r.getD a []).length ≤ r.flatten.length := by
            rw [List.getD_eq_getElem?_getD, List.getElem?_eq_getElem (by omega)]
            exact List.Sublist.length_le (List.sublist_flatten_of_mem (List.getElem_mem _))
          refine ex_is (ex_catT (ds := (r.map tupD).take a ++ [tupD (r.getD a [] ++ [c])]) (es := (r.map tupD).drop (a + 1)) (ex_catT (ds := (r.map tupD).take a) (es := [tupD (r.getD a [] ++ [c])]) (ex_is (ex_slT (ds := r.map tupD) (ex_v rfl) eo_n (eo_s (ex_v rfl))) (by rw [cut_take])) (ex_tup (ds := [tupD (r.getD a [] ++ [c])]) (ea_cons (ex_catI (ex_ixT (ds := r.map tupD) (d := tupD (r.getD a [])) (ex_v rfl) (ex_v rfl) ?_) (ex_tup (ds := [PyData.int c]) (ea_cons (ex_v rfl) ea_nil) (Nat.le_of_ble_eq_true rfl)) ?_) ea_nil) (Nat.le_of_ble_eq_true rfl)) ?_) (ex_is (ex_slT (ds := r.map tupD) (ex_v rfl) (eo_s (ex_int (k := ((a + 1 : Nat) : Int)) (ex_add (ex_v rfl) ex_cI) (by omega))) eo_n) (by rw [cut_drop])) ?_) ?_
          · refine atI_nat ?_
            rw [List.getElem?_map, List.getElem?_eq_getElem (by omega), List.getD_eq_getElem?_getD, List.getElem?_eq_getElem (by omega)]; rfl
          · rw [List.length_singleton]; omega
          · rw [List.length_take, List.length_map, List.length_singleton]; omega
          · rw [List.length_append, List.length_take, List.length_drop, List.length_map, List.length_singleton]; omega
          · rw [layD_row (by omega)]
            unfold rowD layM
            simp only [List.map_append, List.map_take, List.map_drop, List.map_cons, List.map_nil]
        · rw [filter_yes, List.map_map, List.map_map]
          congr 2
          refine List.map_congr_left fun r hr => ?_
          exact layD_row (by rw [(hgood r hr).1]; exact hak)
        · rw [List.length_map, List.length_map, List.length_map, more_len]
          have : a * R.length ≤ 10 * 500 := Nat.mul_le_mul (by omega) l500
          omega
        · rw [more_succ, List.map_append]
        · refine x_abs ⟨rfl, rfl⟩ ⟨.inr rfl, .inr rfl, .inr rfl, .inr rfl, .inr rfl, .inr rfl, .inr rfl, .inr rfl, .inr rfl, .inl rfl, .inr rfl, trivial⟩
      · rintro ε' L' ⟨rfl, rfl⟩
        refine x_set (a := .d (.list ((rowsM k (cards.take (j + 1))).map rowD))) (ex_is (ex_frz (en_list (ex_v rfl) .d)) ?_) ?_
        · rw [rows_succ hc, hR, Int.toNat_natCast]
        · exact x_abs ⟨rfl, rfl⟩ ⟨.inr rfl, .inr rfl, .inr rfl, .inr rfl, .inr rfl, .inr rfl, .inl rfl, .inr rfl, .inl rfl, .inr rfl, .inr rfl, trivial⟩
    · rintro v ε' L' ⟨rfl, rfl⟩
      have el : (cards.map PyData.int).length = cards.length := List.length_map ..
      rw [el, List.take_length]
      obtain ⟨l500, hgood⟩ := hrows cards.length (Nat.le_refl _)
      rw [List.take_length] at l500 hgood
      generalize hF : dealT (t.take i) k = F0 at *
      refine ho_drop (k := 2) ?_ rfl (fun x hx => nomatch hx)
      refine nxt (x_forL (ds := (rowsM k cards).map rowD) (ex_v rfl) (fun v j ε L => ε = [some (.v (.ref p)), iv n, iv k, some (.v (.ref pf)), some (.d (tupD cards)), some (.d (.list ((rowsM k cards).map rowD))), none, none, none, none, none] ∧ L = [.raw pf (.dT (tabV (((rowsM k cards).take j).foldl (addM z) F0))), .raw p (.frz od (.dT (tabV t))), .know v (.list ((rowsM k cards).map rowD))]) (fun v => ⟨rfl, rfl⟩) (fun v j ε' L' ⟨_, h⟩ => by rw [h]; simp) ?_ ?_)
      · rintro v j d ε' L' hd ⟨rfl, rfl⟩
        rw [List.getElem?_map] at hd
        cases hr : (rowsM k cards)[j]? with
        | none => rw [hr] at hd; cases hd
        | some r =>
        rw [hr] at hd
        cases hd
        obtain ⟨g1, g2⟩ := hgood r (List.mem_of_getElem? hr)
        refine ⟨_, gt_name, ?_⟩
        refine x_seq (x_set (a := .d (tupD r.flatten)) (ex_sumT (zs := r) (ex_frz (en_listT (ds := r.map tupD) (ex_v rfl))) (ex_tup (ds := []) ea_nil (Nat.zero_le _)) .d (by omega)) ?_)
        have hlen := add_len z ((rowsM k cards).take j) F0
        rw [List.length_take] at hlen
        generalize hG : ((rowsM k cards).take j).foldl (addM z) F0 = G at *
        refine x_dput (kk := 0) (t := G) (k := r.flatten) (z := (getT G r.flatten).getD 0 + z) (ex_add (ex_dget2 (kk := 0) (t := G) (ex_v rfl) (ex_v rfl) ex_cI ⟨0, _, rfl⟩ rfl) (ex_dget (kk := 1) (t := t) (k := cards) (ex_v rfl) (ex_v rfl) (.inr ⟨od, rfl⟩) cget)) (ex_v rfl) (ex_v rfl) rfl ?_ ?_
        · have : i * 500 ≤ 100 * 500 := Nat.mul_le_mul (by omega) (Nat.le_refl _)
          omega
        · refine x_abs (ε' := [some (.v (.ref p)), iv n, iv k, some (.v (.ref pf)), some (.d (tupD cards)), some (.d (.list ((rowsM k cards).map rowD))), none, none, none, none, none]) ⟨rfl, ?_⟩ ⟨.inr rfl, .inr rfl, .inr rfl, .inr rfl, .inr rfl, .inr rfl, .inr rfl, .inl rfl, .inr rfl, .inr rfl, .inl rfl, trivial⟩
          have e : ((rowsM k cards).take (j + 1)).foldl (addM z) F0 = addM z G r := by
            rw [List.take_add_one, hr, List.foldl_append, hG]; rfl
          rw [e]; rfl
      · rintro v ε' L' ⟨rfl, rfl⟩
        show Ho _ D'.nx _ _
        rw [hD']
        refine ho_drop (k := 2) ?_ rfl (fun x hx => nomatch hx)
        have e : ((rowsM k cards).take ((rowsM k cards).map rowD).length).foldl (addM z) F0 = dealT (t.take (i + 1)) k := by
          rw [List.length_map, List.take_length, deal_succ hx, hF]
        have hl := add_len z (rowsM k cards) F0
        rw [e]
        rw [List.length_map, List.take_length] at e
        rw [e] at hl
        exact x_abs ⟨rfl, rfl, by omega⟩ ⟨.inr rfl, .inr rfl, .inr rfl, .inr rfl, .inl rfl, .inl rfl, .inr rfl, .inr rfl, .inr rfl, .inr rfl, .inr rfl, trivial⟩
  · rintro od ε' L' ⟨rfl, rfl, _⟩
    rw [List.take_length]
    refine nxt (x_retV (v := .ref pf) (ex_v rfl) fun F σ H1 r => ?_)
    refine q pf H1 (fun a o e => ?_) ((r.off pf List.mem_cons_self).2.resolve_left hpf) (r.tab (kk := 0) rfl)
    by_cases c : a = p
    · subst c
      rw [hp] at e; cases e
      exact r.tab (kk := 1) rfl
    · exact r.h0 a o (fun z => c (List.mem_singleton.mp z)) e
end K80

/-! ## A11 -/
set_option Elab.async false
set_option linter.all false
set_option maxRecDepth 100000
set_option maxHeartbeats 4000000
set_option autoImplicit false
namespace K80
open PySem L2 Fz
variable {P : Program} {w : World} {K : PySem.W.Frag} {mg : Str → Option Value} {base : Heap} {f : Addr} {fd : FuncData}
/-! ### what can be shown -/
def Sh (d : PyData) : Prop := d.showable = true ∧ d.hasDict = false ∧ d.depth ≤ 64 ∧ d.shown.length ≤ sizeLine
theorem int_short {i : Int} (h : Bd 1920 i) : (PyData.int i).shown.length ≤ 700 := by
  have big : (2 : Nat) ^ 1920 ≤ 10 ^ 600 := by decide +kernel
  have nat : ∀ m : Nat, m < 2 ^ 1920 → (Str.ofString (toString (m : Int))).length ≤ 600 := fun m hm => by
    refine PyProof.Rows.toString_length_le (by omega) (by decide) ?_
    have : (m : Int) < ((10 ^ 600 : Nat) : Int) := by
      have := Nat.lt_of_lt_of_le hm big
      omega
    rw [Int.natCast_pow] at this
    exact this
  rw [PyData.shown_int]
  cases i with
  | ofNat m => exact Nat.le_trans (nat m h) (by decide)
  | negSucc m =>
    have h1 := nat (m + 1) h
    have e : toString (Int.negSucc m) = "-" ++ toString ((m + 1 : Nat) : Int) := rfl
    rw [PyProof.Rows.ofString_length] at h1
    show (Str.ofString (toString (Int.negSucc m))).length ≤ 700
    rw [PyProof.Rows.ofString_length, e, String.toList_append, List.length_append]
    have e2 : ("-" : String).toList.length = 1 := rfl
    omega
theorem int_showable {i : Int} (h : Bd 1920 i) : (PyData.int i).showable = true := by
  show decide (i.natAbs.log2 < 1920) = true
  refine decide_eq_true ?_
  by_cases c : i.natAbs = 0
  · rw [c]; decide
  · exact (Nat.log2_lt c).mpr h
theorem sh_all : ∀ l : List Int, (∀ x ∈ l, Bd 1920 x) → PyData.showableAll (l.map PyData.int) = true ∧ PyData.hasDictAll (l.map PyData.int) = false ∧ PyData.leavesShortAll 700 (l.map PyData.int) = true ∧ PyData.bulkAll (l.map PyData.int) = l.length
  | [], _ => ⟨rfl, rfl, rfl, rfl⟩
  | x :: l, h => by
    obtain ⟨a, b, c, d⟩ := sh_all l fun y hy => h y (List.mem_cons_of_mem _ hy)
    have hx := h x List.mem_cons_self
    refine ⟨?_, ?_, ?_, ?_⟩
    · show ((PyData.int x).showable && PyData.showableAll (l.map PyData.int)) = true
      rw [int_showable hx, a]; rfl
    · show (false || PyData.hasDictAll (l.map PyData.int)) = false
      rw [b]; rfl
    · show (decide ((PyData.int x).shown.length ≤ 700) && PyData.leavesShortAll 700 (l.map PyData.int)) = true
      rw [decide_eq_true (int_short hx), c]; rfl
    · show 0 + 1 + PyData.bulkAll (l.map PyData.int) = l.length + 1
      omega
theorem sh_ti {l : List Int} (h : ∀ x ∈ l, Bd 1920 x) (hl : l.length ≤ 100) : Sh (ti l) := by
  obtain ⟨a, b, c, d⟩ := sh_all l h
  refine ⟨a, b, ?_, ?_⟩
  · show PyData.depthAll (l.map PyData.int) + 1 ≤ 64
    rw [depth_ints]; decide
  · have := PyData.shown_le_bulk 700 (by decide) (ti l) c
    have e : (ti l).bulk = l.length := d
    rw [e] at this
    rw [sizeLine_eq]
    omega
theorem sh_fr {t b : Int} (h1 : Bd 1920 t) (h2 : Bd 1920 b) : Sh (frD t b) := by
  refine sh_ti (l := [t / (Int.gcd t b : Int), b / (Int.gcd t b : Int)]) (fun x hx => ?_) (by show 2 ≤ 100; decide)
  simp only [List.mem_cons, List.not_mem_nil, or_false] at hx
  rcases hx with e | e
  · rw [e]; exact h1.div
  · rw [e]; exact h2.div
theorem sh_nat {m : Nat} (h : m < 1000) : Sh (.int m) := by
  have hb : Bd 1920 (m : Int) := (Bd.of (k := 10) (n := 1000) (by omega) (by omega) (by decide)).mono (by decide)
  refine ⟨int_showable hb, rfl, Nat.zero_le _, ?_⟩
  have := int_short hb
  rw [sizeLine_eq]; omega
section
variable {B : Bg} {ε : Eps} {L La : Own} {te : TE}
theorem ex_rep {d : PyData} (s : Sh d) (h : EX B te ε L (.d d) La) : EX B (tCB (rReprD B.K) (tCons te tNil)) ε L (.d (.str d.shown)) La := ex_repr h s.1 s.2.1 s.2.2.1 s.2.2.2
end
theorem kw_210 {F : Hp} {vs zs : List V} {x y z : PyData} (h : AdAll K F [] vs) (h2 : AdAll K F [.d x, .d y, .d z] zs) : DqAll K F (kwG 3 [2, 1, 0] vs zs) [z, y, x] := by
  match vs, h, zs, h2 with
  | [], _, [a, b, c], h2 => exact .cons h2.2.2.1 (.cons h2.2.1 (.cons h2.1 .nil))
theorem kw_10 {F : Hp} {vs zs : List V} {x y : PyData} (h : AdAll K F [] vs) (h2 : AdAll K F [.d x, .d y] zs) : DqAll K F (kwG 2 [1, 0] vs zs) [y, x] := by
  match vs, h, zs, h2 with
  | [], _, [a, b], h2 => exact .cons h2.2.1 (.cons h2.1 .nil)
/-! ### near -/
def e30 : Int := 10 ^ 30
def nearS (b : Bag) (n : Nat) (p : Int) (k : Nat) : Int × Int × Bag :=
  let t0 := farT n (p ^ k)
  let l0 := farL n (p ^ k)
  let t1 := t0 / (Int.gcd t0 l0 : Int)
  let l1 := l0 / (Int.gcd t0 l0 : Int)
  if e30 < l1 then (t1 * e30 / l1 + drawV b 2, e30, drawB b 2)
  else if 0 < t1 then (if drawV b 2 = 0 then (t1 * (e30 / l1) - 1, l1 * (e30 / l1), drawB b 2) else (t1, l1, drawB b 2))
  else (t1, l1, b)
def nearT (b : Bag) (n : Nat) (p : Int) (k : Nat) : Int := if (nearS b n p k).2.1 < (nearS b n p k).1 then (nearS b n p k).2.1 else (nearS b n p k).1
def R_near : Bag → List PyData → PyData → Bag → Prop := fun b ds d b' => ∃ (n : Nat) (p : Int) (k : Nat), ds = [.int n, .int p, .int k] ∧ n ≤ 60 ∧ 0 < p ∧ Bd 20 p ∧ k ≤ 20 ∧ d = frD (nearT b n p k) (nearS b n p k).2.1 ∧ b' = (nearS b n p k).2.2
theorem draw_bd (b : Bag) {n : Int} (h : 0 < n ∧ n ≤ 1000001) : Bd 21 (drawV b n) := by
  have := drawV_ok b h.1
  exact Bd.of (n := 1000002) (by omega) (by omega) (by decide)
theorem e30_bd : Bd 100 e30 := by unfold Bd e30; decide
theorem e30_pos : 0 < e30 := by decide
theorem near_ok (b : Bag) {n : Nat} {p : Int} {k : Nat} (hn : n ≤ 60) (h0 : 0 < p) (hp : Bd 20 p) (hk : k ≤ 20) : 0 < (nearS b n p k).2.1 ∧ Bd 90000 (nearS b n p k).1 ∧ Bd 90000 (nearS b n p k).2.1 := by
  have hpk := pow20 hp hk
  have hl : 0 < farL n (p ^ k) := farL_pos (Int.pow_pos h0)
  have b1 := farT_bd (n := n) hpk hn
  have b2 := farL_bd (n := n) hpk hn
  unfold nearS
  generalize farT n (p ^ k) = t0 at *
  generalize farL n (p ^ k) = l0 at *
  have hg : (0 : Int) < (Int.gcd t0 l0 : Int) := by
    have : 0 < Int.gcd t0 l0 := Int.gcd_pos_of_ne_zero_right t0 (by omega)
    omega
  have hl1 : 0 < l0 / (Int.gcd t0 l0 : Int) := by
    have e := Int.ediv_mul_cancel (Int.gcd_dvd_right t0 l0)
    exact Int.pos_of_mul_pos_left (by rw [e]; exact hl) hg
  have c1 : Bd 28000 (t0 / (Int.gcd t0 l0 : Int)) := b1.div
  have c2 : Bd 28000 (l0 / (Int.gcd t0 l0 : Int)) := b2.div
  dsimp only
  generalize t0 / (Int.gcd t0 l0 : Int) = t1 at *
  generalize l0 / (Int.gcd t0 l0 : Int) = l1 at *
  split
  · exact ⟨e30_pos, ((c1.mul e30_bd).div.add ((draw_bd b (by decide)).mono (by decide))).mono (by decide), e30_bd.mono (by decide)⟩
  · split
    · split
      · have hm : 0 < e30 / l1 := Int.le_ediv_of_mul_le hl1 (by omega)
        refine ⟨Int.mul_pos hl1 hm, ((c1.mul (e30_bd.div (y := l1))).sub (bd_one _)).mono (by decide), (c2.mul (e30_bd.div (y := l1))).mono (by decide)⟩
      · exact ⟨hl1, c1.mono (by decide), c2.mono (by decide)⟩
    · exact ⟨hl1, c1.mono (by decide), c2.mono (by decide)⟩
theorem ok_law_near (Fn : Fun K "_law_near" "_law_near" s_law_near f fd) (T : Bt P mg base) (C_law_draw : Df P w K mg base 41 "_law_draw" ["bag", "below"] (spB K R_draw)) (C_law_far : Df P w K mg base 42 "_law_far" ["n", "piles", "row"] (spR K R_lfar)) (C_law_times : Df P w K mg base 41 "_law_times" ["one", "many"] (spR K R_pow))
    (C_law_falls_row : Df P w K mg base 41 "_law_falls_row" ["n"] (spR K R_cof)) (C_law_least : Df P w K mg base 42 "_law_least" ["top", "low"] (spR K R_frac)) : FnOk P w K mg base CX0 43 f fd ["bag", "n", "piles", "deals"] (spB K R_near) := by
  refine fn_bag Fn sc_law_near (by decide) (fun b ds d b' ⟨_, _, _, h, _⟩ => by rw [h]; rfl) fun cdv A outer s H E hr => ⟨_, (pss_cons (ps_asg (pe_callD C_law_far (hr.mono (by decide)) (by rfl) (pa_cons (pv 1) (pa_cons (pe_callD C_law_times (hr.mono (by decide)) (by rfl) (pa_cons (pv 2) (pa_cons (pv 3) pa_nil))) (pa_cons (pe_callD C_law_falls_row (hr.mono (by decide)) (by rfl) (pa_cons (pv 1) pa_nil)) pa_nil)))) (pg_tup rfl (pgs_cons (pg_name (i := 4) sc_law_near.nd rfl (Or.inl rfl)) (pgs_cons (pg_name (i := 5) sc_law_near.nd rfl (Or.inl rfl)) pgs_nil))))
      (pss_cons (ps_asg (pe_callD C_law_least (hr.mono (by decide)) (by rfl) (pa_cons (pv 4) (pa_cons (pv 5) pa_nil))) (pg_tup rfl (pgs_cons (pg_name (i := 4) sc_law_near.nd rfl (Or.inl rfl)) (pgs_cons (pg_name (i := 5) sc_law_near.nd rfl (Or.inl rfl)) pgs_nil))))
      (Evl.pss_cut (ps_if (pt_cmpR op_gt (pv 5) (pe_op op_pow pe_int pe_int) (nomark _)) (pss_one (ps_par (i := 4) (j := 5) (by rfl) sc_law_near.nd rfl rfl (by decide) rfl rfl (pa_cons (pe_op op_add (pe_op (op_fdivP hr T.hpl) (pe_op op_mulW (pv 4) (pe_op op_pow pe_int pe_int)) (pv 5)) (pe_callD C_law_draw (hr.mono (by decide)) (by rfl) (pa_cons (pv 0) (pa_cons pe_int pa_nil)))) (pa_cons (pe_op op_pow pe_int pe_int) pa_nil)) (by rfl))) (pss_one (ps_if (PW.pt (pw_and (pt_cmpR op_gt (pv 4) pe_int (nomark _)) (pw_and1 (pt_cmpR op_eq (pe_callD C_law_draw (hr.mono (by decide)) (by rfl) (pa_cons (pv 0) (pa_cons pe_int pa_nil))) pe_int (nomark _))))) (pss_cons (ps_set (i := 6) sc_law_near.nd rfl (.inl rfl) (pe_op (op_fdivP hr T.hpl) (pe_op op_pow pe_int pe_int) (pv 5)))
      (pss_one (ps_par (i := 4) (j := 5) (by rfl) sc_law_near.nd rfl rfl (by decide) rfl rfl (pa_cons (pe_op op_sub (pe_op op_mulW (pv 4) (pv 6)) pe_int) (pa_cons (pe_op op_mulW (pv 5) (pv 6)) pa_nil)) (by rfl)))) pss_nil)))
      (pss_one (ps_ret (pe_callD C_law_least (hr.mono (by decide)) (by rfl) (pa_cons (pe_callB (call_min2 rfl) (by rfl) T.n_min (by decide +kernel) (pa_cons (pv 4) (pa_cons (pv 5) pa_nil))) (pa_cons (pv 5) pa_nil)))))))), ?_⟩
  rintro B Q pb pc b ds d b' rfl hM ⟨n, p, k, rfl, hn, h0, hp, hk, rfl, rfl⟩ q
  have hpk := pow20 hp hk
  have hpos : 0 < p ^ k := Int.pow_pos h0
  have hl : 0 < farL n (p ^ k) := farL_pos hpos
  refine x_seq (x_asg (ex_call (ds := [.int n, .int (p ^ k), li (cofRow n)]) (ea_cons (ex_v rfl) (ea_cons (ex_call (ds := [.int p, .int k]) (ea_cons (ex_v rfl) (ea_cons (ex_v rfl) ea_nil)) ⟨p, k, 20, rfl, hp, by omega, by omega, rfl⟩) (ea_cons (ex_call (ds := [.int n]) (ea_cons (ex_v rfl) ea_nil) ⟨n, rfl, hn, rfl⟩) ea_nil))) ⟨n, p ^ k, rfl, hn, hpos, hpk, rfl⟩) gt_tup2 ?_)
  refine x_sq (x_asg (ex_call (ds := [.int (farT n (p ^ k)), .int (farL n (p ^ k))]) (ea_cons (ex_v rfl) (ea_cons (ex_v rfl) ea_nil)) ⟨_, _, rfl, hl, rfl⟩) (gt_tup2 (d := .int _) (e := .int _)) ?_)
  obtain ⟨r1, r2, r3⟩ := near_ok b hn h0 hp hk
  have c1 : Bd 28000 (farT n (p ^ k) / (Int.gcd (farT n (p ^ k)) (farL n (p ^ k)) : Int)) := (farT_bd hpk hn).div
  have c2 : Bd 28000 (farL n (p ^ k) / (Int.gcd (farT n (p ^ k)) (farL n (p ^ k)) : Int)) := (farL_bd hpk hn).div
  have hg : (0 : Int) < (Int.gcd (farT n (p ^ k)) (farL n (p ^ k)) : Int) := by
    have : 0 < Int.gcd (farT n (p ^ k)) (farL n (p ^ k)) := Int.gcd_pos_of_ne_zero_right _ (by omega)
    omega
  have hl1 : 0 < farL n (p ^ k) / (Int.gcd (farT n (p ^ k)) (farL n (p ^ k)) : Int) := by
    have e := Int.ediv_mul_cancel (Int.gcd_dvd_right (farT n (p ^ k)) (farL n (p ^ k)))
    exact Int.pos_of_mul_pos_left (by rw [e]; exact hl) hg
  have hS : nearS b n p k = if e30 < farL n (p ^ k) / (Int.gcd (farT n (p ^ k)) (farL n (p ^ k)) : Int) then (farT n (p ^ k) / (Int.gcd (farT n (p ^ k)) (farL n (p ^ k)) : Int) * e30 / (farL n (p ^ k) / (Int.gcd (farT n (p ^ k)) (farL n (p ^ k)) : Int)) + drawV b 2, e30, drawB b 2)
      else if 0 < farT n (p ^ k) / (Int.gcd (farT n (p ^ k)) (farL n (p ^ k)) : Int) then (if drawV b 2 = 0 then (farT n (p ^ k) / (Int.gcd (farT n (p ^ k)) (farL n (p ^ k)) : Int) * (e30 / (farL n (p ^ k) / (Int.gcd (farT n (p ^ k)) (farL n (p ^ k)) : Int))) - 1, farL n (p ^ k) / (Int.gcd (farT n (p ^ k)) (farL n (p ^ k)) : Int) * (e30 / (farL n (p ^ k) / (Int.gcd (farT n (p ^ k)) (farL n (p ^ k)) : Int))), drawB b 2) else (farT n (p ^ k) / (Int.gcd (farT n (p ^ k)) (farL n (p ^ k)) : Int), farL n (p ^ k) / (Int.gcd (farT n (p ^ k)) (farL n (p ^ k)) : Int), drawB b 2))
      else (farT n (p ^ k) / (Int.gcd (farT n (p ^ k)) (farL n (p ^ k)) : Int), farL n (p ^ k) / (Int.gcd (farT n (p ^ k)) (farL n (p ^ k)) : Int), b) := rfl
  have pw : ∀ {ε : Eps} {L : Own}, EX B (tOp (rI CPow fun i j => .int (i ^ j.toNat)) (tC (.int 10)) (tC (.int 30))) ε L (.d (.int e30)) L := fun {ε L} => ex_int (ex_pow ex_cI ex_cI ⟨by decide, by decide, by decide⟩) (by decide +kernel)
  unfold nearT at q
  generalize hSS : nearS b n p k = S at *
  generalize farT n (p ^ k) / (Int.gcd (farT n (p ^ k)) (farL n (p ^ k)) : Int) = t1 at *
  generalize farL n (p ^ k) / (Int.gcd (farT n (p ^ k)) (farL n (p ^ k)) : Int) = l1 at *
  refine nxt (x_cut (M := fun ε L => ε = [some (.v (.ref pb)), iv n, iv p, iv k, iv S.1, iv S.2.1, none] ∧ L = [S.2.2.at pb pc]) ?_ ?_)
  · refine x_if (et_test (ex_gt (ex_v rfl) pw)) (fun hc => ?_) fun hc => ?_
    · rw [if_pos (of_decide_eq_true hc)] at hS
      subst hS
      refine x_par (ea_cons (ex_add (ex_fdivP (ex_mul (ex_v rfl) pw (cmul c1 e30_bd (by decide))) (ex_v rfl) hl1) (ex_draw (k := 0) (ea_cons (ex_v rfl) (ea_cons ex_cI ea_nil)) rfl (by decide) (by decide))) (ea_cons pw ea_nil)) ?_
      exact x_abs ⟨rfl, rfl⟩ ⟨.inr rfl, .inr rfl, .inr rfl, .inr rfl, .inr rfl, .inr rfl, .inl rfl, trivial⟩
    · have hc' : ¬ e30 < l1 := of_decide_eq_false hc
      rw [if_neg hc'] at hS
      by_cases ht : 0 < t1
      · rw [if_pos ht] at hS
        refine x_if (b := decide (drawV b 2 = 0)) (L1 := [(drawB b 2).at pb pc]) (et_is (et_and (et_test (ex_gt (ex_v rfl) ex_cI)) (fun _ => et_test (ex_eqI (ex_draw (k := 0) (ea_cons (ex_v rfl) (ea_cons ex_cI ea_nil)) rfl (by decide) (by decide)) ex_cI)) (fun h => absurd ht (of_decide_eq_false h))) (by rw [decide_eq_true ht]; rfl)) (fun hd => ?_) fun hd => ?_
        · rw [if_pos (of_decide_eq_true hd)] at hS
          subst hS
          refine x_seq (x_set (ex_fdivP pw (ex_v rfl) hl1) ?_)
          refine x_par (ea_cons (ex_sub (ex_mul (ex_v rfl) (ex_v rfl) (cmul c1 (e30_bd.div (y := l1)) (by decide))) ex_cI) (ea_cons (ex_mul (ex_v rfl) (ex_v rfl) (cmul c2 (e30_bd.div (y := l1)) (by decide))) ea_nil)) ?_
          exact x_abs ⟨rfl, rfl⟩ ⟨.inr rfl, .inr rfl, .inr rfl, .inr rfl, .inr rfl, .inr rfl, .inl rfl, trivial⟩
        · rw [if_neg (of_decide_eq_false hd)] at hS
          subst hS
          exact x_next (x_abs ⟨rfl, rfl⟩ ⟨.inr rfl, .inr rfl, .inr rfl, .inr rfl, .inr rfl, .inr rfl, .inr rfl, trivial⟩)
      · rw [if_neg ht] at hS
        subst hS
        refine x_if (b := false) (L1 := [b.at pb pc]) (et_is (et_and (c := false) (L2 := [b.at pb pc]) (et_test (ex_gt (ex_v rfl) ex_cI)) (fun h => absurd (of_decide_eq_true h) ht) (fun _ => rfl)) (by rw [Bool.and_false])) (fun hd => nomatch hd) fun _ => ?_
        exact x_next (x_abs ⟨rfl, rfl⟩ ⟨.inr rfl, .inr rfl, .inr rfl, .inr rfl, .inr rfl, .inr rfl, .inr rfl, trivial⟩)
  · rintro ε' L' ⟨rfl, rfl⟩
    refine x_ret (ex_call (ds := [.int (if S.2.1 < S.1 then S.2.1 else S.1), .int S.2.1]) (ea_cons (ex_min2 (ex_v rfl) (ex_v rfl)) (ea_cons (ex_v rfl) ea_nil)) ⟨_, _, rfl, r1, rfl⟩) fun v F σ H rp o => q v F H (hM ▸ rp.nx) ?_ o
    exact rp.bag List.mem_cons_self
end K80

/-! ## A13 -/
set_option Elab.async false
set_option linter.all false
set_option maxRecDepth 100000
set_option maxHeartbeats 4000000
set_option autoImplicit false
namespace K80
open PySem L2 Fz
variable {P : Program} {w : World} {K : PySem.W.Frag} {mg : Str → Option Value} {base : Heap} {f : Addr} {fd : FuncData}
/-! ### the chances -/
@[irreducible] def chB (b : Bag) : Bag := (pilesP (orderP (cardsP b).2 (cardsP b).1.toNat).2 (fallsN (orderP (cardsP b).2 (cardsP b).1.toNat).1)).2
theorem chB_eq (b : Bag) : chB b = (pilesP (orderP (cardsP b).2 (cardsP b).1.toNat).2 (fallsN (orderP (cardsP b).2 (cardsP b).1.toNat).1)).2 := by unfold chB; rfl
@[irreducible] def iterB (g : Bag → Bag) (b : Bag) (n : Nat) : Bag := Nat.rec (motive := fun _ => Bag) b (fun _ x => g x) n
theorem iterB_zero (g : Bag → Bag) (b : Bag) : iterB g b 0 = b := by unfold iterB; rfl
theorem iterB_succ (g : Bag → Bag) (b : Bag) (i : Nat) : iterB g b (i + 1) = g (iterB g b i) := by unfold iterB; rfl
def R_yes (g : Bag → Bag) : Bag → List PyData → PyData → Bag → Prop := fun b ds d b' => ds = [] ∧ d = .bool true ∧ b' = g b
/-- the cards of an order are small -/
def Small (l : List Int) : Prop := ∀ x ∈ l, 0 ≤ x ∧ x < 64
theorem small_nats {n : Nat} (h : n ≤ 60) : Small (natsL n) := fun x hx => by
  obtain ⟨i, hi, rfl⟩ := List.mem_map.mp hx
  have := List.mem_range.mp hi
  omega
theorem small_getD {l : List Int} (h : Small l) (j : Nat) : 0 ≤ l.getD j 0 ∧ l.getD j 0 < 64 := by
  by_cases c : j < l.length
  · rw [List.getD_eq_getElem?_getD, List.getElem?_eq_getElem c]
    exact h _ (List.getElem_mem c)
  · rw [getD_out (by omega)]; omega
theorem small_mix {n : Nat} (h : n ≤ 60) (b : Bag) : ∀ i, Small (mixS n b i).1 ∧ Small (mixS n b i).2.1
  | 0 => ⟨small_nats h, fun x hx => nomatch hx⟩
  | i + 1 => by
    obtain ⟨h1, h2⟩ := small_mix h b i
    unfold mixS
    refine ⟨fun x hx => h1 x (List.mem_of_mem_eraseIdx hx), fun x hx => ?_⟩
    rcases List.mem_append.mp hx with hx | hx
    · exact h2 x hx
    · rw [List.mem_singleton.mp hx]; exact small_getD h1 _
theorem small_one {n : Nat} {s : List Int × Bag} (h : Small s.1) : Small (oneP n s).1 := fun x hx => by
  unfold oneP at hx
  have hx : x ∈ (s.1.eraseIdx (drawV s.2 n).toNat).take (drawV (drawB s.2 n) n).toNat ++ [s.1.getD (drawV s.2 n).toNat 0] ++ (s.1.eraseIdx (drawV s.2 n).toNat).drop (drawV (drawB s.2 n) n).toNat := hx
  rcases List.mem_append.mp hx with hx | hx
  · rcases List.mem_append.mp hx with hx | hx
    · exact h x (List.mem_of_mem_eraseIdx (List.mem_of_mem_take hx))
    · rw [List.mem_singleton.mp hx]; exact small_getD h _
  · exact h x (List.mem_of_mem_eraseIdx (List.mem_of_mem_drop hx))
theorem small_turn {n : Nat} {l : List Int} (h : Small l) (b : Bag) : ∀ i, Small (turnS n l b i).1
  | 0 => h
  | i + 1 => small_one (small_turn h b i)
theorem small_order {n : Nat} (h : n ≤ 60) (b : Bag) : Small (orderP b n).1 := by
  have hl : Small (if drawV b 4 = 1 then (natsL n).reverse else natsL n) := by
    split
    · exact fun x hx => small_nats h x (List.mem_reverse.mp hx)
    · exact small_nats h
  unfold orderP
  split
  · exact (small_mix h (drawB b 4) n).2
  · split
    · exact small_turn hl _ _
    · exact hl
theorem sh_small {l : List Int} (h : Small l) (hl : l.length ≤ 60) : Sh (ti l) := sh_ti (fun x hx => by
  have := h x hx
  exact (Bd.of (k := 7) (n := 64) (by omega) (by omega) (by decide)).mono (by decide)) (by omega)
theorem prod20 {p : Int} (hp : 1 ≤ p ∧ p ≤ 1000000) {d : Int} (hd : 0 ≤ d ∧ d ≤ 60) {n : Nat} (hn : n ≤ 52) : Bd 1041 (prodF (p - d) n) :=
  (prodF_bd (k := 20) (fun i hi => Bd.of (n := 1000100) (by omega) (by omega) (by decide)) n (by omega)).mono (by omega)
theorem dealt20 {p : Int} (hp : 1 ≤ p ∧ p ≤ 1000000) {d : Int} (hd : 0 ≤ d ∧ d ≤ 60) {n : Nat} (hn : n ≤ 52) : Bd 1041 (dealtBy p n d) := (prod20 hp hd hn).div
theorem pow20' {p : Int} (hp : 1 ≤ p ∧ p ≤ 1000000) {n : Nat} (hn : n ≤ 52) : Bd 1041 (p ^ n) := ((bd20 hp).pow n).mono (by omega)
theorem sh_chance {p : Int} (hp : 1 ≤ p ∧ p ≤ 1000000) {d : Int} (hd : 0 ≤ d ∧ d ≤ 60) {n : Nat} (hn : n ≤ 52) : Sh (frD (dealtBy p n d) (p ^ n)) := sh_fr ((dealt20 hp hd hn).mono (by decide)) ((pow20' hp hn).mono (by decide))
theorem ne_self (s : Str) : (!decide (s = s)) = false := by simp
end K80

/-! ## A12 -/
set_option Elab.async false
set_option linter.all false
set_option maxRecDepth 100000
set_option maxHeartbeats 4000000
set_option autoImplicit false
namespace K80
open PySem L2 Fz
variable {P : Program} {w : World} {K : PySem.W.Frag} {mg : Str → Option Value} {base : Heap} {f : Addr} {fd : FuncData}
def R_isf : Bag → List PyData → PyData → Bag → Prop := fun b ds d b' => ∃ (n : Nat) (p x y : Int), ds = [.int n, .int p, .tuple [.int x, .int y]] ∧ n ≤ 60 ∧ 0 < p ∧ Bd 20 p ∧ Bd 100000 x ∧ Bd 100000 y ∧ d = .bool true ∧ b' = drawB b 2
theorem ok_law_is_fewest (Fn : Fun K "_law_is_fewest" "_law_is_fewest" s_law_is_fewest f fd) (T : Bt P mg base) (C_law_due_deals : Df P w K mg base 43 "_law_due_deals" ["n", "piles", "share"] (spR K R_few)) (C_fewest_deals : Df P w K mg base 44 "fewest_deals" ["n", "piles", "share"] (spR K R_few))
    (CK_fewest_deals_share_piles_n : DfK P w K mg base 44 "fewest_deals" ["n", "piles", "share"] ["share", "piles", "n"] (kwG 3 [2, 1, 0]) (kwG 3 [2, 1, 0]) (spR K R_few)) (C_law_draw : Df P w K mg base 41 "_law_draw" ["bag", "below"] (spB K R_draw)) :
    GOk P w K mg base 45 f fd ["bag", "n", "piles", "share"] (spB K R_isf) := by
  refine g_bag Fn sc_law_is_fewest (by decide) (fun b ds d b' ⟨_, _, _, _, h, _⟩ => by rw [h]; rfl) fun cdv A outer s H hr hG => ⟨_, (pss_cons (ps_set (i := 4) sc_law_is_fewest.nd rfl (.inl rfl) (pe_callD C_law_due_deals (hr.mono (by decide)) (by rfl) (pa_cons (pv 1) (pa_cons (pv 2) (pa_cons (pv 3) pa_nil)))))
      (pss_cons (ps_set (i := 5) sc_law_is_fewest.nd rfl (.inl rfl) (pe_ifExp (pt_cmpR op_eq (pe_callD C_law_draw (hr.mono (by decide)) (by rfl) (pa_cons (pv 0) (pa_cons pe_int pa_nil))) pe_int (nomark _)) (pe_callD C_fewest_deals (hr.mono (by decide)) (by rfl) (pa_cons (pv 1) (pa_cons (pv 2) (pa_cons (pv 3) pa_nil)))) (pe_callKD CK_fewest_deals_share_piles_n (hr.mono (by decide)) (by rfl) (pk_cons (pv 3) (pk_cons (pv 2) (pk_cons (pv 1) pk_nil))))))
      (pss_one (ps_ret (pe_ifExp (pt_cmp (pc_isN (pv 4)) rfl) (pe_cmp (pc_isN (pv 5)) rfl) (pe_cmpR op_eq (pe_callB (r := rReprD K) (call_reprD hr hG) (by rfl) T.n_repr (by decide +kernel) (pa_cons (pv 5) pa_nil)) (pe_callB (r := rReprD K) (call_reprD hr hG) (by rfl) T.n_repr (by decide +kernel) (pa_cons (pv 4) pa_nil)) (nomark _))))))), ?_⟩
  rintro B Q pb pc b ds d b' rfl hM ⟨n, p, x, y, rfl, hn, h0, hp, hx, hy, rfl, rfl⟩ q
  refine x_seq (x_set (ex_call (ds := [.int n, .int p, .tuple [.int x, .int y]]) (ea_cons (ex_v rfl) (ea_cons (ex_v rfl) (ea_cons (ex_v rfl) ea_nil))) ⟨n, p, x, y, rfl, hn, h0, hp, hx, hy, rfl⟩) ?_)
  refine x_sq (x_set (a := .d (optD (fewM n p x y))) (ex_if (et_test (ex_eqI (ex_draw (k := 0) (ea_cons (ex_v rfl) (ea_cons ex_cI ea_nil)) rfl (by decide) (by decide)) ex_cI)) (fun _ => ex_call (ds := [.int n, .int p, .tuple [.int x, .int y]]) (ea_cons (ex_v rfl) (ea_cons (ex_v rfl) (ea_cons (ex_v rfl) ea_nil))) ⟨n, p, x, y, rfl, hn, h0, hp, hx, hy, rfl⟩)
    (fun _ => ex_callK (bs := [.d (.tuple [.int x, .int y]), .d (.int p), .d (.int n)]) ea_nil (ea_cons (ex_v rfl) (ea_cons (ex_v rfl) (ea_cons (ex_v rfl) ea_nil))) (fun K F vs zs h1 h2 => kw_210 h1 h2) ⟨n, p, x, y, rfl, hn, h0, hp, hx, hy, rfl⟩)) ?_)
  cases hm : fewM n p x y with
  | none =>
    refine nxt (x_ret (d := .bool true) (L1 := [(drawB b 2).at pb pc]) (ex_if (L1 := [(drawB b 2).at pb pc]) (et_B (ex_isN (d := .none) (ex_v rfl))) (fun _ => ex_isN (d := .none) (ex_v rfl)) (fun h => nomatch h)) fun v F σ H rp o => q v F H (hM ▸ rp.nx) (rp.bag List.mem_cons_self) o)
  | some m =>
    have hlt : m < 21 := List.mem_range.mp (List.mem_of_find?_eq_some hm)
    have sh : Sh (.int (m : Int)) := sh_nat (by omega)
    refine nxt (x_ret (d := .bool true) (L1 := [(drawB b 2).at pb pc]) (ex_if (L1 := [(drawB b 2).at pb pc]) (et_B (ex_isN (d := .int (m : Int)) (ex_v rfl))) (fun h => nomatch h) (fun _ => ex_boolE (ex_eqS (ex_rep sh (ex_v rfl)) (ex_rep sh (ex_v rfl))) (decide_eq_true rfl))) fun v F σ H rp o => q v F H (hM ▸ rp.nx) (rp.bag List.mem_cons_self) o)

end K80

/-! ## A14 -/
set_option Elab.async false
set_option linter.all false
set_option maxRecDepth 100000
set_option maxHeartbeats 4000000
set_option autoImplicit false
namespace K80
open PySem L2 Fz
variable {P : Program} {w : World} {K : PySem.W.Frag} {mg : Str → Option Value} {base : Heap} {f : Addr} {fd : FuncData}
theorem ok_law_are_chances_right (Fn : Fun K "_law_are_chances_right" "_law_are_chances_right" s_law_are_chances_right f fd) (T : Bt P mg base) (C_law_order : Df P w K mg base 42 "_law_order" ["bag", "n"] (spB K R_order)) (C_law_cards : Df P w K mg base 43 "_law_cards" ["bag"] (spB K R_cards))
    (C_law_piles : Df P w K mg base 43 "_law_piles" ["bag", "near"] (spB K R_piles)) (C_law_least : Df P w K mg base 42 "_law_least" ["top", "low"] (spR K R_frac)) (C_law_times : Df P w K mg base 41 "_law_times" ["one", "many"] (spR K R_pow))
    (C_deal_chance : Df P w K mg base 44 "deal_chance" ["piles", "order"] (spR K R_chance)) (CK_deal_chance_order_piles : DfK P w K mg base 44 "deal_chance" ["piles", "order"] ["order", "piles"] (kwG 2 [1, 0]) (kwG 2 [1, 0]) (spR K R_chance)) :
    GOk P w K mg base 45 f fd ["bag"] (spB K (R_yes fun b => iterB chB b 5)) := by
  refine g_bag Fn sc_law_are_chances_right (by decide) (fun b ds d b' ⟨h, _⟩ => by rw [h]; rfl) fun cdv A outer s H hr hG => ⟨_, (pss_cons (ps_for PassesOwn.never rfl (pi_range1 (by rfl) T.n_range (pa_cons pe_int pa_nil)) (pg_name (i := 1) sc_law_are_chances_right.nd rfl (Or.inl rfl)) (pss_cons (ps_set (i := 2) sc_law_are_chances_right.nd rfl (.inr rfl) (pe_callD C_law_order (hr.mono (by decide)) (by rfl) (pa_cons (pv 0) (pa_cons (pe_callD C_law_cards (hr.mono (by decide)) (by rfl) (pa_cons (pv 0) pa_nil)) pa_nil))))
      (pss_cons (ps_set (i := 3) sc_law_are_chances_right.nd rfl (.inl rfl) (pe_callB (r := Evl.rLenS K) call_len_seq (by rfl) T.n_len (by decide +kernel) (pa_cons (pv 2) pa_nil)))
      (pss_cons (ps_set (i := 4) sc_law_are_chances_right.nd rfl (.inl rfl) (pe_callB (r := Evl.rLenS K) call_len_seq (by rfl) T.n_len (by decide +kernel) (pa_cons (pe_lc (own := [("i", 7)]) rfl sc_law_are_chances_right.nd (pi_range2 (by rfl) T.n_range (pa_cons pe_int (pa_cons (pv 3) pa_nil))) (blkOk_by (own := [("i", 7)]) (N := ["bag", "turn", "order", "n", "falls", "piles", "top", "i", "due", "kept"]) (sc := defScope s_law_are_chances_right) (by decide +kernel)) (fun _ _ _ _ _ => (pg_name (i := 7) sc_law_are_chances_right.nd rfl (Or.inl rfl))) (fun _ _ _ _ _ => (pts_one (pt_cmpR op_gt (pe_ix (r := rIxT K) ix_tup (pv 2) (pe_op op_sub (pv 7) pe_int) (fun _ _ => rfl)) (pe_ix (r := rIxT K) ix_tup (pv 2) (pv 7) (fun _ _ => rfl)) (nomark _)))) (fun _ _ _ _ _ => (pv 7))) pa_nil)))
      (pss_cons (ps_par (i := 5) (j := 6) (by rfl) sc_law_are_chances_right.nd rfl rfl (by decide) rfl rfl (pa_cons (pe_callD C_law_piles (hr.mono (by decide)) (by rfl) (pa_cons (pv 0) (pa_cons (pv 4) pa_nil))) (pa_cons pe_int pa_nil)) (by rfl))
      (pss_cons (ps_for PassesOwn.never rfl (pi_range1 (by rfl) T.n_range (pa_cons (pv 3) pa_nil)) (pg_name (i := 7) sc_law_are_chances_right.nd rfl (Or.inl rfl)) (pss_one (ps_set (i := 6) sc_law_are_chances_right.nd rfl (.inl rfl) (pe_op op_fdivW (pe_op op_mulW (pv 6) (pe_callB (call_max2 rfl) (by rfl) T.n_max (by decide +kernel) (pa_cons (pe_op op_add (pe_op op_sub (pv 5) (pv 4)) (pv 7)) (pa_cons pe_int pa_nil)))) (pe_op op_add (pv 7) pe_int)))))
      (pss_cons (ps_par (i := 8) (j := 9) (by rfl) sc_law_are_chances_right.nd rfl rfl (by decide) rfl rfl (pa_cons (pe_callB (r := rReprD K) (call_reprD hr hG) (by rfl) T.n_repr (by decide +kernel) (pa_cons (pe_callD C_law_least (hr.mono (by decide)) (by rfl) (pa_cons (pv 6) (pa_cons (pe_callD C_law_times (hr.mono (by decide)) (by rfl) (pa_cons (pv 5) (pa_cons (pv 3) pa_nil))) pa_nil))) pa_nil)) (pa_cons (pe_callB (r := rReprD K) (call_reprD hr hG) (by rfl) T.n_repr (by decide +kernel) (pa_cons (pv 2) pa_nil)) pa_nil)) (by rfl))
      (pss_cons (ps_if (PW.pt (pw_or (pt_cmpR op_ne (pe_callB (r := rReprD K) (call_reprD hr hG) (by rfl) T.n_repr (by decide +kernel) (pa_cons (pe_callD C_deal_chance (hr.mono (by decide)) (by rfl) (pa_cons (pv 5) (pa_cons (pv 2) pa_nil))) pa_nil)) (pv 8) (nomark _)) (pw_or1 (pt_cmpR op_ne (pe_callB (r := rReprD K) (call_reprD hr hG) (by rfl) T.n_repr (by decide +kernel) (pa_cons (pe_callKD CK_deal_chance_order_piles (hr.mono (by decide)) (by rfl) (pk_cons (pv 2) (pk_cons (pv 5) pk_nil))) pa_nil)) (pv 8) (nomark _))))) (pss_one (ps_ret pe_bl)) pss_nil)
      (pss_one (ps_if (pt_cmpR op_ne (pe_callB (r := rReprD K) (call_reprD hr hG) (by rfl) T.n_repr (by decide +kernel) (pa_cons (pv 2) pa_nil)) (pv 9) (nomark _)) (pss_one (ps_ret pe_bl)) pss_nil))))))))))
      (pss_one (ps_ret pe_bl))), ?_⟩
  rintro B Q pb pc b ds d b' rfl hM ⟨rfl, rfl, rfl⟩ q
  refine x_seq (x_forR1 (n := 5) (ea_cons ex_cI ea_nil) (by decide) (fun i ε L => ε = [some (.v (.ref pb)), none, none, none, none, none, none, none, none, none] ∧ L = [(iterB chB b i).at pb pc]) ⟨rfl, by rw [iterB_zero]⟩ ?_ ?_)
  · rintro i ε' L' hi ⟨rfl, rfl⟩
    rw [iterB_succ]
    generalize iterB chB b i = b0
    have hc := cardsP_ok b0
    have ec : (cardsP b0).1 = (((cardsP b0).1.toNat : Nat) : Int) := by omega
    have hn52 : (cardsP b0).1.toNat ≤ 52 := by omega
    refine x_seq (x_set (a := .d (ti (orderP (cardsP b0).2 (cardsP b0).1.toNat).1)) (ex_callB (k := 0) (ds := [.int ((cardsP b0).1.toNat : Nat)]) (b := (cardsP b0).2) (b' := (orderP (cardsP b0).2 (cardsP b0).1.toNat).2) (ea_cons (ex_v rfl) (ea_cons (ex_int (ex_callB (k := 0) (ds := []) (d := .int (cardsP b0).1) (b' := (cardsP b0).2) (ea_cons (ex_v rfl) ea_nil) rfl ⟨rfl, rfl, rfl⟩) ec) ea_nil)) rfl ⟨_, by omega, rfl, rfl, rfl⟩) ?_)
    have hlen := orderP_len (cardsP b0).2 (cardsP b0).1.toNat
    have hsm := small_order (n := (cardsP b0).1.toNat) (by omega) (cardsP b0).2
    rw [chB_eq]
    generalize (cardsP b0).1.toNat = n at *
    generalize orderP (cardsP b0).2 n = o at *
    obtain ⟨l, b1⟩ := o
    dsimp only at hlen hsm ⊢
    have hln : (l.length : Int) = (n : Int) := by omega
    have hfl := fallsN_le l
    have hi0 : ∀ i : Nat, (1 : Int) + i < n → atI (l.map PyData.int) ((1 : Int) + i - 1) = some (.int (l.getD i 0)) := fun i hi => by
      have e : (1 : Int) + (i : Int) - 1 = (i : Int) := by omega
      rw [e]; exact at_ints (by omega)
    have hi1 : ∀ i : Nat, (1 : Int) + i < n → atI (l.map PyData.int) ((1 : Int) + i) = some (.int (l.getD (i + 1) 0)) := fun i hi => by
      have e : (1 : Int) + (i : Int) = ((i + 1 : Nat) : Int) := by omega
      rw [e]; exact at_ints (by omega)
    have e1 : ((n : Int) - 1).toNat = l.length - 1 := by omega
    refine x_seq (x_set (a := .d (.int n)) (ex_int (ex_lenT (ds := l.map PyData.int) (ex_v rfl) rfl) (by rw [List.length_map]; exact hln)) ?_)
    refine x_sq (x_set (a := .d (.int (fallsN l))) (ex_int (ex_lenL (ex_frz (en_lcR2P (fun i => decide (l.getD (i + 1) 0 < l.getD i 0)) (fun i => .int (1 + (i : Int))) (ea_cons ex_cI (ea_cons (ex_v rfl) ea_nil)) (by omega) (by simp)
      (fun i m hi => et_test (ex_gt (ex_ixT (ds := l.map PyData.int) (ex_v rfl) (ex_sub (ex_v rfl) ex_cI) (hi0 i hi)) (ex_ixT (ds := l.map PyData.int) (ex_v rfl) (ex_v rfl) (hi1 i hi)))) (fun i m hi _ => ex_v rfl) (by omega))) .d rfl) (by rw [List.length_map, e1]; rfl)) ?_)
    have hpp := pilesP_ok b1 (near := fallsN l) (by omega)
    refine x_sq (x_par (ea_cons (ex_callB (k := 0) (ds := [.int (fallsN l)]) (d := .int (pilesP b1 (fallsN l)).1) (b' := (pilesP b1 (fallsN l)).2) (ea_cons (ex_v rfl) (ea_cons (ex_v rfl) ea_nil)) rfl ⟨fallsN l, by omega, rfl, rfl, rfl⟩) (ea_cons ex_cI ea_nil)) ?_)
    generalize pilesP b1 (fallsN l) = pp at *
    obtain ⟨p, b2⟩ := pp
    dsimp only at hpp ⊢
    have hdd : ∀ i : Nat, i ≤ n → topF (p - fallsN l) i = topF (p - fallsN l) i := fun _ _ => rfl
    have htop : topF (p - fallsN l) n = dealtBy p n (fallsN l) := topF_dealt (by omega)
    have htb : ∀ i : Nat, i ≤ n → Bd 25000 (topF (p - fallsN l) i) := fun i hi => by
      by_cases hz : p - (fallsN l : Int) ≤ 0
      · cases i with
        | zero => exact bd_one _
        | succ i => rw [topF_zero hz]; exact bd_zero _
      · have := topF_dealt (t := p - (fallsN l : Int)) (d := 0) (n := i) (.inr (by omega))
        rw [Int.sub_zero] at this
        rw [this]
        exact dealt_bd (Bd.of (k := 410) (n := 1000001) (by omega) (by omega) (by decide)) (by decide) (by omega)
    refine x_seq (x_forR1 (n := n) (ea_cons (ex_v rfl) ea_nil) (by omega) (fun j ε L => ε = [some (.v (.ref pb)), iv i, some (.d (ti l)), iv n, iv (fallsN l), iv p, iv (topF (p - fallsN l) j), none, none, none] ∧ L = [b2.at pb pc]) ⟨rfl, rfl⟩ ?_ ?_)
    · rintro j ε' L' hj ⟨rfl, rfl⟩
      refine x_set (a := .d (.int (topF (p - fallsN l) (j + 1)))) (ex_fdiv (ex_mul (ex_v rfl) (ex_max2 (ex_add (ex_sub (ex_v rfl) (ex_v rfl)) (ex_v rfl)) ex_cI) (cmul (htb j (by omega)) (b := 21) (Bd.of (n := 1000100) (by split <;> omega) (by split <;> omega) (by decide)) (by decide))) (ex_add (ex_v rfl) ex_cI) (cdiv (b := 7) (by omega) (Bd.of (k := 7) (n := 128) (by omega) (by omega) (by decide)) (by decide))) ?_
      exact x_abs ⟨rfl, rfl⟩ ⟨.inr rfl, .inr rfl, .inr rfl, .inr rfl, .inr rfl, .inr rfl, .inr rfl, .inl rfl, .inr rfl, .inr rfl, trivial⟩
    · rintro ε' L' ⟨rfl, rfl⟩
      rw [Int.toNat_natCast, htop]
      have shc : Sh (frD (dealtBy p n (fallsN l)) (p ^ n)) := sh_chance hpp (by omega) hn52
      have sho : Sh (ti l) := sh_small hsm (by omega)
      have hb20 := bd20' hpp
      refine x_seq (x_par (a := .d (.str (frD (dealtBy p n (fallsN l)) (p ^ n)).shown)) (b := .d (.str (ti l).shown)) (ea_cons (ex_rep shc (ex_call (ds := [.int (dealtBy p n (fallsN l)), .int (p ^ n)]) (ea_cons (ex_v rfl) (ea_cons (ex_call (ds := [.int p, .int n]) (ea_cons (ex_v rfl) (ea_cons (ex_v rfl) ea_nil)) ⟨p, n, 410, rfl, hb20, by omega, by omega, rfl⟩) ea_nil)) ⟨_, _, rfl, Int.pow_pos (by omega), rfl⟩)) (ea_cons (ex_rep sho (ex_v rfl)) ea_nil)) ?_)
      have hRc : R_chance [.int p, ti l] (frD (dealtBy p n (fallsN l)) (p ^ n)) := ⟨p, l, rfl, by omega, hb20, by omega, by rw [hlen]⟩
      refine x_sq (x_if (b := false) (et_is (et_or (et_test (ex_neS (ex_rep shc (ex_call (ds := [.int p, ti l]) (ea_cons (ex_v rfl) (ea_cons (ex_v rfl) ea_nil)) hRc)) (ex_v rfl))) (fun _ => et_test (ex_neS (ex_rep shc (ex_callK (bs := [.d (ti l), .d (.int p)]) ea_nil (ea_cons (ex_v rfl) (ea_cons (ex_v rfl) ea_nil)) (fun K F vs zs h1 h2 => kw_10 h1 h2) hRc)) (ex_v rfl))) (fun _ => rfl)) (by rw [ne_self]; rfl)) (fun h => nomatch h) fun _ => ?_)
      refine x_next (nxt (x_if (b := false) (et_is (et_test (ex_neS (ex_rep sho (ex_v rfl)) (ex_v rfl))) (ne_self _)) (fun h => nomatch h) fun _ => ?_))
      exact x_next (x_abs ⟨rfl, rfl⟩ ⟨.inr rfl, .inl rfl, .inl rfl, .inl rfl, .inl rfl, .inl rfl, .inl rfl, .inr rfl, .inl rfl, .inl rfl, trivial⟩)
  · rintro ε' L' ⟨rfl, rfl⟩
    exact nxt (x_ret ex_cB fun v F σ H rp o => q v F H (hM ▸ rp.nx) (rp.bag List.mem_cons_self) o)
end K80

/-! ## A15 -/
set_option Elab.async false
set_option linter.all false
set_option maxRecDepth 100000
set_option maxHeartbeats 4000000
set_option autoImplicit false
namespace K80
open PySem L2 Fz
variable {P : Program} {w : World} {K : PySem.W.Frag} {mg : Str → Option Value} {base : Heap} {f : Addr} {fd : FuncData}
@[irreducible] def faB (b : Bag) : Bag := (pilesP (cardsP b).2 (cardsP b).1).2
theorem faB_eq (b : Bag) : faB b = (pilesP (cardsP b).2 (cardsP b).1).2 := by unfold faB; rfl
theorem farS20 {p : Int} (hp : 1 ≤ p ∧ p ≤ 1000000) {n : Nat} (hn : n ≤ 52) : ∀ d, d ≤ 60 → Bd (1820 + d) (farS n p d)
  | 0, _ => bd_zero _
  | d + 1, h => by
    unfold farS
    have b1 : Bd 460 ((cofRow n).getD d 0) := (rowAt_bd (n - 1) (by omega) d).mono (by omega)
    have b2 : Bd 1354 (dealtBy p n (d : Int) * (fac n : Int)) := ((dealt20 hp (by omega) hn).mul (fac_bd n (by omega))).mono (by omega)
    have b3 : Bd 1355 (dealtBy p n (d : Int) * (fac n : Int) - p ^ n) := b2.sub ((pow20' hp hn).mono (by decide))
    exact ((farS20 hp hn d (by omega)).add ((b1.mul b3.abs).mono (by omega))).mono (by omega)
theorem farT20 {p : Int} (hp : 1 ≤ p ∧ p ≤ 1000000) {n : Nat} (hn : n ≤ 52) : Bd 1900 (farT n p) := (farS20 hp hn _ (by rw [cof_len]; omega)).mono (by rw [cof_len]; omega)
theorem farL20 {p : Int} (hp : 1 ≤ p ∧ p ≤ 1000000) {n : Nat} (hn : n ≤ 52) : Bd 1900 (farL n p) :=
  (((Bd.of (k := 2) (x := 2) (n := 3) (by decide) (by decide) (by decide)).mul (pow20' hp hn)).mul (fac_bd n (by omega))).mono (by omega)
theorem sh_far {p : Int} (hp : 1 ≤ p ∧ p ≤ 1000000) {n : Nat} (hn : n ≤ 52) : Sh (frD (farT n p) (farL n p)) := sh_fr ((farT20 hp hn).mono (by decide)) ((farL20 hp hn).mono (by decide))
theorem ok_law_are_fars_right (Fn : Fun K "_law_are_fars_right" "_law_are_fars_right" s_law_are_fars_right f fd) (T : Bt P mg base) (C_law_cards : Df P w K mg base 43 "_law_cards" ["bag"] (spB K R_cards)) (C_law_piles : Df P w K mg base 43 "_law_piles" ["bag", "near"] (spB K R_piles))
    (C_law_far : Df P w K mg base 42 "_law_far" ["n", "piles", "row"] (spR K R_lfar)) (C_law_falls_row : Df P w K mg base 41 "_law_falls_row" ["n"] (spR K R_cof)) (C_law_least : Df P w K mg base 42 "_law_least" ["top", "low"] (spR K R_frac))
    (C_far_from_even : Df P w K mg base 43 "far_from_even" ["n", "piles"] (spR K R_far)) (CK_far_from_even_piles_n : DfK P w K mg base 43 "far_from_even" ["n", "piles"] ["piles", "n"] (kwG 2 [1, 0]) (kwG 2 [1, 0]) (spR K R_far)) :
    GOk P w K mg base 44 f fd ["bag"] (spB K (R_yes fun b => iterB faB b 3)) := by
  refine g_bag Fn sc_law_are_fars_right (by decide) (fun b ds d b' ⟨h, _⟩ => by rw [h]; rfl) fun cdv A outer s H hr hG => ⟨_, (pss_cons (ps_for PassesOwn.never rfl (pi_range1 (by rfl) T.n_range (pa_cons pe_int pa_nil)) (pg_name (i := 1) sc_law_are_fars_right.nd rfl (Or.inl rfl)) (pss_cons (ps_set (i := 2) sc_law_are_fars_right.nd rfl (.inl rfl) (pe_callD C_law_cards (hr.mono (by decide)) (by rfl) (pa_cons (pv 0) pa_nil)))
      (pss_cons (ps_set (i := 3) sc_law_are_fars_right.nd rfl (.inl rfl) (pe_callD C_law_piles (hr.mono (by decide)) (by rfl) (pa_cons (pv 0) (pa_cons (pv 2) pa_nil))))
      (pss_cons (ps_asg (pe_callD C_law_far (hr.mono (by decide)) (by rfl) (pa_cons (pv 2) (pa_cons (pv 3) (pa_cons (pe_callD C_law_falls_row (hr.mono (by decide)) (by rfl) (pa_cons (pv 2) pa_nil)) pa_nil)))) (pg_tup rfl (pgs_cons (pg_name (i := 4) sc_law_are_fars_right.nd rfl (Or.inl rfl)) (pgs_cons (pg_name (i := 5) sc_law_are_fars_right.nd rfl (Or.inl rfl)) pgs_nil))))
      (pss_cons (ps_set (i := 6) sc_law_are_fars_right.nd rfl (.inl rfl) (pe_callB (r := rReprD K) (call_reprD hr hG) (by rfl) T.n_repr (by decide +kernel) (pa_cons (pe_callD C_law_least (hr.mono (by decide)) (by rfl) (pa_cons (pv 4) (pa_cons (pv 5) pa_nil))) pa_nil)))
      (pss_one (ps_if (PW.pt (pw_or (pt_cmpR op_ne (pe_callB (r := rReprD K) (call_reprD hr hG) (by rfl) T.n_repr (by decide +kernel) (pa_cons (pe_callD C_far_from_even (hr.mono (by decide)) (by rfl) (pa_cons (pv 2) (pa_cons (pv 3) pa_nil))) pa_nil)) (pv 6) (nomark _)) (pw_or1 (pt_cmpR op_ne (pe_callB (r := rReprD K) (call_reprD hr hG) (by rfl) T.n_repr (by decide +kernel) (pa_cons (pe_callKD CK_far_from_even_piles_n (hr.mono (by decide)) (by rfl) (pk_cons (pv 3) (pk_cons (pv 2) pk_nil))) pa_nil)) (pv 6) (nomark _))))) (pss_one (ps_ret pe_bl)) pss_nil)))))))
      (pss_one (ps_ret pe_bl))), ?_⟩
  rintro B Q pb pc b ds d b' rfl hM ⟨rfl, rfl, rfl⟩ q
  refine x_seq (x_forR1 (n := 3) (ea_cons ex_cI ea_nil) (by decide) (fun i ε L => ε = [some (.v (.ref pb)), none, none, none, none, none, none] ∧ L = [(iterB faB b i).at pb pc]) ⟨rfl, by rw [iterB_zero]⟩ ?_ ?_)
  · rintro i ε' L' hi ⟨rfl, rfl⟩
    rw [iterB_succ]
    generalize iterB faB b i = b0
    rw [faB_eq]
    have hc := cardsP_ok b0
    have ec : (cardsP b0).1 = (((cardsP b0).1.toNat : Nat) : Int) := by omega
    have hn52 : (cardsP b0).1.toNat ≤ 52 := by omega
    refine x_seq (x_set (a := .d (.int ((cardsP b0).1.toNat : Nat))) (ex_int (ex_callB (k := 0) (ds := []) (d := .int (cardsP b0).1) (b' := (cardsP b0).2) (ea_cons (ex_v rfl) ea_nil) rfl ⟨rfl, rfl, rfl⟩) ec) ?_)
    rw [ec]
    rw [Int.toNat_natCast]
    generalize (cardsP b0).1.toNat = n at *
    generalize (cardsP b0).2 = b1 at *
    have hpp := pilesP_ok b1 (near := n) (by omega)
    refine x_sq (x_set (a := .d (.int (pilesP b1 n).1)) (ex_callB (k := 0) (ds := [.int n]) (b := b1) (d := .int (pilesP b1 n).1) (b' := (pilesP b1 n).2) (ea_cons (ex_v rfl) (ea_cons (ex_v rfl) ea_nil)) rfl ⟨n, by omega, rfl, rfl, rfl⟩) ?_)
    generalize (pilesP b1 n).1 = p at *
    generalize (pilesP b1 n).2 = b2 at *
    have hb20 := bd20' hpp
    have hn60 : n ≤ 60 := by omega
    have h0 : 0 < p := by omega
    refine x_sq (x_asg (ex_call (ds := [.int n, .int p, li (cofRow n)]) (ea_cons (ex_v rfl) (ea_cons (ex_v rfl) (ea_cons (ex_call (ds := [.int n]) (ea_cons (ex_v rfl) ea_nil) ⟨n, rfl, hn60, rfl⟩) ea_nil))) ⟨n, p, rfl, hn60, h0, hb20, rfl⟩) gt_tup2 ?_)
    have sh := sh_far hpp hn52
    refine x_sq (x_set (a := .d (.str (frD (farT n p) (farL n p)).shown)) (ex_rep sh (ex_call (ds := [.int (farT n p), .int (farL n p)]) (ea_cons (ex_v rfl) (ea_cons (ex_v rfl) ea_nil)) ⟨_, _, rfl, farL_pos h0, rfl⟩)) ?_)
    have hRc : R_far [.int n, .int p] (frD (farT n p) (farL n p)) := ⟨n, p, rfl, hn60, h0, hb20, rfl⟩
    refine nxt (x_if (b := false) (et_is (et_or (et_test (ex_neS (ex_rep sh (ex_call (ds := [.int n, .int p]) (ea_cons (ex_v rfl) (ea_cons (ex_v rfl) ea_nil)) hRc)) (ex_v rfl))) (fun _ => et_test (ex_neS (ex_rep sh (ex_callK (bs := [.d (.int p), .d (.int n)]) ea_nil (ea_cons (ex_v rfl) (ea_cons (ex_v rfl) ea_nil)) (fun K F vs zs h1 h2 => kw_10 h1 h2) hRc)) (ex_v rfl))) (fun _ => rfl)) (by rw [ne_self]; rfl)) (fun h => nomatch h) fun _ => ?_)
    exact x_next (x_abs ⟨rfl, rfl⟩ ⟨.inr rfl, .inl rfl, .inl rfl, .inl rfl, .inl rfl, .inl rfl, .inl rfl, trivial⟩)
  · rintro ε' L' ⟨rfl, rfl⟩
    exact nxt (x_ret ex_cB fun v F σ H rp o => q v F H (hM ▸ rp.nx) (rp.bag List.mem_cons_self) o)
end K80

/-! ## A16 -/
set_option Elab.async false
set_option linter.all false
set_option maxRecDepth 100000
set_option maxHeartbeats 4000000
set_option autoImplicit false
namespace K80
open PySem L2 Fz
variable {P : Program} {w : World} {K : PySem.W.Frag} {mg : Str → Option Value} {base : Heap} {f : Addr} {fd : FuncData}
def dlM (b : Bag) : Int := if decide ((3 : Int) < drawV b 6) = true then 3 else 5
def dlF (b : Bag) : Int := if decide (drawV b 6 = 5) = true then (if (2 : Int) < 1 + drawV (drawB b 6) (dlM b) then 2 else 1 + drawV (drawB b 6) (dlM b)) else 1 + drawV (drawB b 6) (dlM b)
@[irreducible] def dlB (b : Bag) : Bag :=
  if drawV b 6 < 4 ∧ dlF b < 4 then (if drawV (drawB (drawB b 6) (dlM b)) 2 = 0 then drawB (drawB (drawB (drawB b 6) (dlM b)) 2) 3 else drawB (drawB (drawB b 6) (dlM b)) 2) else drawB (drawB b 6) (dlM b)
theorem dlB_eq (b : Bag) : dlB b = if drawV b 6 < 4 ∧ dlF b < 4 then (if drawV (drawB (drawB b 6) (dlM b)) 2 = 0 then drawB (drawB (drawB (drawB b 6) (dlM b)) 2) 3 else drawB (drawB (drawB b 6) (dlM b)) 2) else drawB (drawB b 6) (dlM b) := by unfold dlB; rfl
theorem sumT_snoc (t : Tab) (w l : Int) (fo : Int × List Int) : ∀ (r : List (Int × List Int)) (a : Int), sumT t w l (r ++ [fo]) a = sumT t w l r a + diffT t w l fo.2
  | [], a => rfl
  | x :: r, a => by
    show sumT t w l (r ++ [fo]) _ = _
    rw [sumT_snoc t w l fo r]; rfl
theorem ok_law_are_deals_right (Fn : Fun K "_law_are_deals_right" "_law_are_deals_right" s_law_are_deals_right f fd) (T : Bt P mg base) (C_law_draw : Df P w K mg base 41 "_law_draw" ["bag", "below"] (spB K R_draw)) (C_law_deals : Df P w K mg base 41 "_law_deals" ["counts", "n", "piles"] (spTab K R_deals))
    (C_law_times : Df P w K mg base 41 "_law_times" ["one", "many"] (spR K R_pow)) (C_law_orders : Df P w K mg base 41 "_law_orders" ["most"] (spR K R_orders)) (C_far_from_even : Df P w K mg base 43 "far_from_even" ["n", "piles"] (spR K R_far))
    (C_law_least : Df P w K mg base 42 "_law_least" ["top", "low"] (spR K R_frac)) (C_deal_chance : Df P w K mg base 44 "deal_chance" ["piles", "order"] (spR K R_chance)) :
    GOk P w K mg base 45 f fd ["bag"] (spB K (R_yes dlB)) := by
  refine g_bag Fn sc_law_are_deals_right (by decide) (fun b ds d b' ⟨h, _⟩ => by rw [h]; rfl) fun cdv A outer s H hr hG => ⟨_, (pss_cons (ps_set (i := 1) sc_law_are_deals_right.nd rfl (.inl rfl) (pe_callD C_law_draw (hr.mono (by decide)) (by rfl) (pa_cons (pv 0) (pa_cons pe_int pa_nil))))
      (pss_cons (ps_set (i := 2) sc_law_are_deals_right.nd rfl (.inl rfl) (pe_op op_add pe_int (pe_callD C_law_draw (hr.mono (by decide)) (by rfl) (pa_cons (pv 0) (pa_cons (pe_ifExp (pt_cmpR op_gt (pv 1) pe_int (nomark _)) pe_int pe_int) pa_nil)))))
      (pss_cons (ps_set (i := 2) sc_law_are_deals_right.nd rfl (.inl rfl) (pe_ifExp (pt_cmpR op_eq (pv 1) pe_int (nomark _)) (pe_callB (call_min2 rfl) (by rfl) T.n_min (by decide +kernel) (pa_cons (pv 2) (pa_cons pe_int pa_nil))) (pv 2)))
      (pss_cons (ps_par (i := 3) (j := 4) (by rfl) sc_law_are_deals_right.nd rfl rfl (by decide) rfl rfl (pa_cons (pe_callD C_law_deals (hr.mono (by decide)) (by rfl) (pa_cons (pe_dispT (hu_in hr) (pe_tupleOf (by rfl) T.n_tuple (pe_listRg rfl (by rfl) T.n_list (prg_1 (by rfl) T.n_range (pv 1)))) pe_int) (pa_cons (pv 1) (pa_cons (pv 2) pa_nil)))) (pa_cons (pv 2) pa_nil)) (by rfl))
      (Evl.pss_cut (ps_if (PW.pt (pw_and (pt_cmpR op_lt (pv 1) pe_int (nomark _)) (pw_and (pt_cmpR op_lt (pv 2) pe_int (nomark _)) (pw_and1 (pt_cmpR op_eq (pe_callD C_law_draw (hr.mono (by decide)) (by rfl) (pa_cons (pv 0) (pa_cons pe_int pa_nil))) pe_int (nomark _)))))) (pss_cons (ps_set (i := 10) sc_law_are_deals_right.nd rfl (.inl rfl) (pe_op op_add pe_int (pe_callD C_law_draw (hr.mono (by decide)) (by rfl) (pa_cons (pv 0) (pa_cons pe_int pa_nil)))))
      (pss_one (ps_par (i := 3) (j := 4) (by rfl) sc_law_are_deals_right.nd rfl rfl (by decide) rfl rfl (pa_cons (pe_callD C_law_deals (hr.mono (by decide)) (by rfl) (pa_cons (pv 3) (pa_cons (pv 1) (pa_cons (pv 10) pa_nil)))) (pa_cons (pe_op op_mulW (pv 2) (pv 10)) pa_nil)) (by rfl)))) pss_nil)
      (pss_cons (ps_par3 (i := 5) (j := 6) (l := 7) (by rfl) sc_law_are_deals_right.nd rfl rfl rfl (by decide) (by decide) (by decide) rfl rfl rfl (pa_cons (pe_callD C_law_times (hr.mono (by decide)) (by rfl) (pa_cons (pv 4) (pa_cons (pv 1) pa_nil))) (pa_cons pe_int (pa_cons (pe_ix (r := rIxL K) ix_list (pe_callD C_law_orders (hr.mono (by decide)) (by rfl) (pa_cons (pv 1) pa_nil)) (pv 1) (fun _ _ => rfl)) pa_nil))) (by rfl))
      (pss_cons (ps_for PassesOwn.never rfl (pi_list (pv 7)) (pg_tup rfl (pgs_cons (pg_name (i := 8) sc_law_are_deals_right.nd rfl (Or.inl rfl)) (pgs_cons (pg_name (i := 9) sc_law_are_deals_right.nd rfl (Or.inl rfl)) pgs_nil))) (pss_cons (ps_set (i := 11) sc_law_are_deals_right.nd rfl (.inl rfl) (pe_dget2 (hu_in hr) (pv 3) (pv 9) pe_int ⟨by rfl, by rfl, by rfl, by rfl⟩))
      (pss_cons (ps_if (pt_cmpR op_ne (pe_callB (r := rReprD K) (call_reprD hr hG) (by rfl) T.n_repr (by decide +kernel) (pa_cons (pe_callD C_deal_chance (hr.mono (by decide)) (by rfl) (pa_cons (pv 4) (pa_cons (pv 9) pa_nil))) pa_nil)) (pe_callB (r := rReprD K) (call_reprD hr hG) (by rfl) T.n_repr (by decide +kernel) (pa_cons (pe_callD C_law_least (hr.mono (by decide)) (by rfl) (pa_cons (pv 11) (pa_cons (pv 5) pa_nil))) pa_nil)) (nomark _)) (pss_one (ps_ret pe_bl)) pss_nil)
      (pss_one (ps_set (i := 6) sc_law_are_deals_right.nd rfl (.inl rfl) (pe_op op_add (pv 6) (pe_callB call_abs (by rfl) T.n_abs (by decide +kernel) (pa_cons (pe_op op_sub (pe_op op_mulW (pv 11) (pe_callB (r := Evl.rLenS K) call_len_seq (by rfl) T.n_len (by decide +kernel) (pa_cons (pv 7) pa_nil))) (pv 5)) pa_nil))))))))
      (pss_one (ps_ret (pe_cmpR op_eq (pe_callB (r := rReprD K) (call_reprD hr hG) (by rfl) T.n_repr (by decide +kernel) (pa_cons (pe_callD C_far_from_even (hr.mono (by decide)) (by rfl) (pa_cons (pv 1) (pa_cons (pv 4) pa_nil))) pa_nil)) (pe_callB (r := rReprD K) (call_reprD hr hG) (by rfl) T.n_repr (by decide +kernel) (pa_cons (pe_callD C_law_least (hr.mono (by decide)) (by rfl) (pa_cons (pv 6) (pa_cons (pe_op op_mulW (pe_op op_mulW pe_int (pv 5)) (pe_callB (r := Evl.rLenS K) call_len_seq (by rfl) T.n_len (by decide +kernel) (pa_cons (pv 7) pa_nil))) pa_nil))) pa_nil)) (nomark _))))))))))), ?_⟩
  rintro B Q pb pc b ds d b' rfl hM ⟨rfl, rfl, rfl⟩ q
  have hd0 := drawV_ok b (show (0 : Int) < 6 by decide)
  obtain ⟨n, hn⟩ : ∃ n : Nat, drawV b 6 = (n : Int) := ⟨(drawV b 6).toNat, by omega⟩
  have hn6 : n < 6 := by omega
  refine x_seq (x_set (a := .d (.int (n : Int))) (ex_int (ex_draw (k := 0) (ea_cons (ex_v rfl) (ea_cons ex_cI ea_nil)) rfl (by decide) (by decide)) hn) ?_)
  have hm0 : dlM b = if decide ((3 : Int) < (n : Int)) = true then 3 else 5 := by unfold dlM; rw [hn]
  have hF : dlF b = if decide ((n : Int) = 5) = true then (if (2 : Int) < 1 + drawV (drawB b 6) (dlM b) then 2 else 1 + drawV (drawB b 6) (dlM b)) else 1 + drawV (drawB b 6) (dlM b) := by unfold dlF; rw [hn]
  have hmr : 3 ≤ dlM b ∧ dlM b ≤ 5 ∧ (n = 4 ∨ n = 5 → dlM b = 3) := by
    rw [hm0]
    split
    · exact ⟨by decide, by decide, fun _ => rfl⟩
    · rename_i c
      have c2 : ¬ (3 : Int) < (n : Int) := fun z => c (decide_eq_true z)
      exact ⟨by decide, by decide, fun z => by omega⟩
  refine x_sq (x_set (a := .d (.int (1 + drawV (drawB b 6) (dlM b)))) (ex_add ex_cI (ex_draw (k := 0) (n := dlM b) (ea_cons (ex_v rfl) (ea_cons (ex_int (ex_ifI (et_test (ex_gt (ex_v rfl) ex_cI)) (fun _ => ex_cI) (fun _ => ex_cI)) hm0.symm) ea_nil)) rfl (by omega) (by omega))) ?_)
  have hv := drawV_ok (drawB b 6) (show 0 < dlM b by omega)
  have hB := dlB_eq b
  rw [hn] at hB
  obtain ⟨m, hm, hm1, hm5, hmF⟩ : ∃ m : Nat, dlF b = (m : Int) ∧ 1 ≤ m ∧ m < 6 ∧ m ≤ maxF n := by
    have hr : 1 ≤ dlF b ∧ dlF b ≤ 5 ∧ (n = 5 → dlF b ≤ 2) ∧ (n = 4 → dlF b ≤ 3) := by
      rw [hF]
      split
      · split <;> omega
      · rename_i c
        have c2 : ¬ (n : Int) = 5 := fun z => c (decide_eq_true z)
        omega
    refine ⟨(dlF b).toNat, by omega, by omega, by omega, ?_⟩
    unfold maxF
    split
    · omega
    · split <;> omega
  generalize drawB (drawB b 6) (dlM b) = b2 at *
  refine x_sq (x_set (a := .d (.int (m : Int))) (ex_int (ex_ifI (et_test (ex_eqI (ex_v rfl) ex_cI)) (fun _ => ex_min2 (ex_v rfl) ex_cI) (fun _ => ex_v rfl)) (hF.symm.trans hm)) ?_)
  have ok1 := first_ok n hn6 m hm5 hm1 hmF
  rw [Bool.and_eq_true] at ok1
  refine x_sq (x_parR (exr_callD (t := [(natsL n, 1)]) (u := fstT n m) (exr_disp (k := natsL n) (z := 1) (fun p => ex_is (ex_tupL (ds := (natsL n).map PyData.int) (ex_frz (en_is (en_listRg1 (ex_v rfl) (by omega)) (nats_rg n))) .d) rfl) (fun p => ex_cI)) (fun p => ea_cons (ex_v rfl) (ea_cons (ex_v rfl) ea_nil)) ⟨m, rfl, hm1, by omega, okB_T ok1.1, rfl⟩) (fun p => ex_v rfl) fun p1 hp1 => ?_)
  refine nxt (x_cut (M := fun ε L => ∃ (p2 : Addr) (p : Int) (t : Tab), 1 ≤ p ∧ p ≤ 1000000 ∧ ResT n p t ∧ ε = [some (.v (.ref pb)), iv n, none, some (.v (.ref p2)), iv p, none, none, none, none, none, none, none] ∧ L = [.raw p2 (.dT (tabV t)), (dlB b).at pb pc]) ?_ ?_)
  · have stay : ∀ b' : Bag, dlB b = b' → Ho B (AbsP B fun ε L => ∃ (p2 : Addr) (p : Int) (t : Tab), 1 ≤ p ∧ p ≤ 1000000 ∧ ResT n p t ∧ ε = [some (.v (.ref pb)), iv n, none, some (.v (.ref p2)), iv p, none, none, none, none, none, none, none] ∧ L = [.raw p2 (.dT (tabV t)), (dlB b).at pb pc]) [some (.v (.ref pb)), iv n, iv m, some (.v (.ref p1)), iv m, none, none, none, none, none, none, none] [.raw p1 (.dT (tabV (fstT n m))), b'.at pb pc] := fun b' hb => by
      rw [hb]
      exact x_abs ⟨p1, m, fstT n m, by omega, by omega, resOk_T ok1.2, rfl, rfl⟩ ⟨.inr rfl, .inr rfl, .inl rfl, .inr rfl, .inr rfl, .inr rfl, .inr rfl, .inr rfl, .inr rfl, .inr rfl, .inr rfl, .inr rfl, trivial⟩
    by_cases c : n < 4 ∧ m < 4
    · have hB2 := hB
      rw [if_pos (by omega)] at hB2
      refine x_if (b := decide (drawV b2 2 = 0)) (L1 := [.raw p1 (.dT (tabV (fstT n m))), (drawB b2 2).at pb pc]) (et_is (et_and (b := true) (et_is (et_test (ex_lt (ex_v rfl) ex_cI)) (decide_eq_true (by omega))) (fun _ => et_and (b := true) (et_is (et_test (ex_lt (ex_v rfl) ex_cI)) (decide_eq_true (by omega))) (fun _ => et_test (ex_eqI (ex_draw (k := 1) (ea_cons (ex_v rfl) (ea_cons ex_cI ea_nil)) rfl (by decide) (by decide)) ex_cI)) (fun h => nomatch h)) (fun h => nomatch h)) rfl) (fun hd => ?_) fun hd => ?_
      · rw [if_pos (of_decide_eq_true hd)] at hB2
        have hv2 := drawV_ok (drawB b2 2) (show (0 : Int) < 3 by decide)
        obtain ⟨k, hk⟩ : ∃ k : Nat, 1 + drawV (drawB b2 2) 3 = (k : Int) := ⟨(1 + drawV (drawB b2 2) 3).toNat, by omega⟩
        have ok2 := second_ok n c.1 m c.2 hm1 k (by omega) (by omega)
        rw [Bool.and_eq_true] at ok2
        refine x_seq (x_set (a := .d (.int (k : Int))) (ex_int (ex_add ex_cI (ex_draw (k := 1) (ea_cons (ex_v rfl) (ea_cons ex_cI ea_nil)) rfl (by decide) (by decide))) hk) ?_)
        refine nxt (x_parR (exr_call (kk := 0) (t := fstT n m) (u := dealT (fstT n m) k) (ea_cons (ex_v rfl) (ea_cons (ex_v rfl) (ea_cons (ex_v rfl) ea_nil))) rfl ⟨k, rfl, by omega, by omega, okB_T ok2.1, rfl⟩) (fun p => ex_mul (ex_v rfl) (ex_v rfl) (cmul (Bd.of (k := 4) (n := 8) (by omega) (by omega) (by decide)) (Bd.of (k := 4) (n := 8) (by omega) (by omega) (by decide)) (by decide))) fun p2 hp2 => ?_)
        refine ho_drop (k := 1) ?_ rfl (fun x hx => by rw [List.mem_singleton.mp hx]; exact hp1)
        rw [hB2]
        have hpk : (m : Int) * (k : Int) ≤ 3 * 3 := Int.mul_le_mul (by omega) (by omega) (by omega) (by decide)
        have hpk1 : 0 < (m : Int) * (k : Int) := Int.mul_pos (by omega) (by omega)
        exact x_abs ⟨p2, (m : Int) * k, dealT (fstT n m) k, by omega, by omega, resOk_T ok2.2, rfl, rfl⟩ ⟨.inr rfl, .inr rfl, .inl rfl, .inr rfl, .inr rfl, .inr rfl, .inr rfl, .inr rfl, .inr rfl, .inr rfl, .inl rfl, .inr rfl, trivial⟩
      · rw [if_neg (of_decide_eq_false hd)] at hB2
        exact x_next (stay _ hB2)
    · have hB2 := hB
      rw [if_neg (by omega)] at hB2
      by_cases c4 : n < 4
      · refine x_if (b := false) (L1 := [.raw p1 (.dT (tabV (fstT n m))), b2.at pb pc]) (et_is (et_and (b := true) (c := false) (et_is (et_test (ex_lt (ex_v rfl) ex_cI)) (decide_eq_true (by omega))) (fun _ => et_is (et_and (b := false) (c := false) (L2 := [.raw p1 (.dT (tabV (fstT n m))), b2.at pb pc]) (et_is (et_test (ex_lt (ex_v rfl) ex_cI)) (decide_eq_false (by omega))) (fun h => nomatch h) (fun _ => rfl)) rfl) (fun h => nomatch h)) rfl) (fun h => nomatch h) fun _ => x_next (stay _ hB2)
      · refine x_if (b := false) (L1 := [.raw p1 (.dT (tabV (fstT n m))), b2.at pb pc]) (et_is (et_and (b := false) (c := false) (L2 := [.raw p1 (.dT (tabV (fstT n m))), b2.at pb pc]) (et_is (et_test (ex_lt (ex_v rfl) ex_cI)) (decide_eq_false (by omega))) (fun h => nomatch h) (fun _ => rfl)) rfl) (fun h => nomatch h) fun _ => x_next (stay _ hB2)
  · rintro ε' L' ⟨p2, p, t, hp1, hp2, R, rfl, rfl⟩
    have hpp : 1 ≤ p ∧ p ≤ 1000000 := ⟨hp1, hp2⟩
    have hb20 := bd20' hpp
    have h0 : 0 < p := by omega
    refine x_seq (x_par3 (c := .d (.list ((ordersM n).map pairD))) (ea_cons (ex_call (ds := [.int p, .int n]) (ea_cons (ex_v rfl) (ea_cons (ex_v rfl) ea_nil)) ⟨p, n, 410, rfl, hb20, by omega, by omega, rfl⟩) (ea_cons ex_cI (ea_cons (ex_ixL (ds := (List.range (n + 1)).map fun k => .list ((ordersM k).map pairD)) (ex_call (ds := [.int n]) (ea_cons (ex_v rfl) ea_nil) ⟨n, by omega, rfl, rfl⟩) (ex_v rfl) .d (atI_nat (by rw [List.getElem?_map, List.getElem?_range (by omega)]; rfl))) ea_nil))) ?_)
    have hlen : (((ordersM n).map pairD).length : Int) = ((ordersM n).length : Int) := by rw [List.length_map]
    have hcnt := ordersM_count n (by omega)
    refine x_sq (x_forL (ds := (ordersM n).map pairD) (ex_v rfl) (fun v j ε L => ε = [some (.v (.ref pb)), iv n, none, some (.v (.ref p2)), iv p, iv (p ^ n), iv (sumT t (p ^ n) (ordersM n).length ((ordersM n).take j) 0), some (.d (.list ((ordersM n).map pairD))), none, none, none, none] ∧ L = [.raw p2 (.dT (tabV t)), (dlB b).at pb pc, .know v (.list ((ordersM n).map pairD))]) (fun v => ⟨rfl, rfl⟩) (fun v j ε' L' ⟨_, h⟩ => by rw [h]; simp) ?_ ?_)
    · rintro v j d ε' L' hd ⟨rfl, rfl⟩
      rw [List.getElem?_map] at hd
      cases hfo : (ordersM n)[j]? with
      | none => rw [hfo] at hd; cases hd
      | some fo =>
      rw [hfo] at hd
      cases hd
      have hmem := List.mem_of_getElem? hfo
      have hol := ordersM_len n fo hmem
      have hnum := R.num fo hmem
      have hfl := fallsN_le fo.2
      refine ⟨_, gt_tup2 (d := .int fo.1) (e := tupD fo.2), ?_⟩
      refine x_seq (x_set (a := .d (.int (numT t fo.2))) (ex_dget2 (kk := 0) (t := t) (k := fo.2) (ex_v rfl) (ex_v rfl) ex_cI ⟨0, _, rfl⟩ rfl) ?_)
      have sh : Sh (frD (numT t fo.2) (p ^ n)) := by rw [← hnum]; exact sh_chance hpp (by omega) (by omega)
      have hbn : Bd 1041 (numT t fo.2) := by rw [← hnum]; exact dealt20 hpp (by omega) (by omega)
      refine x_sq (x_if (b := false) (et_is (et_test (ex_neS (ex_rep sh (ex_call (ds := [.int p, ti fo.2]) (ea_cons (ex_v rfl) (ea_cons (ex_v rfl) ea_nil)) ⟨p, fo.2, rfl, h0, hb20, by omega, by rw [hol, hnum]⟩)) (ex_rep sh (ex_call (ds := [.int (numT t fo.2), .int (p ^ n)]) (ea_cons (ex_v rfl) (ea_cons (ex_v rfl) ea_nil)) ⟨_, _, rfl, Int.pow_pos h0, rfl⟩)))) (ne_self _)) (fun h => nomatch h) fun _ => ?_)
      refine x_next (nxt (x_set (a := .d (.int (sumT t (p ^ n) (ordersM n).length ((ordersM n).take (j + 1)) 0))) (ex_int (ex_add (ex_v rfl) (ex_abs (ex_sub (ex_mul (ex_v rfl) (ex_int (ex_lenL (ds := (ordersM n).map pairD) (ex_v rfl) .d rfl) hlen) (cmul hbn (Bd.of (k := 8) (n := 200) (by omega) (by omega) (by decide)) (by decide))) (ex_v rfl)))) ?_) ?_))
      · rw [List.take_add_one, hfo, abs_if]
        exact (sumT_snoc t (p ^ n) (ordersM n).length fo ((ordersM n).take j) 0).symm
      · exact x_abs ⟨rfl, rfl⟩ ⟨.inr rfl, .inr rfl, .inr rfl, .inr rfl, .inr rfl, .inr rfl, .inr rfl, .inr rfl, .inl rfl, .inl rfl, .inr rfl, .inl rfl, trivial⟩
    · rintro v ε' L' ⟨rfl, rfl⟩
      have hT : sumT t (p ^ n) (ordersM n).length ((ordersM n).take ((ordersM n).map pairD).length) 0 = farT n p := by rw [List.length_map, List.take_length]; exact R.sum
      rw [hT]
      have hLl : 2 * p ^ n * ((ordersM n).length : Int) = farL n p := by unfold farL; rw [R.len]
      have sh := sh_far hpp (n := n) (by omega)
      have b2' : Bd 2 (2 : Int) := Bd.of (n := 3) (by decide) (by decide) (by decide)
      have hpw := pow20' hpp (n := n) (by omega)
      refine nxt (x_ret (d := .bool true) (ex_boolE (ex_eqS (ex_rep sh (ex_call (ds := [.int n, .int p]) (ea_cons (ex_v rfl) (ea_cons (ex_v rfl) ea_nil)) ⟨n, p, rfl, by omega, h0, hb20, rfl⟩)) (ex_rep sh (ex_call (ds := [.int (farT n p), .int (farL n p)]) (ea_cons (ex_v rfl) (ea_cons (ex_int (ex_mul (ex_mul ex_cI (ex_v rfl) (cmul b2' hpw (by decide))) (ex_int (ex_lenL (ds := (ordersM n).map pairD) (ex_v rfl) .d rfl) hlen) (cmul (b2'.mul hpw) (Bd.of (k := 8) (n := 200) (by omega) (by omega) (by decide)) (by decide))) hLl) ea_nil)) ⟨_, _, rfl, farL_pos h0, rfl⟩))) (decide_eq_true rfl)) fun v F σ H rp o => q v F H (hM ▸ rp.nx) (rp.bag (List.mem_cons_of_mem _ List.mem_cons_self)) o)
end K80

/-! ## A17 -/
set_option Elab.async false
set_option linter.all false
set_option maxRecDepth 100000
set_option maxHeartbeats 4000000
set_option autoImplicit false
namespace Fz
open PySem L2
/-- a def that takes the bag and says True -/
def spN (K : PySem.W.Frag) : Sp := fun vs H Q _ => ∃ (F : Hp) (pb pc : Addr) (b : Bag), vs = [.ref pb] ∧ Sub F H ∧ F pb = none ∧ F pc = none ∧ pb ≠ pc ∧ BagAt H pb pc b.cells b.cur b.mix ∧ ∀ F' H', NxM [pb, pc] F H F' H' → Q (.bl true) H'
section
variable {P : Program} {w : World} {K : PySem.W.Frag} {mg : Str → Option Value} {base : Heap}
theorem g_bagN {x qual : Str} {st : Stmt} {f : Addr} {fd : FuncData} {N ps : List Str} {k : Nat} (Fn : Fun K x qual st f fd) (S : FnScope N ps (defScope st)) (hN : 1 ≤ N.length) (hps : ps.length = 1)
    (hbody : ∀ (cdv : Value) (A : Around) (outer : List Env) (s : Shared) (H : Hp), Room k (A.deeper (PyProof.Rows.envOfC qual (defScope st) s.heap.objs.size f cdv)) → (A.deeper (PyProof.Rows.envOfC qual (defScope st) s.heap.objs.size f cdv)).guards = some [] →
      ∃ t, PSs (cxOf CX0 P w K mg base N qual (defScope st) f cdv A outer s H E0).nox (defBody st) t ∧
        ∀ (B : Bg) (Q : VK) (pb pc : Addr) (b : Bag), B.K = K → B.M = [pb, pc] → (∀ F' H', NxM [pb, pc] B.F0 B.H0 F' H' → Q (.bl true) H') →
          Ho B (t { nx := fun _ H' => Q .non H', rt := Q }) (some (.v (.ref pb)) :: argE [] (N.length - 1)) [b.at pb pc]) :
    GOk P w K mg base (k + 1) f fd ps (spN K) := by
  refine g_ok Fn S (fun vs H Q E h => ?_) fun cdv A outer s H vs Q hr hG h => ?_
  · obtain ⟨F, pb, pc, b, rfl, _⟩ := h
    rw [hps]; rfl
  · obtain ⟨t, ht, hb⟩ := hbody cdv A outer s H hr hG
    obtain ⟨F, pb, pc, b, rfl, hs, f1, f2, ne, bg, q⟩ := h
    exact ⟨t, ht, hb ⟨K, F, H, [pb, pc]⟩ Q pb pc b rfl rfl q F _ H (rep_startB hs f1 f2 ne bg .nil hN)⟩
end
section
variable {B : Bg} {ε : Eps} {L La Lb : Own} {ta tb : TE} {tas : TA} {D : Ends}
theorem NxM.tr {M : List Addr} {F H F1 H1 F2 H2 : Hp} (x : NxM M F H F1 H1) (y : NxM M F1 H1 F2 H2) (hM : ∀ p ∈ M, H1 p ≠ none ∧ ∀ xs, H1 p ≠ some (.tup xs)) : NxM M F H F2 H2 := by
  obtain ⟨a1, a2, a3, a4⟩ := x
  obtain ⟨b1, b2, b3, b4⟩ := y
  refine ⟨a1.tr b1, fun a o h e => b2 a o h (a2 a o h e), b3, fun a h1 h2 => ?_⟩
  refine (a4 a h1 h2).elim (fun hn => ?_) .inr
  by_cases hm : a ∈ M
  · exact .inl ((b4 a hn (hM a hm).1).resolve_right fun ⟨xs, e⟩ => (hM a hm).2 xs e)
  · cases e : H a with
    | none => exact absurd e h2
    | some o =>
      have e1 := a2 a o hm e
      refine (b4 a hn (by rw [e1]; exact fun z => nomatch z)).elim .inl fun ⟨xs, q⟩ => .inr ⟨xs, ?_⟩
      rw [e1] at q; exact q
/-- the bag is handed to a def that says True, from which nothing comes back -/
theorem tail_call {E : XK} {k : Nat} {pb pc : Addr} {b : Bag} {F : Hp} {σ : St} {H : Hp} (r : Rep B ε L F σ H) (hk : L[k]? = some (b.at pb pc)) {Q : VK} (q : ∀ F' H', NxM [pb, pc] F H F' H' → Q (.bl true) H') : spN B.K [.ref pb] H Q E := by
  have hm := List.mem_of_getElem? hk
  have nd : pb ≠ pc := fun e => by
    have x : ([pb, pc] : List Addr).Nodup := by
      have sl : ([pb, pc] : List Addr).Sublist (fps L) := by
        obtain ⟨l1, l2, e2⟩ := List.append_of_mem hm
        rw [e2]
        unfold fps
        rw [List.flatMap_append, List.flatMap_cons]
        exact (List.sublist_append_left _ _).trans (List.sublist_append_right _ _)
      exact r.nd.sublist sl
    subst e
    simp at x
  exact ⟨F, pb, pc, b, rfl, r.sub, (r.off pb (mem_fps hm List.mem_cons_self)).1, (r.off pc (mem_fps hm (List.mem_cons_of_mem _ List.mem_cons_self))).1, nd, r.own _ hm, q⟩
theorem x_retN {E : XK} {k : Nat} {pb pc : Addr} {b : Bag} (h : EX B ta ε L (.d (.bool true)) La) (h2 : EX B tb ε La (.v (.ref pb)) Lb) (hk : Lb[k]? = some (b.at pb pc)) (q : ∀ F σ H F' H', Rep B ε Lb F σ H → NxM [pb, pc] F H F' H' → D.rt (.bl true) H') :
    Ho B (tRet (tAndV ta (tCall (spN B.K) [] E (tCons tb tNil))) D) ε L := fun F σ H r => h F σ H r _ fun v F1 H1 s1 r1 o1 => ⟨true, bool_inv o1, h2 F1 σ H1 r1 _ fun w F2 H2 s2 r2 o2 => by
  have ew : w = .ref pb := o2
  subst ew
  exact tail_call (E := E) r2 hk fun F' H' n => q F2 σ H2 F' H' r2 n⟩
end
end Fz
namespace K80
open PySem L2 Fz
variable {P : Program} {w : World} {K : PySem.W.Frag} {mg : Str → Option Value} {base : Heap} {f : Addr} {fd : FuncData}
section
variable {B : Bg} {ε : Eps} {L La Lb : Own} {tas : TA} {E : XK}
theorem ex_pickI {l : List Int} {k : Nat} {pb pc : Addr} {b : Bag} (h : EA B tas ε L [.v (.ref pb), .d (li l)] La) (hk : La[k]? = some (b.at pb pc)) (hne : l ≠ []) (hl : l.length ≤ 1000) : EX B (tCall (spB B.K R_pick) [] E tas) ε L (.d (.int (pickI b l))) (La.set k ((drawB b l.length).at pb pc)) := by
  have hpos := List.length_pos_iff.mpr hne
  have hv := drawV_ok b (show (0 : Int) < (l.length : Int) by omega)
  have e1 : (l.map PyData.int).length = l.length := List.length_map ..
  have key : (drawB b (l.map PyData.int).length) = drawB b l.length := by rw [e1]
  have := ex_callB (R := R_pick) (E := E) (k := k) (ds := [li l]) (d := (l.map PyData.int).getD (drawV b (l.map PyData.int).length).toNat .none) (b := b) (b' := drawB b (l.map PyData.int).length) h hk ⟨l.map PyData.int, by simpa using hne, by omega, rfl, rfl, rfl⟩
  rw [key, e1, getD_map_int (by omega)] at this
  exact this
/-- a pair of ints -/
def Fr (d : PyData) : Prop := ∃ x y : Int, d = .tuple [.int x, .int y] ∧ Bd 100000 x ∧ Bd 100000 y
theorem pick_fr {xs : List PyData} (h : ∀ e ∈ xs, Fr e) (hne : xs ≠ []) (b : Bag) : Fr (xs.getD (drawV b xs.length).toNat .none) := by
  have hpos := List.length_pos_iff.mpr hne
  have hv := drawV_ok b (show (0 : Int) < (xs.length : Int) by omega)
  rw [List.getD_eq_getElem?_getD, List.getElem?_eq_getElem (show (drawV b xs.length).toNat < xs.length by omega)]
  exact h _ (List.getElem_mem _)
theorem fr_frD {t b : Int} (h1 : Bd 100000 t) (h2 : Bd 100000 b) : Fr (frD t b) := ⟨_, _, rfl, h1.div, h2.div⟩
end
theorem pick_in {b : Bag} {l : List Int} {lo hi : Int} (hne : l ≠ []) (h : ∀ x ∈ l, lo ≤ x ∧ x ≤ hi) : lo ≤ pickI b l ∧ pickI b l ≤ hi := h _ (pickI_mem hne)
theorem bd_small {x : Int} (h : -1000 ≤ x ∧ x ≤ 1000) : Bd 100000 x := (Bd.of (k := 10) (n := 1001) (by omega) (by omega) (by decide)).mono (by decide)
theorem et_yesN {B : Bg} {ε : Eps} {L La : Own} {te : TE} (h : EX B te ε L (.d (.bool true)) La) : ETt B (tNot (tTest te)) ε L false La := et_not (et_test h)
theorem ok_law_are_ends_right (Fn : Fun K "_law_are_ends_right" "_law_are_ends_right" s_law_are_ends_right f fd) (T : Bt P mg base) (C_law_pick : Df P w K mg base 42 "_law_pick" ["bag", "some"] (spB K R_pick)) (C_law_is_fewest : GDf P w K mg base 45 "_law_is_fewest" ["bag", "n", "piles", "share"] (spB K R_isf))
    (C_law_draw : Df P w K mg base 41 "_law_draw" ["bag", "below"] (spB K R_draw)) (C_law_piles : Df P w K mg base 43 "_law_piles" ["bag", "near"] (spB K R_piles)) (C_law_least : Df P w K mg base 42 "_law_least" ["top", "low"] (spR K R_frac)) : GOk P w K mg base 46 f fd ["bag"] (spN K) := by
  refine g_bagN Fn sc_law_are_ends_right (by decide) rfl fun cdv A outer s H hr hG => ⟨_, (pss_cons (ps_if (pt_not (pt_val (pe_callG hG C_law_is_fewest (hr.mono (by decide)) (by rfl) (pa_cons (pv 0) (pa_cons (pe_callD C_law_draw (hr.mono (by decide)) (by rfl) (pa_cons (pv 0) (pa_cons pe_int pa_nil))) (pa_cons (pe_callD C_law_piles (hr.mono (by decide)) (by rfl) (pa_cons (pv 0) (pa_cons pe_int pa_nil))) (pa_cons (pe_tup (pa_cons pe_int (pa_cons pe_int pa_nil))) pa_nil))))))) (pss_one (ps_ret pe_bl)) pss_nil)
      (pss_cons (ps_set (i := 1) sc_law_are_ends_right.nd rfl (.inl rfl) (pe_op op_add pe_int (pe_callD C_law_draw (hr.mono (by decide)) (by rfl) (pa_cons (pv 0) (pa_cons pe_int pa_nil)))))
      (pss_cons (ps_set (i := 2) sc_law_are_ends_right.nd rfl (.inl rfl) pe_int)
      (pss_cons (ps_for PassesOwn.never rfl (pi_range1 (by rfl) T.n_range (pa_cons (pv 1) pa_nil)) (pg_name (i := 3) sc_law_are_ends_right.nd rfl (Or.inl rfl)) (pss_one (ps_set (i := 2) sc_law_are_ends_right.nd rfl (.inl rfl) (pe_op op_mulW (pv 2) (pe_op op_add (pv 3) pe_int)))))
      (pss_cons (ps_set (i := 4) sc_law_are_ends_right.nd rfl (.inl rfl) (pe_callD C_law_pick (hr.mono (by decide)) (by rfl) (pa_cons (pv 0) (pa_cons (pe_lst (pa_cons (pe_tup (pa_cons (pe_op op_sub (pv 2) pe_int) (pa_cons (pv 2) pa_nil))) (pa_cons (pe_callD C_law_least (hr.mono (by decide)) (by rfl) (pa_cons (pe_op op_sub (pe_op op_mulW (pv 2) pe_int) pe_int) (pa_cons (pe_op op_mulW (pv 2) pe_int) pa_nil))) pa_nil))) pa_nil))))
      (pss_cons (ps_if (pt_not (pt_val (pe_callG hG C_law_is_fewest (hr.mono (by decide)) (by rfl) (pa_cons (pv 0) (pa_cons (pv 1) (pa_cons (pe_callD C_law_pick (hr.mono (by decide)) (by rfl) (pa_cons (pv 0) (pa_cons (pe_lst (pa_cons pe_int (pa_cons pe_int (pa_cons pe_int pa_nil)))) pa_nil))) (pa_cons (pv 4) pa_nil))))))) (pss_one (ps_ret pe_bl)) pss_nil)
      (pss_one (ps_ret (pe_or (pe_cmpR op_gt (pe_callD C_law_draw (hr.mono (by decide)) (by rfl) (pa_cons (pv 0) (pa_cons pe_int pa_nil))) pe_int (nomark _)) (pe_one (pe_callG hG C_law_is_fewest (hr.mono (by decide)) (by rfl) (pa_cons (pv 0) (pa_cons pe_int (pa_cons (pe_op op_sub (pe_op op_pow pe_int pe_int) (pe_callD C_law_draw (hr.mono (by decide)) (by rfl) (pa_cons (pv 0) (pa_cons pe_int pa_nil)))) (pa_cons (pe_tup (pa_cons pe_int (pa_cons pe_int pa_nil))) pa_nil))))))))))))))), ?_⟩
  rintro B Q pb pc b rfl hM q
  have h01 : R_isf = R_isf := rfl
  have hd0 := drawV_ok b (show (0 : Int) < 2 by decide)
  obtain ⟨n0, hn0⟩ : ∃ n : Nat, drawV b 2 = (n : Int) := ⟨(drawV b 2).toNat, by omega⟩
  have hpp := pilesP_ok (drawB b 2) (near := 3) (by decide)
  refine x_seq (x_if (b := false) (L1 := [(drawB (pilesP (drawB b 2) 3).2 2).at pb pc]) (et_yesN (ex_callB (k := 0) (ds := [.int n0, .int (pilesP (drawB b 2) 3).1, .tuple [.int 0, .int 1]]) (b := (pilesP (drawB b 2) 3).2) (ea_cons (ex_v rfl) (ea_cons (ex_int (ex_draw (k := 0) (ea_cons (ex_v rfl) (ea_cons ex_cI ea_nil)) rfl (by decide) (by decide)) hn0) (ea_cons (ex_callB (k := 0) (ds := [.int 3]) (b := drawB b 2) (d := .int (pilesP (drawB b 2) 3).1) (b' := (pilesP (drawB b 2) 3).2) (ea_cons (ex_v rfl) (ea_cons ex_cI ea_nil)) rfl ⟨3, by decide, rfl, rfl, rfl⟩) (ea_cons (ex_tup (ds := [.int 0, .int 1]) (ea_cons ex_cI (ea_cons ex_cI ea_nil)) (Nat.le_of_ble_eq_true rfl)) ea_nil)))) rfl ⟨n0, _, 0, 1, rfl, by omega, by omega, bd20 hpp, bd_zero _, bd_one _, rfl, rfl⟩)) (fun h => nomatch h) fun _ => ?_)
  generalize drawB (pilesP (drawB b 2) 3).2 2 = b1
  have hd1 := drawV_ok b1 (show (0 : Int) < 26 by decide)
  obtain ⟨n, hn⟩ : ∃ n : Nat, 2 + drawV b1 26 = (n : Int) := ⟨(2 + drawV b1 26).toNat, by omega⟩
  refine x_next (nxt (x_set (a := .d (.int n)) (ex_int (ex_add ex_cI (ex_draw (k := 0) (b := b1) (ea_cons (ex_v rfl) (ea_cons ex_cI ea_nil)) rfl (by decide) (by decide))) hn) ?_))
  have hn27 : n ≤ 27 := by omega
  generalize drawB b1 26 = b2
  refine x_sq (x_set ex_cI ?_)
  refine x_sq (x_forR1 (n := n) (ea_cons (ex_v rfl) ea_nil) (by omega) (fun i ε L => ε = [some (.v (.ref pb)), iv n, iv (fac i : Int), none, none] ∧ L = [b2.at pb pc]) ⟨rfl, rfl⟩ ?_ ?_)
  · rintro i ε' L' hi ⟨rfl, rfl⟩
    refine x_set (a := .d (.int (fac (i + 1) : Nat))) (ex_int (ex_mul (ex_v rfl) (ex_add (ex_v rfl) ex_cI) (cmul (fac_bd' (by omega)) (Bd.of (k := 7) (n := 128) (by omega) (by omega) (by decide)) (by decide))) (by rw [fac_succ, Int.natCast_mul]; rfl)) ?_
    exact x_abs ⟨rfl, rfl⟩ ⟨.inr rfl, .inr rfl, .inr rfl, .inl rfl, .inr rfl, trivial⟩
  · rintro ε' L' ⟨rfl, rfl⟩
    rw [Int.toNat_natCast]
    have hfp : (0 : Int) < (fac n : Int) := by have := fac_pos n; omega
    have hfb : Bd 400 (fac n : Int) := fac_bd' (by omega)
    have b2' : Bd 2 (2 : Int) := Bd.of (n := 3) (by decide) (by decide) (by decide)
    have b3' : Bd 2 (3 : Int) := Bd.of (n := 4) (by decide) (by decide) (by decide)
    have f1 : Bd 500 ((fac n : Int) * 2 - 3) := (((hfb.mul b2').sub (b3'.mono (by decide)))).mono (by decide)
    have f2 : Bd 500 ((fac n : Int) * 2) := (hfb.mul b2').mono (by decide)
    obtain ⟨x, y, hxy, bx, hby⟩ := pick_fr (xs := [.tuple [.int ((fac n : Int) - 1), .int (fac n : Int)], frD ((fac n : Int) * 2 - 3) ((fac n : Int) * 2)]) (fun e he => by
      simp only [List.mem_cons, List.not_mem_nil, or_false] at he
      rcases he with e1 | e1
      · rw [e1]; exact ⟨_, _, rfl, (hfb.sub (bd_one 399)).mono (by decide), hfb.mono (by decide)⟩
      · rw [e1]; exact fr_frD (f1.mono (by decide)) (f2.mono (by decide))) (List.cons_ne_nil _ _) b2
    refine x_seq (x_set (a := .d (.tuple [.int x, .int y])) (ex_is (ex_callB (k := 0) (ds := [.list [.tuple [.int ((fac n : Int) - 1), .int (fac n : Int)], frD ((fac n : Int) * 2 - 3) ((fac n : Int) * 2)]]) (b := b2) (b' := drawB b2 2) (ea_cons (ex_v rfl) (ea_cons (ex_frz (en_lst (ds := [.tuple [.int ((fac n : Int) - 1), .int (fac n : Int)], frD ((fac n : Int) * 2 - 3) ((fac n : Int) * 2)]) (ea_cons (ex_tup (ds := [.int ((fac n : Int) - 1), .int (fac n : Int)]) (ea_cons (ex_sub (ex_v rfl) ex_cI) (ea_cons (ex_v rfl) ea_nil)) (Nat.le_of_ble_eq_true rfl))
      (ea_cons (ex_call (ds := [.int ((fac n : Int) * 2 - 3), .int ((fac n : Int) * 2)]) (ea_cons (ex_sub (ex_mul (ex_v rfl) ex_cI (cmul hfb b2' (by decide))) ex_cI) (ea_cons (ex_mul (ex_v rfl) ex_cI (cmul hfb b2' (by decide))) ea_nil)) ⟨_, _, rfl, by omega, rfl⟩) ea_nil)) (Nat.le_of_ble_eq_true rfl))) ea_nil)) rfl ⟨_, List.cons_ne_nil _ _, (by show 2 ≤ 100000; decide), rfl, rfl, rfl⟩) (by rw [← hxy])) ?_)
    generalize drawB b2 2 = b3
    have hp3 := pick_in (b := b3) (l := [1, 2, 52]) (lo := 1) (hi := 1000000) (by decide) (by decide)
    refine x_sq (x_if (b := false) (L1 := [(drawB (drawB b3 3) 2).at pb pc]) (et_yesN (ex_callB (k := 0) (ds := [.int n, .int (pickI b3 [1, 2, 52]), .tuple [.int x, .int y]]) (b := drawB b3 3) (ea_cons (ex_v rfl) (ea_cons (ex_v rfl) (ea_cons (ex_pickI (k := 0) (b := b3) (l := [1, 2, 52]) (ea_cons (ex_v rfl) (ea_cons (ex_frz (en_lst (ds := [.int 1, .int 2, .int 52]) (ea_cons ex_cI (ea_cons ex_cI (ea_cons ex_cI ea_nil))) (Nat.le_of_ble_eq_true rfl))) ea_nil)) rfl (List.cons_ne_nil _ _) (by decide)) (ea_cons (ex_v rfl) ea_nil)))) rfl ⟨n, _, x, y, rfl, by omega, by omega, bd20 hp3, bx, hby, rfl, rfl⟩)) (fun h => nomatch h) fun _ => ?_)
    generalize drawB (drawB b3 3) 2 = b4
    by_cases c : 0 < drawV b4 16
    · refine x_next (nxt (x_ret (d := .bool true) (L1 := [(drawB b4 16).at pb pc]) (ex_is (ex_orV (b := true) (c := true) (ex_boolE (ex_gt (ex_draw (k := 0) (b := b4) (ea_cons (ex_v rfl) (ea_cons ex_cI ea_nil)) rfl (by decide) (by decide)) ex_cI) (decide_eq_true c)) (fun h => nomatch h) (fun _ => rfl)) rfl) fun v F σ H rp o => ?_))
      cases o
      exact q F H (hM ▸ rp.nx)
    · have hd4 := drawV_ok b4 (show (0 : Int) < 16 by decide)
      have hd5 := drawV_ok (drawB b4 16) (show (0 : Int) < 9 by decide)
      have e6 : (10 : Int) ^ (6 : Int).toNat = 1000000 := by decide
      refine x_next (nxt (x_ret (d := .bool true) (L1 := [(drawB (drawB (drawB b4 16) 9) 2).at pb pc]) (ex_is (ex_orV (b := false) (c := true) (ex_boolE (ex_gt (ex_draw (k := 0) (b := b4) (ea_cons (ex_v rfl) (ea_cons ex_cI ea_nil)) rfl (by decide) (by decide)) ex_cI) (decide_eq_false c)) (fun _ => ex_callB (k := 0) (ds := [.int (52 : Nat), .int (1000000 - drawV (drawB b4 16) 9), .tuple [.int 0, .int 1]]) (b := drawB (drawB b4 16) 9) (ea_cons (ex_v rfl) (ea_cons ex_cI (ea_cons (ex_sub (ex_int (ex_pow ex_cI ex_cI ⟨by decide, by decide, by decide⟩) e6) (ex_draw (k := 0) (ea_cons (ex_v rfl) (ea_cons ex_cI ea_nil)) rfl (by decide) (by decide))) (ea_cons (ex_tup (ds := [.int 0, .int 1]) (ea_cons ex_cI (ea_cons ex_cI ea_nil)) (Nat.le_of_ble_eq_true rfl)) ea_nil)))) rfl ⟨52, _, 0, 1, rfl, by decide, by omega, bd20 (by omega), bd_zero _, bd_one _, rfl, rfl⟩) (fun h => nomatch h)) rfl) fun v F σ H rp o => ?_))
      cases o
      exact q F H (hM ▸ rp.nx)
end K80

/-! ## A18 -/
set_option Elab.async false
set_option linter.all false
set_option maxRecDepth 100000
set_option maxHeartbeats 4000000
set_option autoImplicit false
namespace K80
open PySem L2 Fz
variable {P : Program} {w : World} {K : PySem.W.Frag} {mg : Str → Option Value} {base : Heap} {f : Addr} {fd : FuncData}
theorem near_fr (b : Bag) {n : Nat} {p : Int} {k : Nat} (hn : n ≤ 60) (h0 : 0 < p) (hp : Bd 20 p) (hk : k ≤ 20) : ∃ x y : Int, frD (nearT b n p k) (nearS b n p k).2.1 = .tuple [.int x, .int y] ∧ Bd 100000 x ∧ Bd 100000 y := by
  obtain ⟨r1, r2, r3⟩ := near_ok b hn h0 hp hk
  refine fr_frD ?_ (r3.mono (by decide))
  unfold nearT
  split
  · exact r3.mono (by decide)
  · exact r2.mono (by decide)
theorem ex_drawW {B : Bg} {ε : Eps} {L La : Own} {tas : TA} {E : XK} {k : Nat} {pb pc : Addr} {b : Bag} {n : Int} (h : EA B tas ε L [.v (.ref pb), .d (.int n)] La) (hk : La[k]? = some (b.at pb pc)) (h0 : 0 < n) (hn : n.natAbs < 2 ^ 8000) : EX B (tCall (spB B.K R_draw) [] E tas) ε L (.d (.int (drawV b n))) (La.set k ((drawB b n).at pb pc)) :=
  ex_callB (ds := [.int n]) h hk ⟨n, h0, hn, rfl, rfl, rfl⟩
theorem bd20s {p : Int} (h : -1000 ≤ p ∧ p ≤ 1000) : Bd 20 p := (Bd.of (k := 10) (n := 1001) (by omega) (by omega) (by decide)).mono (by decide)
theorem ok_law_are_fewest_right (Fn : Fun K "_law_are_fewest_right" "_law_are_fewest_right" s_law_are_fewest_right f fd) (T : Bt P mg base) (C_law_pick : Df P w K mg base 42 "_law_pick" ["bag", "some"] (spB K R_pick)) (C_law_times : Df P w K mg base 41 "_law_times" ["one", "many"] (spR K R_pow))
    (C_law_is_fewest : GDf P w K mg base 45 "_law_is_fewest" ["bag", "n", "piles", "share"] (spB K R_isf)) (C_law_cards : Df P w K mg base 43 "_law_cards" ["bag"] (spB K R_cards)) (C_law_draw : Df P w K mg base 41 "_law_draw" ["bag", "below"] (spB K R_draw)) (C_law_least : Df P w K mg base 42 "_law_least" ["top", "low"] (spR K R_frac))
    (C_law_are_ends_right : GDf P w K mg base 46 "_law_are_ends_right" ["bag"] (spN K)) (C_law_near : Df P w K mg base 43 "_law_near" ["bag", "n", "piles", "deals"] (spB K R_near)) : GOk P w K mg base 47 f fd ["bag"] (spN K) := by
  refine g_bagN Fn sc_law_are_fewest_right (by decide) rfl fun cdv A outer s H hr hG => ⟨_, (pss_cons (ps_par (i := 1) (j := 2) (by rfl) sc_law_are_fewest_right.nd rfl rfl (by decide) rfl rfl (pa_cons (pe_op op_add pe_int (pe_callD C_law_draw (hr.mono (by decide)) (by rfl) (pa_cons (pv 0) (pa_cons pe_int pa_nil)))) (pa_cons (pe_callD C_law_pick (hr.mono (by decide)) (by rfl) (pa_cons (pv 0) (pa_cons (pe_lst (pa_cons pe_int (pa_cons pe_int (pa_cons pe_int (pa_cons pe_int (pa_cons pe_int (pa_cons pe_int (pa_cons pe_int (pa_cons (pe_callD C_law_draw (hr.mono (by decide)) (by rfl) (pa_cons (pv 0) (pa_cons pe_int pa_nil))) pa_nil))))))))) pa_nil))) pa_nil)) (by rfl))
      (pss_cons (ps_set (i := 3) sc_law_are_fewest_right.nd rfl (.inl rfl) (pe_op op_mulW pe_int (pe_callD C_law_times (hr.mono (by decide)) (by rfl) (pa_cons (pv 1) (pa_cons (pv 2) pa_nil)))))
      (pss_cons (ps_if (PW.pt (pw_or (pt_not (pt_val (pe_callG hG C_law_is_fewest (hr.mono (by decide)) (by rfl) (pa_cons (pv 0) (pa_cons pe_int (pa_cons (pv 1) (pa_cons (pe_tup (pa_cons pe_int (pa_cons (pv 3) pa_nil))) pa_nil))))))) (pw_or1 (pt_not (pt_val (pe_callG hG C_law_is_fewest (hr.mono (by decide)) (by rfl) (pa_cons (pv 0) (pa_cons pe_int (pa_cons (pv 1) (pa_cons (pe_tup (pa_cons pe_int (pa_cons (pe_op op_add (pv 3) pe_int) pa_nil))) pa_nil)))))))))) (pss_one (ps_ret pe_bl)) pss_nil)
      (pss_cons (ps_par (i := 4) (j := 1) (by rfl) sc_law_are_fewest_right.nd rfl rfl (by decide) rfl rfl (pa_cons (pe_op op_add pe_int (pe_callD C_law_draw (hr.mono (by decide)) (by rfl) (pa_cons (pv 0) (pa_cons pe_int pa_nil)))) (pa_cons (pe_op op_add pe_int (pe_callD C_law_draw (hr.mono (by decide)) (by rfl) (pa_cons (pv 0) (pa_cons pe_int pa_nil)))) pa_nil)) (by rfl))
      (pss_cons (ps_if (pt_not (pt_val (pe_callG hG C_law_is_fewest (hr.mono (by decide)) (by rfl) (pa_cons (pv 0) (pa_cons (pv 4) (pa_cons (pv 1) (pa_cons (pe_callD C_law_near (hr.mono (by decide)) (by rfl) (pa_cons (pv 0) (pa_cons (pv 4) (pa_cons (pv 1) (pa_cons (pe_callD C_law_draw (hr.mono (by decide)) (by rfl) (pa_cons (pv 0) (pa_cons pe_int pa_nil))) pa_nil))))) pa_nil))))))) (pss_one (ps_ret pe_bl)) pss_nil)
      (pss_cons (ps_par (i := 4) (j := 1) (by rfl) sc_law_are_fewest_right.nd rfl rfl (by decide) rfl rfl (pa_cons (pe_callD C_law_cards (hr.mono (by decide)) (by rfl) (pa_cons (pv 0) pa_nil)) (pa_cons (pe_callD C_law_pick (hr.mono (by decide)) (by rfl) (pa_cons (pv 0) (pa_cons (pe_lst (pa_cons pe_int (pa_cons pe_int (pa_cons pe_int (pa_cons pe_int (pa_cons pe_int (pa_cons pe_int (pa_cons pe_int (pa_cons pe_int (pa_cons (pe_op op_add pe_int (pe_callD C_law_draw (hr.mono (by decide)) (by rfl) (pa_cons (pv 0) (pa_cons (pe_op op_pow pe_int pe_int) pa_nil)))) pa_nil)))))))))) pa_nil))) pa_nil)) (by rfl))
      (pss_cons (ps_set (i := 2) sc_law_are_fewest_right.nd rfl (.inl rfl) (pe_ifExp (pt_cmpR op_lt (pv 1) pe_int (nomark _)) (pe_callD C_law_draw (hr.mono (by decide)) (by rfl) (pa_cons (pv 0) (pa_cons pe_int pa_nil))) (pe_callD C_law_draw (hr.mono (by decide)) (by rfl) (pa_cons (pv 0) (pa_cons pe_int pa_nil)))))
      (pss_cons (ps_if (pt_not (pt_val (pe_callG hG C_law_is_fewest (hr.mono (by decide)) (by rfl) (pa_cons (pv 0) (pa_cons (pv 4) (pa_cons (pv 1) (pa_cons (pe_callD C_law_near (hr.mono (by decide)) (by rfl) (pa_cons (pv 0) (pa_cons (pv 4) (pa_cons (pv 1) (pa_cons (pv 2) pa_nil))))) pa_nil))))))) (pss_one (ps_ret pe_bl)) pss_nil)
      (pss_cons (ps_par (i := 4) (j := 1) (by rfl) sc_law_are_fewest_right.nd rfl rfl (by decide) rfl rfl (pa_cons (pe_callD C_law_cards (hr.mono (by decide)) (by rfl) (pa_cons (pv 0) pa_nil)) (pa_cons (pe_callD C_law_pick (hr.mono (by decide)) (by rfl) (pa_cons (pv 0) (pa_cons (pe_lst (pa_cons pe_int (pa_cons pe_int (pa_cons pe_int (pa_cons pe_int (pa_cons pe_int pa_nil)))))) pa_nil))) pa_nil)) (by rfl))
      (pss_cons (ps_set (i := 3) sc_law_are_fewest_right.nd rfl (.inl rfl) (pe_op op_add pe_int (pe_callD C_law_draw (hr.mono (by decide)) (by rfl) (pa_cons (pv 0) (pa_cons (pe_callD C_law_pick (hr.mono (by decide)) (by rfl) (pa_cons (pv 0) (pa_cons (pe_lst (pa_cons pe_int (pa_cons (pe_op op_pow pe_int pe_int) (pa_cons (pe_op op_pow pe_int pe_int) pa_nil)))) pa_nil))) pa_nil)))))
      (pss_cons (ps_set (i := 5) sc_law_are_fewest_right.nd rfl (.inl rfl) (pe_lst (pa_cons (pe_tup (pa_cons pe_int (pa_cons pe_int pa_nil))) (pa_cons (pe_tup (pa_cons pe_int (pa_cons pe_int pa_nil))) (pa_cons (pe_tup (pa_cons pe_int (pa_cons pe_int pa_nil))) (pa_cons (pe_tup (pa_cons pe_int (pa_cons (pe_op op_pow pe_int pe_int) pa_nil))) (pa_cons (pe_callD C_law_least (hr.mono (by decide)) (by rfl) (pa_cons (pe_callD C_law_draw (hr.mono (by decide)) (by rfl) (pa_cons (pv 0) (pa_cons (pe_op op_add (pv 3) pe_int) pa_nil))) (pa_cons (pv 3) pa_nil))) pa_nil)))))))
      (pss_one (ps_ret (pe_and (pe_callG hG C_law_is_fewest (hr.mono (by decide)) (by rfl) (pa_cons (pv 0) (pa_cons (pv 4) (pa_cons (pv 1) (pa_cons (pe_callD C_law_pick (hr.mono (by decide)) (by rfl) (pa_cons (pv 0) (pa_cons (pv 5) pa_nil))) pa_nil))))) (pe_one (pe_callG hG C_law_are_ends_right (hr.mono (by decide)) (by rfl) (pa_cons (pv 0) pa_nil))))))))))))))))), ?_⟩
  rintro B Q pb pc b rfl hM q
  have b22 : Bd 2 (2 : Int) := Bd.of (n := 3) (by decide) (by decide) (by decide)
  have z0 := drawV_ok b (show (0 : Int) < 29 by decide)
  have z1 := drawV_ok (drawB b 29) (show (0 : Int) < 21 by decide)
  refine x_seq (x_par (ea_cons (ex_add ex_cI (ex_draw (k := 0) (b := b) (ea_cons (ex_v rfl) (ea_cons ex_cI ea_nil)) rfl (by decide) (by decide))) (ea_cons (ex_pickI (k := 0) (b := drawB (drawB b 29) 21) (l := [0, 1, 2, 5, 19, 20, 20, drawV (drawB b 29) 21]) (ea_cons (ex_v rfl) (ea_cons (ex_frz (en_lst (ds := [.int 0, .int 1, .int 2, .int 5, .int 19, .int 20, .int 20, .int (drawV (drawB b 29) 21)]) (ea_cons ex_cI (ea_cons ex_cI (ea_cons ex_cI (ea_cons ex_cI (ea_cons ex_cI (ea_cons ex_cI (ea_cons ex_cI (ea_cons (ex_draw (k := 0) (b := drawB b 29) (ea_cons (ex_v rfl) (ea_cons ex_cI ea_nil)) rfl (by decide) (by decide)) ea_nil)))))))) (Nat.le_of_ble_eq_true rfl))) ea_nil)) rfl (List.cons_ne_nil _ _) (Nat.le_of_ble_eq_true rfl)) ea_nil)) ?_)
  have hk := pick_in (b := drawB (drawB b 29) 21) (l := [0, 1, 2, 5, 19, 20, 20, drawV (drawB b 29) 21]) (lo := 0) (hi := 20) (List.cons_ne_nil _ _) (fun x hx => by
    simp only [List.mem_cons, List.not_mem_nil, or_false] at hx
    omega)
  generalize pickI (drawB (drawB b 29) 21) [0, 1, 2, 5, 19, 20, 20, drawV (drawB b 29) 21] = kz at *
  obtain ⟨k, rfl⟩ : ∃ k : Nat, kz = (k : Int) := ⟨kz.toNat, by omega⟩
  generalize hp : 2 + drawV b 29 = p at *
  have hp1 : 2 ≤ p ∧ p ≤ 30 := by omega
  have hpb : Bd 20 p := bd20s (by omega)
  have hp0 : 0 < p := by omega
  generalize hb3 : drawB (drawB (drawB b 29) 21) (([0, 1, 2, 5, 19, 20, 20, drawV (drawB b 29) 21] : List Int).length : Int) = b3
  refine nxt (x_set (ex_mul ex_cI (ex_call (ds := [.int p, .int k]) (ea_cons (ex_v rfl) (ea_cons (ex_v rfl) ea_nil)) ⟨p, k, 20, rfl, hpb, by omega, by omega, rfl⟩) (cmul b22 (pow20 hpb (by omega)) (by decide))) ?_)
  have hlb : Bd 500 (2 * p ^ k) := (b22.mul (pow20 hpb (by omega))).mono (by decide)
  refine x_sq (x_if (b := false) (L1 := [(drawB (drawB b3 2) 2).at pb pc]) (et_is (et_or (b := false) (c := false) (et_yesN (ex_callB (k := 0) (b := b3) (ds := [.int (2 : Nat), .int p, .tuple [.int 1, .int (2 * p ^ k)]]) (ea_cons (ex_v rfl) (ea_cons ex_cI (ea_cons (ex_v rfl) (ea_cons (ex_tup (ds := [.int 1, .int (2 * p ^ k)]) (ea_cons ex_cI (ea_cons (ex_v rfl) ea_nil)) (Nat.le_of_ble_eq_true rfl)) ea_nil)))) rfl ⟨2, p, 1, _, rfl, by decide, hp0, hpb, bd_one _, hlb.mono (by decide), rfl, rfl⟩))
    (fun _ => et_yesN (ex_callB (k := 0) (b := drawB b3 2) (ds := [.int (2 : Nat), .int p, .tuple [.int 1, .int (2 * p ^ k + 1)]]) (ea_cons (ex_v rfl) (ea_cons ex_cI (ea_cons (ex_v rfl) (ea_cons (ex_tup (ds := [.int 1, .int (2 * p ^ k + 1)]) (ea_cons ex_cI (ea_cons (ex_add (ex_v rfl) ex_cI) ea_nil)) (Nat.le_of_ble_eq_true rfl)) ea_nil)))) rfl ⟨2, p, 1, _, rfl, by decide, hp0, hpb, bd_one _, (hlb.add (bd_one 499)).mono (by decide), rfl, rfl⟩)) (fun h => nomatch h)) rfl) (fun h => nomatch h) fun _ => ?_)
  generalize drawB (drawB b3 2) 2 = b5
  have z2 := drawV_ok b5 (show (0 : Int) < 7 by decide)
  have z3 := drawV_ok (drawB b5 7) (show (0 : Int) < 5 by decide)
  obtain ⟨n, hn⟩ : ∃ n : Nat, 2 + drawV b5 7 = (n : Int) := ⟨(2 + drawV b5 7).toNat, by omega⟩
  have hn60 : n ≤ 60 := by omega
  refine x_next (nxt (x_par (a := .d (.int n)) (ea_cons (ex_int (ex_add ex_cI (ex_draw (k := 0) (b := b5) (ea_cons (ex_v rfl) (ea_cons ex_cI ea_nil)) rfl (by decide) (by decide))) hn) (ea_cons (ex_add ex_cI (ex_draw (k := 0) (b := drawB b5 7) (ea_cons (ex_v rfl) (ea_cons ex_cI ea_nil)) rfl (by decide) (by decide))) ea_nil)) ?_))
  generalize hp' : 2 + drawV (drawB b5 7) 5 = p2 at *
  have hq1 : 2 ≤ p2 ∧ p2 ≤ 6 := by omega
  have hqb : Bd 20 p2 := bd20s (by omega)
  have hq0 : 0 < p2 := by omega
  generalize drawB (drawB b5 7) 5 = b7
  have z4 := drawV_ok b7 (show (0 : Int) < 6 by decide)
  obtain ⟨k2, hk2⟩ : ∃ k : Nat, drawV b7 6 = (k : Int) := ⟨(drawV b7 6).toNat, by omega⟩
  obtain ⟨x1, y1, hxy1, hx1, hy1⟩ := near_fr (drawB b7 6) (n := n) (p := p2) (k := k2) hn60 hq0 hqb (by omega)
  refine x_sq (x_if (b := false) (L1 := [(drawB (nearS (drawB b7 6) n p2 k2).2.2 2).at pb pc]) (et_yesN (ex_callB (k := 0) (b := (nearS (drawB b7 6) n p2 k2).2.2) (ds := [.int n, .int p2, .tuple [.int x1, .int y1]]) (ea_cons (ex_v rfl) (ea_cons (ex_v rfl) (ea_cons (ex_v rfl) (ea_cons (ex_is (ex_callB (k := 0) (b := drawB b7 6) (b' := (nearS (drawB b7 6) n p2 k2).2.2) (ds := [.int n, .int p2, .int k2]) (ea_cons (ex_v rfl) (ea_cons (ex_v rfl) (ea_cons (ex_v rfl) (ea_cons (ex_int (ex_draw (k := 0) (b := b7) (ea_cons (ex_v rfl) (ea_cons ex_cI ea_nil)) rfl (by decide) (by decide)) hk2) ea_nil)))) rfl ⟨n, p2, k2, rfl, hn60, hq0, hqb, by omega, rfl, rfl⟩) (by rw [hxy1])) ea_nil)))) rfl ⟨n, p2, x1, y1, rfl, hn60, hq0, hqb, hx1, hy1, rfl, rfl⟩)) (fun h => nomatch h) fun _ => ?_)
  generalize drawB (nearS (drawB b7 6) n p2 k2).2.2 2 = b10
  have hc := cardsP_ok b10
  obtain ⟨n3, hn3⟩ : ∃ n : Nat, (cardsP b10).1 = (n : Int) := ⟨(cardsP b10).1.toNat, by omega⟩
  have z5 := drawV_ok (cardsP b10).2 (show (0 : Int) < 1000000 by decide)
  have e6 : (10 : Int) ^ (6 : Int).toNat = 1000000 := by decide
  refine x_next (nxt (x_par (a := .d (.int n3)) (ea_cons (ex_int (ex_callB (k := 0) (ds := []) (b := b10) (d := .int (cardsP b10).1) (b' := (cardsP b10).2) (ea_cons (ex_v rfl) ea_nil) rfl ⟨rfl, rfl, rfl⟩) hn3) (ea_cons (ex_pickI (k := 0) (b := drawB (cardsP b10).2 1000000) (l := [1, 2, 2, 2, 3, 5, 10, 52, 1 + drawV (cardsP b10).2 1000000]) (ea_cons (ex_v rfl) (ea_cons (ex_frz (en_lst (ds := [.int 1, .int 2, .int 2, .int 2, .int 3, .int 5, .int 10, .int 52, .int (1 + drawV (cardsP b10).2 1000000)]) (ea_cons ex_cI (ea_cons ex_cI (ea_cons ex_cI (ea_cons ex_cI (ea_cons ex_cI (ea_cons ex_cI (ea_cons ex_cI (ea_cons ex_cI (ea_cons (ex_add ex_cI (ex_draw (k := 0) (b := (cardsP b10).2) (ea_cons (ex_v rfl) (ea_cons (ex_int (ex_pow ex_cI ex_cI ⟨by decide, by decide, by decide⟩) e6) ea_nil)) rfl (by decide) (by decide))) ea_nil))))))))) (Nat.le_of_ble_eq_true rfl))) ea_nil)) rfl (List.cons_ne_nil _ _) (Nat.le_of_ble_eq_true rfl)) ea_nil)) ?_))
  have hp3 := pick_in (b := drawB (cardsP b10).2 1000000) (l := [1, 2, 2, 2, 3, 5, 10, 52, 1 + drawV (cardsP b10).2 1000000]) (lo := 1) (hi := 1000000) (List.cons_ne_nil _ _) (fun x hx => by
    simp only [List.mem_cons, List.not_mem_nil, or_false] at hx
    omega)
  generalize pickI (drawB (cardsP b10).2 1000000) [1, 2, 2, 2, 3, 5, 10, 52, 1 + drawV (cardsP b10).2 1000000] = p3 at *
  generalize drawB (drawB (cardsP b10).2 1000000) (([1, 2, 2, 2, 3, 5, 10, 52, 1 + drawV (cardsP b10).2 1000000] : List Int).length : Int) = b13
  have hn3' : n3 ≤ 60 := by omega
  have hp3b : Bd 20 p3 := bd20 hp3
  have hp30 : 0 < p3 := by omega
  obtain ⟨k3, b14, hk3, hEX⟩ : ∃ (k3 : Nat) (b14 : Bag), k3 ≤ 20 ∧ ∀ (ε : Eps), ε[1]? = some (iv p3) → ε[0]? = some (some (.v (.ref pb))) → EX B (tIf (tTest (tOp (rI0 fun i j => .bl (decide (i < j))) (tVar 1) (tC (.int 11)))) (tCall (spB B.K R_draw) [] E0 (tCons (tVar 0) (tCons (tC (.int 21)) tNil))) (tCall (spB B.K R_draw) [] E0 (tCons (tVar 0) (tCons (tC (.int 5)) tNil)))) ε [b13.at pb pc] (.d (.int (k3 : Int))) [b14.at pb pc] := by
    by_cases c : p3 < 11
    · have z := drawV_ok b13 (show (0 : Int) < 21 by decide)
      refine ⟨(drawV b13 21).toNat, drawB b13 21, by omega, fun ε h1 h0 => ex_if (b := true) (et_is (et_test (ex_lt (ex_v h1) ex_cI)) (decide_eq_true c)) (fun _ => ex_int (ex_draw (k := 0) (b := b13) (ea_cons (ex_v h0) (ea_cons ex_cI ea_nil)) rfl (by decide) (by decide)) (by omega)) (fun h => nomatch h)⟩
    · have z := drawV_ok b13 (show (0 : Int) < 5 by decide)
      refine ⟨(drawV b13 5).toNat, drawB b13 5, by omega, fun ε h1 h0 => ex_if (b := false) (et_is (et_test (ex_lt (ex_v h1) ex_cI)) (decide_eq_false c)) (fun h => nomatch h) (fun _ => ex_int (ex_draw (k := 0) (b := b13) (ea_cons (ex_v h0) (ea_cons ex_cI ea_nil)) rfl (by decide) (by decide)) (by omega))⟩
  refine nxt (x_set (L1 := [b14.at pb pc]) (hEX _ rfl rfl) ?_)
  obtain ⟨x2, y2, hxy2, hx2, hy2⟩ := near_fr b14 (n := n3) (p := p3) (k := k3) hn3' hp30 hp3b hk3
  refine x_sq (x_if (b := false) (L1 := [(drawB (nearS b14 n3 p3 k3).2.2 2).at pb pc]) (et_yesN (ex_callB (k := 0) (b := (nearS b14 n3 p3 k3).2.2) (ds := [.int n3, .int p3, .tuple [.int x2, .int y2]]) (ea_cons (ex_v rfl) (ea_cons (ex_v rfl) (ea_cons (ex_v rfl) (ea_cons (ex_is (ex_callB (k := 0) (b := b14) (b' := (nearS b14 n3 p3 k3).2.2) (ds := [.int n3, .int p3, .int k3]) (ea_cons (ex_v rfl) (ea_cons (ex_v rfl) (ea_cons (ex_v rfl) (ea_cons (ex_v rfl) ea_nil)))) rfl ⟨n3, p3, k3, rfl, hn3', hp30, hp3b, hk3, rfl, rfl⟩) (by rw [hxy2])) ea_nil)))) rfl ⟨n3, p3, x2, y2, rfl, hn3', hp30, hp3b, hx2, hy2, rfl, rfl⟩)) (fun h => nomatch h) fun _ => ?_)
  generalize drawB (nearS b14 n3 p3 k3).2.2 2 = b16
  have hc2 := cardsP_ok b16
  obtain ⟨n4, hn4⟩ : ∃ n : Nat, (cardsP b16).1 = (n : Int) := ⟨(cardsP b16).1.toNat, by omega⟩
  refine x_next (nxt (x_par (a := .d (.int n4)) (ea_cons (ex_int (ex_callB (k := 0) (ds := []) (b := b16) (d := .int (cardsP b16).1) (b' := (cardsP b16).2) (ea_cons (ex_v rfl) ea_nil) rfl ⟨rfl, rfl, rfl⟩) hn4) (ea_cons (ex_pickI (k := 0) (b := (cardsP b16).2) (l := [1, 2, 3, 6, 10]) (ea_cons (ex_v rfl) (ea_cons (ex_frz (en_lst (ds := [.int 1, .int 2, .int 3, .int 6, .int 10]) (ea_cons ex_cI (ea_cons ex_cI (ea_cons ex_cI (ea_cons ex_cI (ea_cons ex_cI ea_nil))))) (Nat.le_of_ble_eq_true rfl))) ea_nil)) rfl (List.cons_ne_nil _ _) (Nat.le_of_ble_eq_true rfl)) ea_nil)) ?_))
  have hp4 := pick_in (b := (cardsP b16).2) (l := [1, 2, 3, 6, 10]) (lo := 1) (hi := 10) (by decide) (by decide)
  generalize pickI (cardsP b16).2 [1, 2, 3, 6, 10] = p4 at *
  generalize drawB (cardsP b16).2 (([1, 2, 3, 6, 10] : List Int).length : Int) = b18
  have e3 : (10 : Int) ^ (3 : Int).toNat = 1000 := by decide
  have e30' : (10 : Int) ^ (30 : Int).toNat = e30 := by decide
  have hl := pick_in (b := b18) (l := [9, 1000, e30]) (lo := 9) (hi := e30) (List.cons_ne_nil _ _) (by decide)
  have z6 := drawV_ok (drawB b18 3) (show (0 : Int) < pickI b18 [9, 1000, e30] by omega)
  have hpl : Bd 100 (pickI b18 [9, 1000, e30]) := Bd.le e30_bd (by omega) hl.2
  have bd8 : ∀ {z : Int}, Bd 101 z → z.natAbs < 2 ^ 8000 := fun h => Nat.lt_of_lt_of_le h (Nat.pow_le_pow_right (by decide) (by decide))
  refine nxt (x_set (ex_add ex_cI (ex_drawW (k := 0) (b := drawB b18 3) (n := pickI b18 [9, 1000, e30]) (ea_cons (ex_v rfl) (ea_cons (ex_pickI (k := 0) (b := b18) (l := [9, 1000, e30]) (ea_cons (ex_v rfl) (ea_cons (ex_frz (en_lst (ds := [.int 9, .int 1000, .int e30]) (ea_cons ex_cI (ea_cons (ex_int (ex_pow ex_cI ex_cI ⟨by decide, by decide, by decide⟩) e3) (ea_cons (ex_int (ex_pow ex_cI ex_cI ⟨by decide, by decide, by decide⟩) e30') ea_nil))) (Nat.le_of_ble_eq_true rfl))) ea_nil)) rfl (List.cons_ne_nil _ _) (Nat.le_of_ble_eq_true rfl)) ea_nil)) rfl (by omega) (bd8 (hpl.mono (by decide))))) ?_)
  generalize hlow : 1 + drawV (drawB b18 3) (pickI b18 [9, 1000, e30]) = low at *
  generalize drawB (drawB b18 3) (pickI b18 [9, 1000, e30]) = b20
  have hl1 : 1 ≤ low ∧ low ≤ e30 := by omega
  have hlwb : Bd 100 low := Bd.le e30_bd (by omega) hl1.2
  have hl1b : Bd 101 (low + 1) := hlwb.add (bd_one 99)
  have z7 := drawV_ok b20 (show (0 : Int) < low + 1 by omega)
  have htb : Bd 101 (drawV b20 (low + 1)) := Bd.le hl1b (by omega) (by omega)
  obtain ⟨x5, y5, hxy5, hx5, hy5⟩ := pick_fr (xs := [.tuple [.int 0, .int 1], .tuple [.int 1, .int 1], .tuple [.int 1, .int 2], .tuple [.int 1, .int e30], frD (drawV b20 (low + 1)) low]) (fun e he => by
    simp only [List.mem_cons, List.not_mem_nil, or_false] at he
    rcases he with e1 | e1 | e1 | e1 | e1 <;> rw [e1]
    · exact ⟨_, _, rfl, bd_zero _, bd_one _⟩
    · exact ⟨_, _, rfl, bd_one _, bd_one _⟩
    · exact ⟨_, _, rfl, bd_one _, b22.mono (by decide)⟩
    · exact ⟨_, _, rfl, bd_one _, e30_bd.mono (by decide)⟩
    · exact fr_frD (htb.mono (by decide)) (hlwb.mono (by decide))) (List.cons_ne_nil _ _) (drawB b20 (low + 1))
  refine nxt (x_set (a := .d (.list [.tuple [.int 0, .int 1], .tuple [.int 1, .int 1], .tuple [.int 1, .int 2], .tuple [.int 1, .int e30], frD (drawV b20 (low + 1)) low])) (L1 := [(drawB b20 (low + 1)).at pb pc]) (ex_frz (en_lst (ds := [.tuple [.int 0, .int 1], .tuple [.int 1, .int 1], .tuple [.int 1, .int 2], .tuple [.int 1, .int e30], frD (drawV b20 (low + 1)) low]) (ea_cons (ex_tup (ds := [.int 0, .int 1]) (ea_cons ex_cI (ea_cons ex_cI ea_nil)) (Nat.le_of_ble_eq_true rfl)) (ea_cons (ex_tup (ds := [.int 1, .int 1]) (ea_cons ex_cI (ea_cons ex_cI ea_nil)) (Nat.le_of_ble_eq_true rfl)) (ea_cons (ex_tup (ds := [.int 1, .int 2]) (ea_cons ex_cI (ea_cons ex_cI ea_nil)) (Nat.le_of_ble_eq_true rfl)) (ea_cons (ex_tup (ds := [.int 1, .int e30]) (ea_cons ex_cI (ea_cons (ex_int (ex_pow ex_cI ex_cI ⟨by decide, by decide, by decide⟩) e30') ea_nil)) (Nat.le_of_ble_eq_true rfl))
    (ea_cons (ex_call (ds := [.int (drawV b20 (low + 1)), .int low]) (ea_cons (ex_drawW (k := 0) (b := b20) (n := low + 1) (ea_cons (ex_v rfl) (ea_cons (ex_add (ex_v rfl) ex_cI) ea_nil)) rfl (by omega) (bd8 hl1b)) (ea_cons (ex_v rfl) ea_nil)) ⟨_, _, rfl, by omega, rfl⟩) ea_nil))))) (Nat.le_of_ble_eq_true rfl))) ?_)
  refine nxt (x_retN (k := 0) (b := drawB (drawB (drawB b20 (low + 1)) 5) 2) (pb := pb) (pc := pc) (ex_callB (k := 0) (b := drawB (drawB b20 (low + 1)) 5) (ds := [.int n4, .int p4, .tuple [.int x5, .int y5]]) (ea_cons (ex_v rfl) (ea_cons (ex_v rfl) (ea_cons (ex_v rfl) (ea_cons (ex_is (ex_callB (k := 0) (b := drawB b20 (low + 1)) (b' := drawB (drawB b20 (low + 1)) 5) (ds := [.list [.tuple [.int 0, .int 1], .tuple [.int 1, .int 1], .tuple [.int 1, .int 2], .tuple [.int 1, .int e30], frD (drawV b20 (low + 1)) low]]) (ea_cons (ex_v rfl) (ea_cons (ex_v rfl) ea_nil)) rfl ⟨_, List.cons_ne_nil _ _, (by show 5 ≤ 100000; decide), rfl, rfl, rfl⟩) (by rw [← hxy5])) ea_nil)))) rfl ⟨n4, p4, x5, y5, rfl, by omega, by omega, bd20s (by omega), hx5, hy5, rfl, rfl⟩) (ex_v rfl) rfl fun F σ H F' H' rp nx => ?_)
  refine q F' H' ?_
  rw [← hM]
  have nx' : NxM B.M F H F' H' := by rw [hM]; exact nx
  exact rp.nx.tr nx' fun p hp => ⟨(fun e => by obtain ⟨o, ho⟩ := rp.there (rp.mm p hp); rw [e] at ho; cases ho), fun xs e => rp.noT (rp.mm p hp) e⟩
end K80

/-! ## A19 -/
set_option Elab.async false
set_option linter.all false
set_option maxRecDepth 100000
set_option maxHeartbeats 4000000
set_option autoImplicit false
namespace K80
open PySem L2 Fz
variable {P : Program} {w : World} {K : PySem.W.Frag} {mg : Str → Option Value} {base : Heap} {f : Addr} {fd : FuncData}
def spLaw (K : PySem.W.Frag) : Sp := fun vs H Q _ => ∃ (a : Addr) (ns : List Int), vs = [.ref a] ∧ SqL K H a (ns.map V.int) ∧ ns.length ≤ 63 ∧ ∀ H', Q (.bl true) H'
theorem ok_law (Fn : Fun K "law" "law" s_law f fd) (T : Bt P mg base) (C_law_own_bag : Df P w K mg base 41 "_law_own_bag" ["script"] (spOwn K)) (C_law_are_fars_right : GDf P w K mg base 44 "_law_are_fars_right" ["bag"] (spB K (R_yes fun b => iterB faB b 3))) (C_law_are_fewest_right : GDf P w K mg base 47 "_law_are_fewest_right" ["bag"] (spN K))
    (C_law_are_chances_right : GDf P w K mg base 45 "_law_are_chances_right" ["bag"] (spB K (R_yes fun b => iterB chB b 5))) (C_law_are_deals_right : GDf P w K mg base 45 "_law_are_deals_right" ["bag"] (spB K (R_yes dlB))) : GOk P w K mg base 48 f fd ["script"] (spLaw K) := by
  refine g_ok Fn sc_law (fun vs H Q E ⟨_, _, h, _⟩ => by rw [h]; rfl) fun cdv A outer s H vs Q hr hG h => ?_
  obtain ⟨a, ns, rfl, hS, hl, q⟩ := h
  refine ⟨_, (pss_cons (ps_set (i := 1) sc_law.nd rfl (.inl rfl) (pe_callD C_law_own_bag (hr.mono (by decide)) (by rfl) (pa_cons (pv 0) pa_nil)))
      (pss_cons (ps_if (PW.pt (pw_or (pt_not (pt_val (pe_callG hG C_law_are_chances_right (hr.mono (by decide)) (by rfl) (pa_cons (pv 1) pa_nil)))) (pw_or1 (pt_not (pt_val (pe_callG hG C_law_are_deals_right (hr.mono (by decide)) (by rfl) (pa_cons (pv 1) pa_nil))))))) (pss_one (ps_ret pe_bl)) pss_nil)
      (pss_one (ps_ret (pe_and (pe_callG hG C_law_are_fars_right (hr.mono (by decide)) (by rfl) (pa_cons (pv 1) pa_nil)) (pe_one (pe_callG hG C_law_are_fewest_right (hr.mono (by decide)) (by rfl) (pa_cons (pv 1) pa_nil)))))))), ?_⟩
  refine (?_ : Ho ⟨K, H, H, []⟩ _ (some (.v (.ref a)) :: List.replicate (2 - 1) none) [.seq a (ns.map PyData.int)]) H _ H (rep_startS (N := ["script", "bag"]) hS (by decide))
  refine x_seq (x_setOwn (k := 0) (ex_v rfl) rfl hl fun pb pc b hpb hpc => ?_)
  refine x_sq (x_if (b := false) (L1 := [(dlB (iterB chB b 5)).at pb pc, .seq a (ns.map PyData.int)]) (et_is (et_or (b := false) (c := false) (et_yesN (ex_callB (k := 0) (b := b) (b' := iterB chB b 5) (ds := []) (ea_cons (ex_v rfl) ea_nil) rfl ⟨rfl, rfl, rfl⟩)) (fun _ => et_yesN (ex_callB (k := 0) (b := iterB chB b 5) (b' := dlB (iterB chB b 5)) (ds := []) (ea_cons (ex_v rfl) ea_nil) rfl ⟨rfl, rfl, rfl⟩)) (fun h => nomatch h)) rfl) (fun h => nomatch h) fun _ => ?_)
  refine x_next (nxt (x_retN (k := 0) (b := iterB faB (dlB (iterB chB b 5)) 3) (pb := pb) (pc := pc) (ex_callB (k := 0) (b := dlB (iterB chB b 5)) (b' := iterB faB (dlB (iterB chB b 5)) 3) (ds := []) (ea_cons (ex_v rfl) ea_nil) rfl ⟨rfl, rfl, rfl⟩) (ex_v rfl) rfl fun F σ H F' H' rp nx => q H'))
end K80

/-! ## Fin80 -/
set_option Elab.async false
set_option linter.all false
set_option maxRecDepth 100000
set_option maxHeartbeats 4000000
set_option autoImplicit false
namespace K80
open PySem L2 Fz
theorem all_mk {l : PySem.W.OpenLaw} {w : World} {K : PySem.W.Frag} {h : Heap} {mg : Str → Option Value} {fa : Addr} (X : K.In h) (G : h.Ns mainGlobals mg) (hfa : mg "law" = some (.ref fa)) (ht : l.prog.given.tree = none)
    {f0 f1 f2 f3 f4 f5 f6 f7 f8 f9 f10 f11 f12 f13 f14 f15 f16 f17 f18 f19 f20 f21 f22 f23 f24 f25 f26 f27 f28 f29 f30 f31 f32 f33 : Addr} {od0 an0 od1 an1 od2 an2 od3 an3 od4 an4 od5 an5 od6 an6 od7 an7 od8 an8 od9 an9 od10 an10 od11 an11 od12 an12 od13 an13 od14 an14 od15 an15 od16 an16 od17 an17 od18 an18 od19 an19 od20 an20 od21 an21 od22 an22 od23 an23 od24 an24 od25 an25 od26 an26 od27 an27 od28 an28 od29 an29 od30 an30 od31 an31 od32 an32 od33 an33 : Option Addr} {sl0 sl1 sl2 sl3 sl4 sl5 sl6 sl7 sl8 sl9 sl10 sl11 sl12 sl13 sl14 sl15 sl16 sl17 sl18 sl19 sl20 sl21 sl22 sl23 sl24 sl25 sl26 sl27 sl28 sl29 sl30 sl31 sl32 sl33 : Array (Option Value)}
    {oc0 kV0 dc0 pm0 cd0 ct0 oc1 kV1 dc1 pm1 cd1 ct1 oc2 kV2 dc2 pm2 cd2 ct2 oc3 kV3 dc3 pm3 cd3 ct3 oc4 kV4 dc4 pm4 cd4 ct4 oc5 kV5 dc5 pm5 cd5 ct5 oc6 kV6 dc6 pm6 cd6 ct6 oc7 kV7 dc7 pm7 cd7 ct7 oc8 kV8 dc8 pm8 cd8 ct8 oc9 kV9 dc9 pm9 cd9 ct9 oc10 kV10 dc10 pm10 cd10 ct10 oc11 kV11 dc11 pm11 cd11 ct11 oc12 kV12 dc12 pm12 cd12 ct12 oc13 kV13 dc13 pm13 cd13 ct13 oc14 kV14 dc14 pm14 cd14 ct14 oc15 kV15 dc15 pm15 cd15 ct15 oc16 kV16 dc16 pm16 cd16 ct16 oc17 kV17 dc17 pm17 cd17 ct17 oc18 kV18 dc18 pm18 cd18 ct18 oc19 kV19 dc19 pm19 cd19 ct19 oc20 kV20 dc20 pm20 cd20 ct20 oc21 kV21 dc21 pm21 cd21 ct21 oc22 kV22 dc22 pm22 cd22 ct22 oc23 kV23 dc23 pm23 cd23 ct23 oc24 kV24 dc24 pm24 cd24 ct24 oc25 kV25 dc25 pm25 cd25 ct25 oc26 kV26 dc26 pm26 cd26 ct26 oc27 kV27 dc27 pm27 cd27 ct27 oc28 kV28 dc28 pm28 cd28 ct28 oc29 kV29 dc29 pm29 cd29 ct29 oc30 kV30 dc30 pm30 cd30 ct30 oc31 kV31 dc31 pm31 cd31 ct31 oc32 kV32 dc32 pm32 cd32 ct32 oc33 kV33 dc33 pm33 cd33 ct33 : Value} {t0 : Tok}
    (a0 : PySem.W.nsIn K mainGlobals "common_measure" = some (some (.ref f0))) (l0 : K.lookup f0 = some ⟨oc0, od0, .func (PySem.W.fnOf "common_measure" "common_measure" (defArgs s_common_measure) (defBody s_common_measure) (defScope s_common_measure) .none kV0 dc0 pm0 an0 cd0 ct0), sl0⟩) (c0 : PySem.W.codeIn K cd0 "common_measure" = true) (k0 : PySem.W.keepIn K (.ref f0) = true)
    (a1 : PySem.W.nsIn K mainGlobals "fraction_of" = some (some (.ref f1))) (l1 : K.lookup f1 = some ⟨oc1, od1, .func (PySem.W.fnOf "fraction_of" "fraction_of" (defArgs s_fraction_of) (defBody s_fraction_of) (defScope s_fraction_of) .none kV1 dc1 pm1 an1 cd1 ct1), sl1⟩) (c1 : PySem.W.codeIn K cd1 "fraction_of" = true) (k1 : PySem.W.keepIn K (.ref f1) = true)
    (a2 : PySem.W.nsIn K mainGlobals "is_less_fraction" = some (some (.ref f2))) (l2 : K.lookup f2 = some ⟨oc2, od2, .func (PySem.W.fnOf "is_less_fraction" "is_less_fraction" (defArgs s_is_less_fraction) (defBody s_is_less_fraction) (defScope s_is_less_fraction) .none kV2 dc2 pm2 an2 cd2 ct2), sl2⟩) (c2 : PySem.W.codeIn K cd2 "is_less_fraction" = true) (k2 : PySem.W.keepIn K (.ref f2) = true)
    (a3 : PySem.W.nsIn K mainGlobals "power_of" = some (some (.ref f3))) (l3 : K.lookup f3 = some ⟨oc3, od3, .func (PySem.W.fnOf "power_of" "power_of" (defArgs s_power_of) (defBody s_power_of) (defScope s_power_of) .none kV3 dc3 pm3 an3 cd3 ct3), sl3⟩) (c3 : PySem.W.codeIn K cd3 "power_of" = true) (k3 : PySem.W.keepIn K (.ref f3) = true)
    (a4 : PySem.W.nsIn K mainGlobals "product_to" = some (some (.ref f4))) (l4 : K.lookup f4 = some ⟨oc4, od4, .func (PySem.W.fnOf "product_to" "product_to" (defArgs s_product_to) (defBody s_product_to) (defScope s_product_to) .none kV4 dc4 pm4 an4 cd4 ct4), sl4⟩) (c4 : PySem.W.codeIn K cd4 "product_to" = true) (k4 : PySem.W.keepIn K (.ref f4) = true)
    (a5 : PySem.W.nsIn K mainGlobals "falls_number" = some (some (.ref f5))) (l5 : K.lookup f5 = some ⟨oc5, od5, .func (PySem.W.fnOf "falls_number" "falls_number" (defArgs s_falls_number) (defBody s_falls_number) (defScope s_falls_number) .none kV5 dc5 pm5 an5 cd5 ct5), sl5⟩) (c5 : PySem.W.codeIn K cd5 "falls_number" = true) (k5 : PySem.W.keepIn K (.ref f5) = true)
    (a6 : PySem.W.nsIn K mainGlobals "dealt_by" = some (some (.ref f6))) (l6 : K.lookup f6 = some ⟨oc6, od6, .func (PySem.W.fnOf "dealt_by" "dealt_by" (defArgs s_dealt_by) (defBody s_dealt_by) (defScope s_dealt_by) .none kV6 dc6 pm6 an6 cd6 ct6), sl6⟩) (c6 : PySem.W.codeIn K cd6 "dealt_by" = true) (k6 : PySem.W.keepIn K (.ref f6) = true)
    (a7 : PySem.W.nsIn K mainGlobals "dealt_number" = some (some (.ref f7))) (l7 : K.lookup f7 = some ⟨oc7, od7, .func (PySem.W.fnOf "dealt_number" "dealt_number" (defArgs s_dealt_number) (defBody s_dealt_number) (defScope s_dealt_number) .none kV7 dc7 pm7 an7 cd7 ct7), sl7⟩) (c7 : PySem.W.codeIn K cd7 "dealt_number" = true) (k7 : PySem.W.keepIn K (.ref f7) = true)
    (a8 : PySem.W.nsIn K mainGlobals "deal_chance" = some (some (.ref f8))) (l8 : K.lookup f8 = some ⟨oc8, od8, .func (PySem.W.fnOf "deal_chance" "deal_chance" (defArgs s_deal_chance) (defBody s_deal_chance) (defScope s_deal_chance) .none kV8 dc8 pm8 an8 cd8 ct8), sl8⟩) (c8 : PySem.W.codeIn K cd8 "deal_chance" = true) (k8 : PySem.W.keepIn K (.ref f8) = true)
    (a9 : PySem.W.nsIn K mainGlobals "counts_of_falls" = some (some (.ref f9))) (l9 : K.lookup f9 = some ⟨oc9, od9, .func (PySem.W.fnOf "counts_of_falls" "counts_of_falls" (defArgs s_counts_of_falls) (defBody s_counts_of_falls) (defScope s_counts_of_falls) .none kV9 dc9 pm9 an9 cd9 ct9), sl9⟩) (c9 : PySem.W.codeIn K cd9 "counts_of_falls" = true) (k9 : PySem.W.keepIn K (.ref f9) = true)
    (a10 : PySem.W.nsIn K mainGlobals "far_from_even" = some (some (.ref f10))) (l10 : K.lookup f10 = some ⟨oc10, od10, .func (PySem.W.fnOf "far_from_even" "far_from_even" (defArgs s_far_from_even) (defBody s_far_from_even) (defScope s_far_from_even) .none kV10 dc10 pm10 an10 cd10 ct10), sl10⟩) (c10 : PySem.W.codeIn K cd10 "far_from_even" = true) (k10 : PySem.W.keepIn K (.ref f10) = true)
    (a11 : PySem.W.nsIn K mainGlobals "fewest_deals" = some (some (.ref f11))) (l11 : K.lookup f11 = some ⟨oc11, od11, .func (PySem.W.fnOf "fewest_deals" "fewest_deals" (defArgs s_fewest_deals) (defBody s_fewest_deals) (defScope s_fewest_deals) .none kV11 dc11 pm11 an11 cd11 ct11), sl11⟩) (c11 : PySem.W.codeIn K cd11 "fewest_deals" = true) (k11 : PySem.W.keepIn K (.ref f11) = true)
    (a12 : PySem.W.nsIn K mainGlobals "_law_own_bag" = some (some (.ref f12))) (l12 : K.lookup f12 = some ⟨oc12, od12, .func (PySem.W.fnOf "_law_own_bag" "_law_own_bag" (defArgs s_law_own_bag) (defBody s_law_own_bag) (defScope s_law_own_bag) .none kV12 dc12 pm12 an12 cd12 ct12), sl12⟩) (c12 : PySem.W.codeIn K cd12 "_law_own_bag" = true) (k12 : PySem.W.keepIn K (.ref f12) = true)
    (a13 : PySem.W.nsIn K mainGlobals "_law_draw" = some (some (.ref f13))) (l13 : K.lookup f13 = some ⟨oc13, od13, .func (PySem.W.fnOf "_law_draw" "_law_draw" (defArgs s_law_draw) (defBody s_law_draw) (defScope s_law_draw) .none kV13 dc13 pm13 an13 cd13 ct13), sl13⟩) (c13 : PySem.W.codeIn K cd13 "_law_draw" = true) (k13 : PySem.W.keepIn K (.ref f13) = true)
    (a14 : PySem.W.nsIn K mainGlobals "_law_pick" = some (some (.ref f14))) (l14 : K.lookup f14 = some ⟨oc14, od14, .func (PySem.W.fnOf "_law_pick" "_law_pick" (defArgs s_law_pick) (defBody s_law_pick) (defScope s_law_pick) .none kV14 dc14 pm14 an14 cd14 ct14), sl14⟩) (c14 : PySem.W.codeIn K cd14 "_law_pick" = true) (k14 : PySem.W.keepIn K (.ref f14) = true)
    (a15 : PySem.W.nsIn K mainGlobals "_law_gcd" = some (some (.ref f15))) (l15 : K.lookup f15 = some ⟨oc15, od15, .func (PySem.W.fnOf "_law_gcd" "_law_gcd" (defArgs s_law_gcd) (defBody s_law_gcd) (defScope s_law_gcd) .none kV15 dc15 pm15 an15 cd15 ct15), sl15⟩) (c15 : PySem.W.codeIn K cd15 "_law_gcd" = true) (k15 : PySem.W.keepIn K (.ref f15) = true)
    (a16 : PySem.W.nsIn K mainGlobals "_law_least" = some (some (.ref f16))) (l16 : K.lookup f16 = some ⟨oc16, od16, .func (PySem.W.fnOf "_law_least" "_law_least" (defArgs s_law_least) (defBody s_law_least) (defScope s_law_least) .none kV16 dc16 pm16 an16 cd16 ct16), sl16⟩) (c16 : PySem.W.codeIn K cd16 "_law_least" = true) (k16 : PySem.W.keepIn K (.ref f16) = true)
    (a17 : PySem.W.nsIn K mainGlobals "_law_times" = some (some (.ref f17))) (l17 : K.lookup f17 = some ⟨oc17, od17, .func (PySem.W.fnOf "_law_times" "_law_times" (defArgs s_law_times) (defBody s_law_times) (defScope s_law_times) .none kV17 dc17 pm17 an17 cd17 ct17), sl17⟩) (c17 : PySem.W.codeIn K cd17 "_law_times" = true) (k17 : PySem.W.keepIn K (.ref f17) = true)
    (a18 : PySem.W.nsIn K mainGlobals "_law_orders" = some (some (.ref f18))) (l18 : K.lookup f18 = some ⟨oc18, od18, .func (PySem.W.fnOf "_law_orders" "_law_orders" (defArgs s_law_orders) (defBody s_law_orders) (defScope s_law_orders) .none kV18 dc18 pm18 an18 cd18 ct18), sl18⟩) (c18 : PySem.W.codeIn K cd18 "_law_orders" = true) (k18 : PySem.W.keepIn K (.ref f18) = true)
    (a19 : PySem.W.nsIn K mainGlobals "_law_deals" = some (some (.ref f19))) (l19 : K.lookup f19 = some ⟨oc19, od19, .func (PySem.W.fnOf "_law_deals" "_law_deals" (defArgs s_law_deals) (defBody s_law_deals) (defScope s_law_deals) .none kV19 dc19 pm19 an19 cd19 ct19), sl19⟩) (c19 : PySem.W.codeIn K cd19 "_law_deals" = true) (k19 : PySem.W.keepIn K (.ref f19) = true)
    (a20 : PySem.W.nsIn K mainGlobals "_law_falls_row" = some (some (.ref f20))) (l20 : K.lookup f20 = some ⟨oc20, od20, .func (PySem.W.fnOf "_law_falls_row" "_law_falls_row" (defArgs s_law_falls_row) (defBody s_law_falls_row) (defScope s_law_falls_row) .none kV20 dc20 pm20 an20 cd20 ct20), sl20⟩) (c20 : PySem.W.codeIn K cd20 "_law_falls_row" = true) (k20 : PySem.W.keepIn K (.ref f20) = true)
    (a21 : PySem.W.nsIn K mainGlobals "_law_far" = some (some (.ref f21))) (l21 : K.lookup f21 = some ⟨oc21, od21, .func (PySem.W.fnOf "_law_far" "_law_far" (defArgs s_law_far) (defBody s_law_far) (defScope s_law_far) .none kV21 dc21 pm21 an21 cd21 ct21), sl21⟩) (c21 : PySem.W.codeIn K cd21 "_law_far" = true) (k21 : PySem.W.keepIn K (.ref f21) = true)
    (a22 : PySem.W.nsIn K mainGlobals "_law_order" = some (some (.ref f22))) (l22 : K.lookup f22 = some ⟨oc22, od22, .func (PySem.W.fnOf "_law_order" "_law_order" (defArgs s_law_order) (defBody s_law_order) (defScope s_law_order) .none kV22 dc22 pm22 an22 cd22 ct22), sl22⟩) (c22 : PySem.W.codeIn K cd22 "_law_order" = true) (k22 : PySem.W.keepIn K (.ref f22) = true)
    (a23 : PySem.W.nsIn K mainGlobals "_law_piles" = some (some (.ref f23))) (l23 : K.lookup f23 = some ⟨oc23, od23, .func (PySem.W.fnOf "_law_piles" "_law_piles" (defArgs s_law_piles) (defBody s_law_piles) (defScope s_law_piles) .none kV23 dc23 pm23 an23 cd23 ct23), sl23⟩) (c23 : PySem.W.codeIn K cd23 "_law_piles" = true) (k23 : PySem.W.keepIn K (.ref f23) = true)
    (a24 : PySem.W.nsIn K mainGlobals "_law_cards" = some (some (.ref f24))) (l24 : K.lookup f24 = some ⟨oc24, od24, .func (PySem.W.fnOf "_law_cards" "_law_cards" (defArgs s_law_cards) (defBody s_law_cards) (defScope s_law_cards) .none kV24 dc24 pm24 an24 cd24 ct24), sl24⟩) (c24 : PySem.W.codeIn K cd24 "_law_cards" = true) (k24 : PySem.W.keepIn K (.ref f24) = true)
    (a25 : PySem.W.nsIn K mainGlobals "_law_are_chances_right" = some (some (.ref f25))) (l25 : K.lookup f25 = some ⟨oc25, od25, .func (PySem.W.fnOf "_law_are_chances_right" "_law_are_chances_right" (defArgs s_law_are_chances_right) (defBody s_law_are_chances_right) (defScope s_law_are_chances_right) .none kV25 dc25 pm25 an25 cd25 ct25), sl25⟩) (c25 : PySem.W.codeIn K cd25 "_law_are_chances_right" = true) (k25 : PySem.W.keepIn K (.ref f25) = true)
    (a26 : PySem.W.nsIn K mainGlobals "_law_are_deals_right" = some (some (.ref f26))) (l26 : K.lookup f26 = some ⟨oc26, od26, .func (PySem.W.fnOf "_law_are_deals_right" "_law_are_deals_right" (defArgs s_law_are_deals_right) (defBody s_law_are_deals_right) (defScope s_law_are_deals_right) .none kV26 dc26 pm26 an26 cd26 ct26), sl26⟩) (c26 : PySem.W.codeIn K cd26 "_law_are_deals_right" = true) (k26 : PySem.W.keepIn K (.ref f26) = true)
    (a27 : PySem.W.nsIn K mainGlobals "_law_are_fars_right" = some (some (.ref f27))) (l27 : K.lookup f27 = some ⟨oc27, od27, .func (PySem.W.fnOf "_law_are_fars_right" "_law_are_fars_right" (defArgs s_law_are_fars_right) (defBody s_law_are_fars_right) (defScope s_law_are_fars_right) .none kV27 dc27 pm27 an27 cd27 ct27), sl27⟩) (c27 : PySem.W.codeIn K cd27 "_law_are_fars_right" = true) (k27 : PySem.W.keepIn K (.ref f27) = true)
    (a28 : PySem.W.nsIn K mainGlobals "_law_due_deals" = some (some (.ref f28))) (l28 : K.lookup f28 = some ⟨oc28, od28, .func (PySem.W.fnOf "_law_due_deals" "_law_due_deals" (defArgs s_law_due_deals) (defBody s_law_due_deals) (defScope s_law_due_deals) .none kV28 dc28 pm28 an28 cd28 ct28), sl28⟩) (c28 : PySem.W.codeIn K cd28 "_law_due_deals" = true) (k28 : PySem.W.keepIn K (.ref f28) = true)
    (a29 : PySem.W.nsIn K mainGlobals "_law_is_fewest" = some (some (.ref f29))) (l29 : K.lookup f29 = some ⟨oc29, od29, .func (PySem.W.fnOf "_law_is_fewest" "_law_is_fewest" (defArgs s_law_is_fewest) (defBody s_law_is_fewest) (defScope s_law_is_fewest) .none kV29 dc29 pm29 an29 cd29 ct29), sl29⟩) (c29 : PySem.W.codeIn K cd29 "_law_is_fewest" = true) (k29 : PySem.W.keepIn K (.ref f29) = true)
    (a30 : PySem.W.nsIn K mainGlobals "_law_near" = some (some (.ref f30))) (l30 : K.lookup f30 = some ⟨oc30, od30, .func (PySem.W.fnOf "_law_near" "_law_near" (defArgs s_law_near) (defBody s_law_near) (defScope s_law_near) .none kV30 dc30 pm30 an30 cd30 ct30), sl30⟩) (c30 : PySem.W.codeIn K cd30 "_law_near" = true) (k30 : PySem.W.keepIn K (.ref f30) = true)
    (a31 : PySem.W.nsIn K mainGlobals "_law_are_fewest_right" = some (some (.ref f31))) (l31 : K.lookup f31 = some ⟨oc31, od31, .func (PySem.W.fnOf "_law_are_fewest_right" "_law_are_fewest_right" (defArgs s_law_are_fewest_right) (defBody s_law_are_fewest_right) (defScope s_law_are_fewest_right) .none kV31 dc31 pm31 an31 cd31 ct31), sl31⟩) (c31 : PySem.W.codeIn K cd31 "_law_are_fewest_right" = true) (k31 : PySem.W.keepIn K (.ref f31) = true)
    (a32 : PySem.W.nsIn K mainGlobals "_law_are_ends_right" = some (some (.ref f32))) (l32 : K.lookup f32 = some ⟨oc32, od32, .func (PySem.W.fnOf "_law_are_ends_right" "_law_are_ends_right" (defArgs s_law_are_ends_right) (defBody s_law_are_ends_right) (defScope s_law_are_ends_right) .none kV32 dc32 pm32 an32 cd32 ct32), sl32⟩) (c32 : PySem.W.codeIn K cd32 "_law_are_ends_right" = true) (k32 : PySem.W.keepIn K (.ref f32) = true)
    (a33 : PySem.W.nsIn K mainGlobals "law" = some (some (.ref f33))) (l33 : K.lookup f33 = some ⟨oc33, od33, .func (PySem.W.fnOf "law" "law" (defArgs s_law) (defBody s_law) (defScope s_law) .none kV33 dc33 pm33 an33 cd33 ct33), sl33⟩) (c33 : PySem.W.codeIn K cd33 "law" = true) (k33 : PySem.W.keepIn K (.ref f33) = true)
    (z0 : PySem.W.nsIn K mainGlobals "abs" = some none)
    (z1 : PySem.W.nsIn K mainGlobals "range" = some none)
    (z2 : PySem.W.nsIn K mainGlobals "len" = some none)
    (z3 : PySem.W.nsIn K mainGlobals "list" = some none)
    (z4 : PySem.W.nsIn K mainGlobals "enumerate" = some none)
    (z5 : PySem.W.nsIn K mainGlobals "int" = some none)
    (z6 : PySem.W.nsIn K mainGlobals "reversed" = some none)
    (z7 : PySem.W.nsIn K mainGlobals "sum" = some none)
    (z8 : PySem.W.nsIn K mainGlobals "max" = some none)
    (z9 : PySem.W.nsIn K mainGlobals "tuple" = some none)
    (z10 : PySem.W.nsIn K mainGlobals "repr" = some none)
    (z11 : PySem.W.nsIn K mainGlobals "min" = some none)
    (y0 : PySem.W.nsIn K mainGlobals "MAX_DEALS" = some (some (.int 20 t0)))
    : ∃ fd : FuncData, (∀ (s : Shared) (v : Value), BindsTo s fd ⟨[v], []⟩ [("script", v)]) ∧ ∀ base : Heap, K.In base → base.Ns mainGlobals mg → base.NoSeer → GOk l.prog w K mg base 48 fa fd ["script"] (spLaw K) := by
  have e := hfa.symm.trans (PySem.W.mg_of X G a33)
  cases e
  have F0 := fun_mk (st := s_common_measure) l0 c0 k0
  have F1 := fun_mk (st := s_fraction_of) l1 c1 k1
  have F2 := fun_mk (st := s_is_less_fraction) l2 c2 k2
  have F3 := fun_mk (st := s_power_of) l3 c3 k3
  have F4 := fun_mk (st := s_product_to) l4 c4 k4
  have F5 := fun_mk (st := s_falls_number) l5 c5 k5
  have F6 := fun_mk (st := s_dealt_by) l6 c6 k6
  have F7 := fun_mk (st := s_dealt_number) l7 c7 k7
  have F8 := fun_mk (st := s_deal_chance) l8 c8 k8
  have F9 := fun_mk (st := s_counts_of_falls) l9 c9 k9
  have F10 := fun_mk (st := s_far_from_even) l10 c10 k10
  have F11 := fun_mk (st := s_fewest_deals) l11 c11 k11
  have F12 := fun_mk (st := s_law_own_bag) l12 c12 k12
  have F13 := fun_mk (st := s_law_draw) l13 c13 k13
  have F14 := fun_mk (st := s_law_pick) l14 c14 k14
  have F15 := fun_mk (st := s_law_gcd) l15 c15 k15
  have F16 := fun_mk (st := s_law_least) l16 c16 k16
  have F17 := fun_mk (st := s_law_times) l17 c17 k17
  have F18 := fun_mk (st := s_law_orders) l18 c18 k18
  have F19 := fun_mk (st := s_law_deals) l19 c19 k19
  have F20 := fun_mk (st := s_law_falls_row) l20 c20 k20
  have F21 := fun_mk (st := s_law_far) l21 c21 k21
  have F22 := fun_mk (st := s_law_order) l22 c22 k22
  have F23 := fun_mk (st := s_law_piles) l23 c23 k23
  have F24 := fun_mk (st := s_law_cards) l24 c24 k24
  have F25 := fun_mk (st := s_law_are_chances_right) l25 c25 k25
  have F26 := fun_mk (st := s_law_are_deals_right) l26 c26 k26
  have F27 := fun_mk (st := s_law_are_fars_right) l27 c27 k27
  have F28 := fun_mk (st := s_law_due_deals) l28 c28 k28
  have F29 := fun_mk (st := s_law_is_fewest) l29 c29 k29
  have F30 := fun_mk (st := s_law_near) l30 c30 k30
  have F31 := fun_mk (st := s_law_are_fewest_right) l31 c31 k31
  have F32 := fun_mk (st := s_law_are_ends_right) l32 c32 k32
  have F33 := fun_mk (st := s_law) l33 c33 k33
  have b0 := F0.binds (ps := ["one", "other"]) fun _ _ _ _ _ _ us hl => match us, hl with | [_, _], _ => rfl
  have b1 := F1.binds (ps := ["top", "bottom"]) fun _ _ _ _ _ _ us hl => match us, hl with | [_, _], _ => rfl
  have b2 := F2.binds (ps := ["one", "other"]) fun _ _ _ _ _ _ us hl => match us, hl with | [_, _], _ => rfl
  have b3 := F3.binds (ps := ["number", "times"]) fun _ _ _ _ _ _ us hl => match us, hl with | [_, _], _ => rfl
  have b4 := F4.binds (ps := ["many"]) fun _ _ _ _ _ _ us hl => match us, hl with | [_], _ => rfl
  have b5 := F5.binds (ps := ["order"]) fun _ _ _ _ _ _ us hl => match us, hl with | [_], _ => rfl
  have b6 := F6.binds (ps := ["t", "n", "d"]) fun _ _ _ _ _ _ us hl => match us, hl with | [_, _, _], _ => rfl
  have b7 := F7.binds (ps := ["t", "order"]) fun _ _ _ _ _ _ us hl => match us, hl with | [_, _], _ => rfl
  have b8 := F8.binds (ps := ["piles", "order"]) fun _ _ _ _ _ _ us hl => match us, hl with | [_, _], _ => rfl
  have b9 := F9.binds (ps := ["n"]) fun _ _ _ _ _ _ us hl => match us, hl with | [_], _ => rfl
  have b10 := F10.binds (ps := ["n", "piles"]) fun _ _ _ _ _ _ us hl => match us, hl with | [_, _], _ => rfl
  have b11 := F11.binds (ps := ["n", "piles", "share"]) fun _ _ _ _ _ _ us hl => match us, hl with | [_, _, _], _ => rfl
  have b12 := F12.binds (ps := ["script"]) fun _ _ _ _ _ _ us hl => match us, hl with | [_], _ => rfl
  have b13 := F13.binds (ps := ["bag", "below"]) fun _ _ _ _ _ _ us hl => match us, hl with | [_, _], _ => rfl
  have b14 := F14.binds (ps := ["bag", "some"]) fun _ _ _ _ _ _ us hl => match us, hl with | [_, _], _ => rfl
  have b15 := F15.binds (ps := ["one", "other"]) fun _ _ _ _ _ _ us hl => match us, hl with | [_, _], _ => rfl
  have b16 := F16.binds (ps := ["top", "low"]) fun _ _ _ _ _ _ us hl => match us, hl with | [_, _], _ => rfl
  have b17 := F17.binds (ps := ["one", "many"]) fun _ _ _ _ _ _ us hl => match us, hl with | [_, _], _ => rfl
  have b18 := F18.binds (ps := ["most"]) fun _ _ _ _ _ _ us hl => match us, hl with | [_], _ => rfl
  have b19 := F19.binds (ps := ["counts", "n", "piles"]) fun _ _ _ _ _ _ us hl => match us, hl with | [_, _, _], _ => rfl
  have b20 := F20.binds (ps := ["n"]) fun _ _ _ _ _ _ us hl => match us, hl with | [_], _ => rfl
  have b21 := F21.binds (ps := ["n", "piles", "row"]) fun _ _ _ _ _ _ us hl => match us, hl with | [_, _, _], _ => rfl
  have b22 := F22.binds (ps := ["bag", "n"]) fun _ _ _ _ _ _ us hl => match us, hl with | [_, _], _ => rfl
  have b23 := F23.binds (ps := ["bag", "near"]) fun _ _ _ _ _ _ us hl => match us, hl with | [_, _], _ => rfl
  have b24 := F24.binds (ps := ["bag"]) fun _ _ _ _ _ _ us hl => match us, hl with | [_], _ => rfl
  have b25 := F25.binds (ps := ["bag"]) fun _ _ _ _ _ _ us hl => match us, hl with | [_], _ => rfl
  have b26 := F26.binds (ps := ["bag"]) fun _ _ _ _ _ _ us hl => match us, hl with | [_], _ => rfl
  have b27 := F27.binds (ps := ["bag"]) fun _ _ _ _ _ _ us hl => match us, hl with | [_], _ => rfl
  have b28 := F28.binds (ps := ["n", "piles", "share"]) fun _ _ _ _ _ _ us hl => match us, hl with | [_, _, _], _ => rfl
  have b29 := F29.binds (ps := ["bag", "n", "piles", "share"]) fun _ _ _ _ _ _ us hl => match us, hl with | [_, _, _, _], _ => rfl
  have b30 := F30.binds (ps := ["bag", "n", "piles", "deals"]) fun _ _ _ _ _ _ us hl => match us, hl with | [_, _, _, _], _ => rfl
  have b31 := F31.binds (ps := ["bag"]) fun _ _ _ _ _ _ us hl => match us, hl with | [_], _ => rfl
  have b32 := F32.binds (ps := ["bag"]) fun _ _ _ _ _ _ us hl => match us, hl with | [_], _ => rfl
  have b33 := F33.binds (ps := ["script"]) fun _ _ _ _ _ _ us hl => match us, hl with | [_], _ => rfl
  refine ⟨PySem.W.fnOf "law" "law" (defArgs s_law) (defBody s_law) (defScope s_law) .none kV33 dc33 pm33 an33 cd33 ct33, fun s v => .of_eq rfl, fun base _ _ hN => ?_⟩
  have T : Bt l.prog mg base := ⟨PySem.W.mg_none_of X G z0, PySem.W.mg_none_of X G z1, PySem.W.mg_none_of X G z2, PySem.W.mg_none_of X G z3, PySem.W.mg_none_of X G z4, PySem.W.mg_none_of X G z5, PySem.W.mg_none_of X G z6, PySem.W.mg_none_of X G z7, PySem.W.mg_none_of X G z8, PySem.W.mg_none_of X G z9, PySem.W.mg_none_of X G z10, PySem.W.mg_none_of X G z11, ⟨t0, PySem.W.mg_of X G y0⟩, hN, ht⟩
  have O0 := ok_common_measure (w := w) F0 T 
  have C_common_measure := Df.mk' O0 (PySem.W.mg_of X G a0) k0 b0
  have O1 := ok_fraction_of (w := w) F1 T C_common_measure
  have C_fraction_of := Df.mk' O1 (PySem.W.mg_of X G a1) k1 b1
  have O2 := ok_is_less_fraction (w := w) F2 T 
  have C_is_less_fraction := Df.mk' O2 (PySem.W.mg_of X G a2) k2 b2
  have O3 := ok_power_of (w := w) F3 T 
  have C_power_of := Df.mk' O3 (PySem.W.mg_of X G a3) k3 b3
  have O4 := ok_product_to (w := w) F4 T 
  have C_product_to := Df.mk' O4 (PySem.W.mg_of X G a4) k4 b4
  have O5 := ok_falls_number (w := w) F5 T 
  have C_falls_number := Df.mk' O5 (PySem.W.mg_of X G a5) k5 b5
  have O6 := ok_dealt_by (w := w) F6 T C_product_to
  have C_dealt_by := Df.mk' O6 (PySem.W.mg_of X G a6) k6 b6
  have O7 := ok_dealt_number (w := w) F7 T C_dealt_by C_falls_number
  have C_dealt_number := Df.mk' O7 (PySem.W.mg_of X G a7) k7 b7
  have O8 := ok_deal_chance (w := w) F8 T C_fraction_of C_dealt_number C_power_of
  have C_deal_chance := Df.mk' O8 (PySem.W.mg_of X G a8) k8 b8
  have CK_deal_chance_order_piles : DfK l.prog w K mg base _ "deal_chance" ["piles", "order"] ["order", "piles"] (kwG 2 [1, 0]) (kwG 2 [1, 0]) _ := ⟨_, _, O8, PySem.W.mg_of X G a8, k8, kb2 rfl fun _ _ => rfl⟩
  have O9 := ok_counts_of_falls (w := w) F9 T 
  have C_counts_of_falls := Df.mk' O9 (PySem.W.mg_of X G a9) k9 b9
  have O10 := ok_far_from_even (w := w) F10 T C_fraction_of C_power_of C_product_to C_counts_of_falls C_dealt_by
  have C_far_from_even := Df.mk' O10 (PySem.W.mg_of X G a10) k10 b10
  have CK_far_from_even_piles_n : DfK l.prog w K mg base _ "far_from_even" ["n", "piles"] ["piles", "n"] (kwG 2 [1, 0]) (kwG 2 [1, 0]) _ := ⟨_, _, O10, PySem.W.mg_of X G a10, k10, kb2 rfl fun _ _ => rfl⟩
  have O11 := ok_fewest_deals (w := w) F11 T C_is_less_fraction C_far_from_even
  have C_fewest_deals := Df.mk' O11 (PySem.W.mg_of X G a11) k11 b11
  have CK_fewest_deals_share_piles_n : DfK l.prog w K mg base _ "fewest_deals" ["n", "piles", "share"] ["share", "piles", "n"] (kwG 3 [2, 1, 0]) (kwG 3 [2, 1, 0]) _ := ⟨_, _, O11, PySem.W.mg_of X G a11, k11, kb3 rfl fun _ _ _ => rfl⟩
  have O12 := ok_law_own_bag (w := w) F12 T 
  have C_law_own_bag := Df.mk' O12 (PySem.W.mg_of X G a12) k12 b12
  have O13 := ok_law_draw (w := w) F13 T 
  have C_law_draw := Df.mk' O13 (PySem.W.mg_of X G a13) k13 b13
  have O14 := ok_law_pick (w := w) F14 T C_law_draw
  have C_law_pick := Df.mk' O14 (PySem.W.mg_of X G a14) k14 b14
  have O15 := ok_law_gcd (w := w) F15 T 
  have C_law_gcd := Df.mk' O15 (PySem.W.mg_of X G a15) k15 b15
  have O16 := ok_law_least (w := w) F16 T C_law_gcd
  have C_law_least := Df.mk' O16 (PySem.W.mg_of X G a16) k16 b16
  have O17 := ok_law_times (w := w) F17 T 
  have C_law_times := Df.mk' O17 (PySem.W.mg_of X G a17) k17 b17
  have O18 := ok_law_orders (w := w) F18 T 
  have C_law_orders := Df.mk' O18 (PySem.W.mg_of X G a18) k18 b18
  have O19 := ok_law_deals (w := w) F19 T 
  have C_law_deals := Df.mk' O19 (PySem.W.mg_of X G a19) k19 b19
  have O20 := ok_law_falls_row (w := w) F20 T 
  have C_law_falls_row := Df.mk' O20 (PySem.W.mg_of X G a20) k20 b20
  have O21 := ok_law_far (w := w) F21 T C_law_times
  have C_law_far := Df.mk' O21 (PySem.W.mg_of X G a21) k21 b21
  have O22 := ok_law_order (w := w) F22 T C_law_draw
  have C_law_order := Df.mk' O22 (PySem.W.mg_of X G a22) k22 b22
  have O23 := ok_law_piles (w := w) F23 T C_law_draw C_law_pick
  have C_law_piles := Df.mk' O23 (PySem.W.mg_of X G a23) k23 b23
  have O24 := ok_law_cards (w := w) F24 T C_law_draw C_law_pick
  have C_law_cards := Df.mk' O24 (PySem.W.mg_of X G a24) k24 b24
  have O25 := ok_law_are_chances_right (w := w) F25 T C_law_order C_law_cards C_law_piles C_law_least C_law_times C_deal_chance CK_deal_chance_order_piles
  have C_law_are_chances_right := GDf.mk' O25 (PySem.W.mg_of X G a25) k25 b25
  have O26 := ok_law_are_deals_right (w := w) F26 T C_law_draw C_law_deals C_law_times C_law_orders C_far_from_even C_law_least C_deal_chance
  have C_law_are_deals_right := GDf.mk' O26 (PySem.W.mg_of X G a26) k26 b26
  have O27 := ok_law_are_fars_right (w := w) F27 T C_law_cards C_law_piles C_law_far C_law_falls_row C_law_least C_far_from_even CK_far_from_even_piles_n
  have C_law_are_fars_right := GDf.mk' O27 (PySem.W.mg_of X G a27) k27 b27
  have O28 := ok_law_due_deals (w := w) F28 T C_law_falls_row C_law_far
  have C_law_due_deals := Df.mk' O28 (PySem.W.mg_of X G a28) k28 b28
  have O29 := ok_law_is_fewest (w := w) F29 T C_law_due_deals C_fewest_deals CK_fewest_deals_share_piles_n C_law_draw
  have C_law_is_fewest := GDf.mk' O29 (PySem.W.mg_of X G a29) k29 b29
  have O30 := ok_law_near (w := w) F30 T C_law_draw C_law_far C_law_times C_law_falls_row C_law_least
  have C_law_near := Df.mk' O30 (PySem.W.mg_of X G a30) k30 b30
  have O32 := ok_law_are_ends_right (w := w) F32 T C_law_pick C_law_is_fewest C_law_draw C_law_piles C_law_least
  have C_law_are_ends_right := GDf.mk' O32 (PySem.W.mg_of X G a32) k32 b32
  have O31 := ok_law_are_fewest_right (w := w) F31 T C_law_pick C_law_times C_law_is_fewest C_law_cards C_law_draw C_law_least C_law_are_ends_right C_law_near
  have C_law_are_fewest_right := GDf.mk' O31 (PySem.W.mg_of X G a31) k31 b31
  exact ok_law F33 T C_law_own_bag C_law_are_fars_right C_law_are_fewest_right C_law_are_chances_right C_law_are_deals_right
end K80
open PySem PySem.W PyProof.Rows
set_option maxHeartbeats 0 in
theorem PySem.Challenge.cw_cutandjoin_k80_whole_main_cards_holds : PySem.Challenge.rw_cutandjoin_k80_whole_main_cards.Holds := by
  w_on; o_law; k_head; (case hw => w_witness2)
  k_fill
  refine Fz.walk_ofG (l := PySem.Challenge.rw_cutandjoin_k80_whole_main_cards) (n := 63) (k := 48) (x := "script") (sp := fun w => K80.spLaw _) rfl (by decide) rfl ⟨rfl, by decide, by decide⟩ ?him (fun w h Y => PySem.W.kIn_of Y) ?F (fun _ _ a ns hl _ hS => ⟨a, ns, rfl, hS, hl, fun _ => rfl⟩)
  case him => first | rfl | decide +kernel
  case F =>
    intro w mg fa h KX G hmg
    refine' K80.all_mk KX G hmg rfl ?a0 ?l0 ?c0 ?k0 ?a1 ?l1 ?c1 ?k1 ?a2 ?l2 ?c2 ?k2 ?a3 ?l3 ?c3 ?k3 ?a4 ?l4 ?c4 ?k4 ?a5 ?l5 ?c5 ?k5 ?a6 ?l6 ?c6 ?k6 ?a7 ?l7 ?c7 ?k7 ?a8 ?l8 ?c8 ?k8 ?a9 ?l9 ?c9 ?k9 ?a10 ?l10 ?c10 ?k10 ?a11 ?l11 ?c11 ?k11 ?a12 ?l12 ?c12 ?k12 ?a13 ?l13 ?c13 ?k13 ?a14 ?l14 ?c14 ?k14 ?a15 ?l15 ?c15 ?k15 ?a16 ?l16 ?c16 ?k16 ?a17 ?l17 ?c17 ?k17 ?a18 ?l18 ?c18 ?k18 ?a19 ?l19 ?c19 ?k19 ?a20 ?l20 ?c20 ?k20 ?a21 ?l21 ?c21 ?k21 ?a22 ?l22 ?c22 ?k22 ?a23 ?l23 ?c23 ?k23 ?a24 ?l24 ?c24 ?k24 ?a25 ?l25 ?c25 ?k25 ?a26 ?l26 ?c26 ?k26 ?a27 ?l27 ?c27 ?k27 ?a28 ?l28 ?c28 ?k28 ?a29 ?l29 ?c29 ?k29 ?a30 ?l30 ?c30 ?k30 ?a31 ?l31 ?c31 ?k31 ?a32 ?l32 ?c32 ?k32 ?a33 ?l33 ?c33 ?k33 ?z0 ?z1 ?z2 ?z3 ?z4 ?z5 ?z6 ?z7 ?z8 ?z9 ?z10 ?z11 ?y0
    (case a0 => k_is); (case l0 => k_is); (case c0 => k_is); (case k0 => k_is); (case a1 => k_is); (case l1 => k_is); (case c1 => k_is); (case k1 => k_is); (case a2 => k_is); (case l2 => k_is); (case c2 => k_is); (case k2 => k_is); (case a3 => k_is); (case l3 => k_is); (case c3 => k_is); (case k3 => k_is); (case a4 => k_is); (case l4 => k_is); (case c4 => k_is); (case k4 => k_is); (case a5 => k_is); (case l5 => k_is); (case c5 => k_is); (case k5 => k_is); (case a6 => k_is); (case l6 => k_is); (case c6 => k_is); (case k6 => k_is); (case a7 => k_is); (case l7 => k_is); (case c7 => k_is); (case k7 => k_is); (case a8 => k_is); (case l8 => k_is); (case c8 => k_is); (case k8 => k_is); (case a9 => k_is); (case l9 => k_is); (case c9 => k_is); (case k9 => k_is); (case a10 => k_is); (case l10 => k_is); (case c10 => k_is); (case k10 => k_is); (case a11 => k_is); (case l11 => k_is); (case c11 => k_is); (case k11 => k_is); (case a12 => k_is); (case l12 => k_is); (case c12 => k_is); (case k12 => k_is); (case a13 => k_is); (case l13 => k_is); (case c13 => k_is); (case k13 => k_is); (case a14 => k_is); (case l14 => k_is); (case c14 => k_is); (case k14 => k_is); (case a15 => k_is); (case l15 => k_is); (case c15 => k_is); (case k15 => k_is); (case a16 => k_is); (case l16 => k_is); (case c16 => k_is); (case k16 => k_is); (case a17 => k_is); (case l17 => k_is); (case c17 => k_is); (case k17 => k_is); (case a18 => k_is); (case l18 => k_is); (case c18 => k_is); (case k18 => k_is); (case a19 => k_is); (case l19 => k_is); (case c19 => k_is); (case k19 => k_is); (case a20 => k_is); (case l20 => k_is); (case c20 => k_is); (case k20 => k_is); (case a21 => k_is); (case l21 => k_is); (case c21 => k_is); (case k21 => k_is); (case a22 => k_is); (case l22 => k_is); (case c22 => k_is); (case k22 => k_is); (case a23 => k_is); (case l23 => k_is); (case c23 => k_is); (case k23 => k_is); (case a24 => k_is); (case l24 => k_is); (case c24 => k_is); (case k24 => k_is); (case a25 => k_is); (case l25 => k_is); (case c25 => k_is); (case k25 => k_is); (case a26 => k_is); (case l26 => k_is); (case c26 => k_is); (case k26 => k_is); (case a27 => k_is); (case l27 => k_is); (case c27 => k_is); (case k27 => k_is); (case a28 => k_is); (case l28 => k_is); (case c28 => k_is); (case k28 => k_is); (case a29 => k_is); (case l29 => k_is); (case c29 => k_is); (case k29 => k_is); (case a30 => k_is); (case l30 => k_is); (case c30 => k_is); (case k30 => k_is); (case a31 => k_is); (case l31 => k_is); (case c31 => k_is); (case k31 => k_is); (case a32 => k_is); (case l32 => k_is); (case c32 => k_is); (case k32 => k_is); (case a33 => k_is); (case l33 => k_is); (case c33 => k_is); (case k33 => k_is); (case z0 => k_is); (case z1 => k_is); (case z2 => k_is); (case z3 => k_is); (case z4 => k_is); (case z5 => k_is); (case z6 => k_is); (case z7 => k_is); (case z8 => k_is); (case z9 => k_is); (case z10 => k_is); (case z11 => k_is); (case y0 => k_is)
