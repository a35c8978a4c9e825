import PyProof.Rows.All
import Wide.All
import OpenK.AllK
import Wide.FinOn
import HandS.ForMost
import HandS.WordsExc
import HandS.Defaults
import HandS.Evl
import HandS.IsInst
import HandS.TupAny
import HandS.Style
import HandS.Walk
import HandS.Zip
import HandS.Iter
import HandS.Lambda
import HandS.Sort
import PyProof.Rows.SeqMore
import KE.SortData
import KE.DataMinMax
import HandS.DictComp
import HandS.Conv
import HandS.WideBits
import HandS.Head0
import HandS.Head1
import HandS.Head2
import HandS.Head3
import HandS.HeadEnd
import HandS.HeadHook1
import HandS.HeadHook2
import HandS.HeadHook3
import HandS.HeadHook4
import HandS.HeadWalk
import HandS.Gcd
import HandS.Codes
import PySem.Challenge.RW_behindtaps_k13_whole_one_kind_of_part_fo
import HandS.TupMul
import HandS.CallLocal
import HandS.TupLen
import HandS.ExcIs
import HandS.ExcField
import HandS.ExcInit
import HandS.FStr
import HandS.Nested
import KE.KExcIs
import KE.KExcSuper
import KE.DataEq
import HandS.ClsMeth
set_option Elab.async false
set_option linter.all false
set_option maxRecDepth 100000
set_option maxHeartbeats 4000000
namespace K13
open PySem PySem.Spec PyProof.Rows L2
open Evl (Ex fresh_back ex_l ex_t EvT)

mutual
/-- data laid in H (in no object of the text itself) -/
inductive Dp (K : PySem.W.Frag) (H : Hp) : V → PyData → Prop
  | non : Dp K H .non .none
  | bl (b : Bool) : Dp K H (.bl b) (.bool b)
  | int (i : Int) : Dp K H (.int i) (.int i)
  | str (x : Str) : Dp K H (.str x) (.str x)
  | lst {a : Addr} {xs : List V} {ds : List PyData} : H a = some (.lst xs) → DpAll K H xs ds → Dp K H (.ref a) (.list ds)
  | tup {a : Addr} {xs : List V} {ds : List PyData} : H a = some (.tup xs) → DpAll K H xs ds → Dp K H (.ref a) (.tuple ds)
inductive DpAll (K : PySem.W.Frag) (H : Hp) : List V → List PyData → Prop
  | nil : DpAll K H [] []
  | cons {v : V} {vs : List V} {d : PyData} {ds : List PyData} : Dp K H v d → DpAll K H vs ds → DpAll K H (v :: vs) (d :: ds)
end
mutual
theorem dp_to {K : PySem.W.Frag} {H : Hp} : ∀ (d : PyData) (v : V), Dp K H v d → L2.Dp K H v d
  | .none, _, h => by cases h; exact .non
  | .bool b, _, h => by cases h; exact .bl b
  | .int i, _, h => by cases h; exact .int i
  | .str x, _, h => by cases h; exact .str x
  | .list ds, _, h => by
    cases h with
    | lst hs ha => exact .lst (SqL.of hs) (dps_to ds _ ha)
  | .tuple ds, _, h => by
    cases h with
    | tup hs ha => exact .tup (SqT.of hs) (dps_to ds _ ha)
  | .dict _, _, h => by cases h
theorem dps_to {K : PySem.W.Frag} {H : Hp} : ∀ (ds : List PyData) (vs : List V), DpAll K H vs ds → L2.DpAll K H vs ds
  | [], _, h => by cases h; exact .nil
  | d :: ds, _, h => by
    cases h with
    | cons h1 h2 => exact .cons (dp_to d _ h1) (dps_to ds _ h2)
end
section
variable {K : PySem.W.Frag} {H H' : Hp}
mutual
theorem dp_mono (e : Ex H H') : ∀ (d : PyData) (v : V), Dp K H v d → Dp K H' v d
  | .none, _, h => by cases h; exact .non
  | .bool b, _, h => by cases h; exact .bl b
  | .int i, _, h => by cases h; exact .int i
  | .str x, _, h => by cases h; exact .str x
  | .list ds, _, h => by
    cases h with
    | lst hs ha => exact .lst (e _ _ hs) (dps_mono e ds _ ha)
  | .tuple ds, _, h => by
    cases h with
    | tup hs ha => exact .tup (e _ _ hs) (dps_mono e ds _ ha)
  | .dict _, _, h => by cases h
theorem dps_mono (e : Ex H H') : ∀ (ds : List PyData) (vs : List V), DpAll K H vs ds → DpAll K H' vs ds
  | [], _, h => by cases h; exact .nil
  | d :: ds, _, h => by
    cases h with
    | cons h1 h2 => exact .cons (dp_mono e d _ h1) (dps_mono e ds _ h2)
end
theorem dp_none {v : V} (h : Dp K H v .none) : v = .non := by cases h; rfl
theorem dp_bool {v : V} {b : Bool} (h : Dp K H v (.bool b)) : v = .bl b := by cases h; rfl
theorem dp_int {v : V} {i : Int} (h : Dp K H v (.int i)) : v = .int i := by cases h; rfl
theorem dp_str {v : V} {x : Str} (h : Dp K H v (.str x)) : v = .str x := by cases h; rfl
theorem dp_tup {v : V} {ds : List PyData} (h : Dp K H v (.tuple ds)) : ∃ a xs, v = .ref a ∧ SqT K H a xs ∧ DpAll K H xs ds := by
  cases h with
  | tup hs ha => exact ⟨_, _, rfl, SqT.of hs, ha⟩
theorem dp_lst {v : V} {ds : List PyData} (h : Dp K H v (.list ds)) : ∃ a xs, v = .ref a ∧ SqL K H a xs ∧ DpAll K H xs ds := by
  cases h with
  | lst hs ha => exact ⟨_, _, rfl, SqL.of hs, ha⟩
theorem dp_tupH {v : V} {ds : List PyData} (h : Dp K H v (.tuple ds)) : ∃ a xs, v = .ref a ∧ H a = some (.tup xs) ∧ DpAll K H xs ds := by
  cases h with
  | tup hs ha => exact ⟨_, _, rfl, hs, ha⟩
theorem dp_lstH {v : V} {ds : List PyData} (h : Dp K H v (.list ds)) : ∃ a xs, v = .ref a ∧ H a = some (.lst xs) ∧ DpAll K H xs ds := by
  cases h with
  | lst hs ha => exact ⟨_, _, rfl, hs, ha⟩
theorem dps_len : ∀ {ds : List PyData} {vs : List V}, DpAll K H vs ds → vs.length = ds.length
  | [], _, h => by cases h; rfl
  | d :: ds, _, h => by
    cases h with
    | cons h1 h2 => simp [dps_len h2]
theorem dps_at : ∀ {ds : List PyData} {vs : List V} {i : Nat} {d : PyData}, DpAll K H vs ds → ds[i]? = some d → ∃ v, vs[i]? = some v ∧ Dp K H v d
  | [], _, _, _, h, e => by simp at e
  | d :: ds, _, 0, _, h, e => by
    cases h with
    | cons h1 h2 => simp at e; subst e; exact ⟨_, rfl, h1⟩
  | d :: ds, _, i + 1, _, h, e => by
    cases h with
    | cons h1 h2 =>
      obtain ⟨v, e1, e2⟩ := dps_at (i := i) h2 (by simpa using e)
      exact ⟨v, by simpa using e1, e2⟩
theorem dps_at' : ∀ {ds : List PyData} {vs : List V} {i : Nat} {v : V}, DpAll K H vs ds → vs[i]? = some v → ∃ d, ds[i]? = some d ∧ Dp K H v d
  | [], _, _, _, h, e => by cases h; simp at e
  | d :: ds, _, 0, _, h, e => by
    cases h with
    | cons h1 h2 => simp at e; subst e; exact ⟨_, rfl, h1⟩
  | d :: ds, _, i + 1, _, h, e => by
    cases h with
    | cons h1 h2 =>
      obtain ⟨v, e1, e2⟩ := dps_at' (i := i) h2 (by simpa using e)
      exact ⟨v, by simpa using e1, e2⟩
theorem dps_atI {ds : List PyData} {vs : List V} {i : Int} {d : PyData} (h : DpAll K H vs ds) (e : atI ds i = some d) : ∃ v, atI vs i = some v ∧ Dp K H v d := by
  unfold atI at e ⊢
  rw [dps_len h]
  cases q : ixN ds.length i with
  | none => rw [q] at e; cases e
  | some j => rw [q] at e; exact dps_at h e
theorem dps_app : ∀ {ds es : List PyData} {vs us : List V}, DpAll K H vs ds → DpAll K H us es → DpAll K H (vs ++ us) (ds ++ es)
  | [], _, _, _, h, k => by cases h; exact k
  | d :: ds, _, _, _, h, k => by
    cases h with
    | cons h1 h2 => exact .cons h1 (dps_app h2 k)
theorem dps_take : ∀ {ds : List PyData} {vs : List V} (n : Nat), DpAll K H vs ds → DpAll K H (vs.take n) (ds.take n)
  | _, _, 0, _ => by simp; exact .nil
  | [], _, n + 1, h => by cases h; simp; exact .nil
  | d :: ds, _, n + 1, h => by
    cases h with
    | cons h1 h2 => simpa using DpAll.cons h1 (dps_take n h2)
theorem dps_drop : ∀ {ds : List PyData} {vs : List V} (n : Nat), DpAll K H vs ds → DpAll K H (vs.drop n) (ds.drop n)
  | _, _, 0, h => by simpa using h
  | [], _, n + 1, h => by cases h; simp; exact .nil
  | d :: ds, _, n + 1, h => by
    cases h with
    | cons h1 h2 => simpa using dps_drop n h2
theorem dps_strs : ∀ {xs : List Str} {vs : List V}, DpAll K H vs (xs.map PyData.str) → vs = xs.map V.str
  | [], _, h => by cases h; rfl
  | x :: xs, _, h => by
    cases h with
    | cons h1 h2 => rw [dp_str h1, dps_strs h2]; rfl
theorem strs_dps : ∀ (xs : List Str), DpAll K H (xs.map V.str) (xs.map PyData.str)
  | [] => .nil
  | x :: xs => .cons (.str x) (strs_dps xs)
theorem dps_ints : ∀ {xs : List Int} {vs : List V}, DpAll K H vs (xs.map PyData.int) → vs = xs.map V.int
  | [], _, h => by cases h; rfl
  | x :: xs, _, h => by
    cases h with
    | cons h1 h2 => rw [dp_int h1, dps_ints h2]; rfl
theorem ints_dps : ∀ (xs : List Int), DpAll K H (xs.map V.int) (xs.map PyData.int)
  | [] => .nil
  | x :: xs => .cons (.int x) (ints_dps xs)
theorem dps_bls : ∀ {xs : List Bool} {vs : List V}, DpAll K H vs (xs.map PyData.bool) → vs = xs.map V.bl
  | [], _, h => by cases h; rfl
  | x :: xs, _, h => by
    cases h with
    | cons h1 h2 => rw [dp_bool h1, dps_bls h2]; rfl
end

/-- what a name holds: data, or the object at an address -/
inductive GV where
  | d (x : PyData)
  | r (a : Addr)
  | k (φ : PySem.W.Frag → Hp → V → Prop) (m : ∀ K H H' v, Ex H H' → φ K H v → φ K H' v)
def Wd (K : PySem.W.Frag) (H : Hp) (v : V) : GV → Prop
  | .d x => Dp K H v x
  | .r a => v = .ref a
  | .k φ _ => φ K H v
theorem wd_mono {K : PySem.W.Frag} {H H' : Hp} (e : Ex H H') : ∀ (g : GV) {v : V}, Wd K H v g → Wd K H' v g
  | .d x, v, h => dp_mono e x v h
  | .r _, _, h => h
  | .k _ m, v, h => m _ _ _ v e h
abbrev Gm := List (Option GV)
/-- each name that Gm tells holds its data -/
def En0 (K : PySem.W.Frag) (G : Gm) (σ : L2.St) (H : Hp) : Prop := G.length = σ.length ∧ ∀ (i : Nat) (d : GV), (G : List (Option GV))[i]? = some (some d) → ∃ v, σ[i]? = some (some v) ∧ Wd K H v d
def wipeG (G : Gm) : List Nat → Gm
  | [] => G
  | v :: vs => (wipeG G vs).set v none
section
variable {K : PySem.W.Frag} {G : Gm} {σ : L2.St} {H H' : Hp}
theorem En0.mono (e : Ex H H') (h : En0 K G σ H) : En0 K G σ H' := ⟨h.1, fun i d q => by
  obtain ⟨v, a, b⟩ := h.2 i d q
  exact ⟨v, a, wd_mono e d b⟩⟩
theorem En0.setW {j : Nat} {v : V} {d : GV} (h : En0 K G σ H) (k : Wd K H v d) : En0 K (G.set j (some d)) (σ.set j (some v)) H := by
  refine ⟨by simp [h.1], fun i d' q => ?_⟩
  by_cases e : j = i
  · subst e
    by_cases hl : j < G.length
    · rw [List.getElem?_set_self hl] at q
      cases q
      exact ⟨v, List.getElem?_set_self (by rw [← h.1]; exact hl), k⟩
    · rw [List.getElem?_eq_none (by simpa using hl)] at q
      cases q
  · rw [List.getElem?_set_ne e] at q
    rw [List.getElem?_set_ne e]
    exact h.2 i d' q
theorem En0.set {j : Nat} {v : V} {d : PyData} (h : En0 K G σ H) (k : Dp K H v d) : En0 K (G.set j (some (.d d))) (σ.set j (some v)) H := h.setW (d := .d d) k
theorem En0.clear {j : Nat} {o : Option V} (h : En0 K G σ H) : En0 K (G.set j none) (σ.set j o) H := by
  refine ⟨by simp [h.1], fun i d' q => ?_⟩
  by_cases e : j = i
  · subst e
    by_cases hl : j < G.length
    · rw [List.getElem?_set_self hl] at q
      cases q
    · rw [List.getElem?_eq_none (by simpa using hl)] at q
      cases q
  · rw [List.getElem?_set_ne e] at q
    rw [List.getElem?_set_ne e]
    exact h.2 i d' q
theorem En0.wipe (h : En0 K G σ H) : ∀ vs : List Nat, En0 K (wipeG G vs) (wipe σ vs) H
  | [] => h
  | v :: vs => by
    show En0 K ((wipeG G vs).set v none) ((L2.wipe σ vs).set v none) H
    exact (En0.wipe h vs).clear
inductive WdAll (K : PySem.W.Frag) (H : Hp) : List V → List GV → Prop
  | nil : WdAll K H [] []
  | cons {v : V} {g : GV} {vs : List V} {gs : List GV} : Wd K H v g → WdAll K H vs gs → WdAll K H (v :: vs) (g :: gs)
theorem wds_len : ∀ {gs : List GV} {vs : List V}, WdAll K H vs gs → vs.length = gs.length
  | [], _, h => by cases h; rfl
  | d :: ds, _, h => by
    cases h with
    | cons h1 h2 => simp [wds_len h2]
theorem wds_mono (e : Ex H H') : ∀ {gs : List GV} {vs : List V}, WdAll K H vs gs → WdAll K H' vs gs
  | [], _, h => by cases h; exact .nil
  | g :: gs, _, h => by
    cases h with
    | cons h1 h2 => exact .cons (wd_mono e g h1) (wds_mono e h2)
theorem wds_at : ∀ {ds : List GV} {vs : List V} {i : Nat} {d : GV}, WdAll K H vs ds → ds[i]? = some d → ∃ v, vs[i]? = some v ∧ Wd K H v d
  | [], _, _, _, h, e => by simp at e
  | d :: ds, _, 0, _, h, e => by
    cases h with
    | cons h1 h2 => simp at e; subst e; exact ⟨_, rfl, h1⟩
  | d :: ds, _, i + 1, _, h, e => by
    cases h with
    | cons h1 h2 =>
      obtain ⟨v, e1, e2⟩ := wds_at (i := i) h2 (by simpa using e)
      exact ⟨v, by simpa using e1, e2⟩
theorem wds_of : ∀ {ds : List PyData} {vs : List V}, DpAll K H vs ds → WdAll K H vs (ds.map .d)
  | [], _, h => by cases h; exact .nil
  | d :: ds, _, h => by
    cases h with
    | cons h1 h2 => exact .cons h1 (wds_of h2)
theorem dps_of_wds : ∀ {ds : List PyData} {vs : List V}, WdAll K H vs (ds.map .d) → DpAll K H vs ds
  | [], _, h => by cases h; exact .nil
  | d :: ds, _, h => by
    cases h with
    | cons h1 h2 => exact .cons h1 (dps_of_wds h2)
theorem En0.startW {N : List Str} {vs : List V} {ds : List GV} (h : WdAll K H vs ds) (hl : ds.length ≤ N.length) : En0 K (ds.map some ++ List.replicate (N.length - ds.length) none) (L2.start N vs) H := by
  have l := wds_len h
  refine ⟨by simp [L2.start, l], fun i d q => ?_⟩
  by_cases hi : i < ds.length
  · rw [List.getElem?_append_left (by simpa using hi), List.getElem?_map] at q
    cases e : ds[i]? with
    | none => rw [e] at q; cases q
    | some d' =>
      rw [e] at q
      have q' : d' = d := Option.some.inj (Option.some.inj q)
      obtain ⟨v, a, b⟩ := wds_at h e
      refine ⟨v, ?_, q' ▸ b⟩
      unfold L2.start
      rw [List.getElem?_append_left (by simp; omega), List.getElem?_map, a]
      rfl
  · rw [List.getElem?_append_right (by simpa using hi), List.getElem?_replicate] at q
    split at q <;> cases q
theorem En0.start {N : List Str} {vs : List V} {ds : List PyData} (h : DpAll K H vs ds) (hl : ds.length ≤ N.length) : En0 K (ds.map (fun d => some (GV.d d)) ++ List.replicate (N.length - ds.length) none) (L2.start N vs) H := by
  have := En0.startW (wds_of h) (by simpa using hl)
  simpa [List.map_map, Function.comp_def] using this
/-- a block's own names, told anew by a turn: what is wiped is wiped again -/
theorem wipe_at (σ : L2.St) : ∀ (vs : List Nat) (i : Nat), (wipe σ vs)[i]? = if i ∈ vs then (if i < σ.length then some none else none) else σ[i]?
  | [], i => by simp [wipe]
  | v :: vs, i => by
    show ((wipe σ vs).set v none)[i]? = _
    by_cases e : v = i
    · subst e
      by_cases hl : v < σ.length
      · rw [List.getElem?_set_self (by rw [wipe_length]; exact hl)]
        simp [hl]
      · rw [List.getElem?_eq_none (by simp [wipe_length]; omega)]
        simp [hl]
    · rw [List.getElem?_set_ne e, wipe_at σ vs i]
      simp [Ne.symm e]
theorem wipe_again {σ τ : L2.St} {vs : List Nat} (hl : τ.length = σ.length) (h : ∀ i, i ∉ vs → τ[i]? = σ[i]?) : wipe τ vs = wipe σ vs := by
  refine List.ext_getElem? fun i => ?_
  rw [wipe_at, wipe_at]
  by_cases e : i ∈ vs
  · simp [e, hl]
  · simp [e, h i e]
theorem wipe_set {σ : L2.St} {vs : List Nat} {j : Nat} {o : Option V} (hj : j ∈ vs) : wipe ((wipe σ vs).set j o) vs = wipe σ vs := by
  refine wipe_again (by simp [wipe_length]) fun i hi => ?_
  rw [List.getElem?_set_ne (fun e => hi (by rw [← e]; exact hj)), wipe_at]
  simp [hi]
theorem wipe_set2 {σ : L2.St} {vs : List Nat} {j k : Nat} {o p : Option V} (hj : j ∈ vs) (hk : k ∈ vs) : wipe (((wipe σ vs).set j o).set k p) vs = wipe σ vs := by
  refine wipe_again (by simp [wipe_length]) fun i hi => ?_
  rw [List.getElem?_set_ne (fun e => hi (by rw [← e]; exact hk)), List.getElem?_set_ne (fun e => hi (by rw [← e]; exact hj)), wipe_at]
  simp [hi]
end

structure Nw (N H N' H' : Hp) : Prop where
  a : Ex N N'
  b : Ex N' H'
  c : Ex H H'
  d : ∀ x o, N x = none → H x = some o → N' x = none
  n : ∀ x ps, N' x = some (.tbl ps) → N x = some (.tbl ps)
section
variable {N H N1 H1 N2 H2 : Hp}
theorem Nw.refl (e : Ex N H) : Nw N H N H := ⟨Ex.refl N, e, Ex.refl H, fun _ _ h _ => h, fun _ _ h => h⟩
theorem Nw.trans (p : Nw N H N1 H1) (q : Nw N1 H1 N2 H2) : Nw N H N2 H2 := ⟨p.a.trans q.a, q.b, p.c.trans q.c, fun x o h1 h2 => q.d x o (p.d x o h1 h2) (p.c x o h2), fun x ps h => p.n x ps (q.n x ps h)⟩
theorem Nw.new {p : Addr} {o : HO} (e : Ex N H) (h : H p = none) (no : ∀ ps, o ≠ .tbl ps := by (intro _ z; cases z)) : Nw N H (upd N p o) (upd H p o) := by
  have hn : N p = none := fresh_back e h
  refine ⟨Ex.new hn, fun x u q => ?_, Ex.new h, fun x u q1 q2 => ?_, fun x ps q => ?_⟩
  · by_cases hx : x = p
    · subst hx
      rw [upd_same] at q ⊢
      exact q
    · rw [upd_ne hx] at q ⊢
      exact e x u q
  · have hx : x ≠ p := ne_of_none q2 h
    rw [upd_ne hx]
    exact q1
  · by_cases hx : x = p
    · rw [hx, upd_same] at q
      exact absurd (Option.some.inj q) (no ps)
    · rw [upd_ne hx] at q
      exact q
end

inductive MO where
  | lst (gs : List GV)
  | dK (kvs : List (Key × GV))
  | dT (kvs : List (List Key × GV))
  | ins (C dx : Addr) (fs : List (Str × GV))
  | o (φ : PySem.W.Frag → Hp → HO → Prop) (m : ∀ K H H' u, Ex H H' → φ K H u → φ K H' u)
abbrev SH := List (Addr × MO)
def keysH (L : SH) : List Addr := L.map (·.1)
inductive KvAll (K : PySem.W.Frag) {α : Type} (H : Hp) : List (α × V) → List (α × GV) → Prop
  | nil : KvAll K H [] []
  | cons {k : α} {v : V} {g : GV} {vs : List (α × V)} {gs : List (α × GV)} : Wd K H v g → KvAll K H vs gs → KvAll K H ((k, v) :: vs) ((k, g) :: gs)
theorem kvs_mono {K : PySem.W.Frag} {α : Type} {H H' : Hp} (e : Ex H H') : ∀ {gs : List (α × GV)} {vs : List (α × V)}, KvAll K H vs gs → KvAll K H' vs gs
  | [], _, h => by cases h; exact .nil
  | g :: gs, _, h => by
    cases h with
    | cons h1 h2 => exact .cons (wd_mono e _ h1) (kvs_mono e h2)
def MoAt (K : PySem.W.Frag) (N H : Hp) (p : Addr) : MO → Prop
  | .lst gs => ∃ vs, H p = some (.lst vs) ∧ WdAll K N vs gs
  | .dK kvs => ∃ vs, H p = some (.dK vs) ∧ KvAll K N vs kvs
  | .dT kvs => ∃ vs, H p = some (.dT vs) ∧ KvAll K N vs kvs
  | .ins C dx fs => ∃ vs, H p = some (.ins C dx vs) ∧ KvAll K N vs fs
  | .o φ _ => ∃ u, H p = some u ∧ φ K N u
theorem mo_some {K : PySem.W.Frag} {N H : Hp} {p : Addr} {o : MO} (h : MoAt K N H p o) : ∃ u, H p = some u := by
  cases o <;> obtain ⟨_, e, _⟩ := h <;> exact ⟨_, e⟩
theorem mo_mono {K : PySem.W.Frag} {N H N' H' : Hp} {p : Addr} {o : MO} (e : Ex N N') (c : ∀ u, H p = some u → H' p = some u) (h : MoAt K N H p o) : MoAt K N' H' p o := by
  cases o with
  | lst gs => obtain ⟨_, e1, e2⟩ := h; exact ⟨_, c _ e1, wds_mono e e2⟩
  | dK gs => obtain ⟨_, e1, e2⟩ := h; exact ⟨_, c _ e1, kvs_mono e e2⟩
  | dT gs => obtain ⟨_, e1, e2⟩ := h; exact ⟨_, c _ e1, kvs_mono e e2⟩
  | ins C dx gs => obtain ⟨_, e1, e2⟩ := h; exact ⟨_, c _ e1, kvs_mono e e2⟩
  | o φ m => obtain ⟨_, e1, e2⟩ := h; exact ⟨_, c _ e1, m _ _ _ _ e e2⟩
structure Ms (K : PySem.W.Frag) (L : SH) (N H : Hp) : Prop where
  nd : (keysH L).Nodup
  at_ : ∀ p o, (p, o) ∈ L → N p = none ∧ MoAt K N H p o
theorem Ms.nil {K : PySem.W.Frag} {N H : Hp} : Ms K [] N H := ⟨.nil, fun _ _ h => by cases h⟩
theorem Ms.step {K : PySem.W.Frag} {L : SH} {N H N' H' : Hp} (m : Ms K L N H) (w : Nw N H N' H') : Ms K L N' H' := ⟨m.nd, fun p o h => by
  obtain ⟨a, b⟩ := m.at_ p o h
  obtain ⟨u, e⟩ := mo_some b
  exact ⟨w.d p u a e, mo_mono w.a (fun u => w.c p u) b⟩⟩
/-- names and objects -/
structure En (K : PySem.W.Frag) (L : SH) (G : Gm) (σ : L2.St) (N H : Hp) : Prop where
  nm : En0 K G σ N
  ms : Ms K L N H
section
variable {K : PySem.W.Frag} {L : SH} {G : Gm} {σ : L2.St} {N H N' H' : Hp}
theorem En.step (n : En K L G σ N H) (w : Nw N H N' H') : En K L G σ N' H' := ⟨n.nm.mono w.a, n.ms.step w⟩
theorem En.set {j : Nat} {v : V} {d : PyData} (h : En K L G σ N H) (k : Dp K N v d) : En K L (G.set j (some (.d d))) (σ.set j (some v)) N H := ⟨h.nm.set k, h.ms⟩
theorem En.setW {j : Nat} {v : V} {d : GV} (h : En K L G σ N H) (k : Wd K N v d) : En K L (G.set j (some d)) (σ.set j (some v)) N H := ⟨h.nm.setW k, h.ms⟩
theorem En.wipe (h : En K L G σ N H) (vs : List Nat) : En K L (wipeG G vs) (L2.wipe σ vs) N H := ⟨h.nm.wipe vs, h.ms⟩
end

/-- an expression is worth d, and leaves what is known -/
def EG (K : PySem.W.Frag) (L : SH) (G : Gm) (te : TE) (d : PyData) : Prop := ∀ σ N H, En K L G σ N H → Ex N H → ∀ Q : VK, (∀ v N' H', Nw N H N' H' → Dp K N' v d → Q v H') → te σ H Q
def TG (K : PySem.W.Frag) (L : SH) (G : Gm) (tt : TT) (b : Bool) : Prop := ∀ σ N H, En K L G σ N H → Ex N H → ∀ Q : Bool → Hp → Prop, (∀ N' H', Nw N H N' H' → Q b H') → tt σ H Q
def AG (K : PySem.W.Frag) (L : SH) (G : Gm) (ta : TA) (ds : List PyData) : Prop := ∀ σ N H, En K L G σ N H → Ex N H → ∀ Q : List V → Hp → Prop, (∀ vs N' H', Nw N H N' H' → DpAll K N' vs ds → Q vs H') → ta σ H Q
def OG (K : PySem.W.Frag) (L : SH) (G : Gm) (to : TO) (o : Option Int) : Prop := ∀ σ N H, En K L G σ N H → Ex N H → ∀ Q : Option Int → Hp → Prop, (∀ N' H', Nw N H N' H' → Q o H') → to σ H Q
/-- a block gives d back (falling off its end: None) -/
def BG (K : PySem.W.Frag) (L : SH) (G : Gm) (ts : TS) (d : PyData) : Prop := ∀ σ N H (D : Ends), En K L G σ N H → Ex N H → (∀ v N' H', Nw N H N' H' → Dp K N' v d → D.rt v H') → (∀ σ' N' H', Nw N H N' H' → d = .none → D.nx σ' H') → ts D σ H
/-- a statement leads from G to G' -/
def SG (K : PySem.W.Frag) (L : SH) (G : Gm) (ts : TS) (G' : Gm) : Prop := ∀ σ N H (D : Ends), En K L G σ N H → Ex N H → (∀ σ' N' H', Nw N H N' H' → En K L G' σ' N' H' → D.nx σ' H') → ts D σ H
/-- an operation on values; a call on values -/
def RG (K : PySem.W.Frag) (r : R2) (d e z : PyData) : Prop := ∀ x y N H, Ex N H → Dp K N x d → Dp K N y e → ∀ Q : VK, (∀ v N' H', Nw N H N' H' → Dp K N' v z → Q v H') → r x y H Q
def CG (K : PySem.W.Frag) (r : List V → Hp → VK → Prop) (ds : List PyData) (z : PyData) : Prop := ∀ vs N H, Ex N H → DpAll K N vs ds → ∀ Q : VK, (∀ v N' H', Nw N H N' H' → Dp K N' v z → Q v H') → r vs H Q
def cutD {α : Type} (xs : List α) (lo hi : Option Int) : List α := (xs.drop (HT.sIx xs.length 0 lo)).take (HT.sIx xs.length xs.length hi - HT.sIx xs.length 0 lo)

section
variable {K : PySem.W.Frag} {L : SH} {G G' G2 : Gm} {ta tb te tl : TE} {tt uu : TT} {d e z : PyData} {ds es : List PyData} {i j : Int} {a b c : Bool}
theorem dps_cut {H : Hp} {ds : List PyData} {vs : List V} (lo hi : Option Int) (h : DpAll K H vs ds) : DpAll K H (cutV vs lo hi) (cutD ds lo hi) := by
  unfold cutV cutD
  rw [dps_len h]
  exact dps_take _ (dps_drop _ h)
theorem eg_of {d'} (h : EG K L G te d) (e : d = d') : EG K L G te d' := e ▸ h
theorem ag_of {ds'} {tr : TA} (h : AG K L G tr ds) (e : ds = ds') : AG K L G tr ds' := e ▸ h
theorem tg_of {b'} (h : TG K L G tt b) (e : b = b') : TG K L G tt b' := e ▸ h
theorem bg_of {ts : TS} {d'} (h : BG K L G ts d) (e : d = d') : BG K L G ts d' := e ▸ h
theorem eg_var {n : Nat} (h : G[n]? = some (some (.d d))) : EG K L G (tVar n) d := fun σ N H n e Q q => by
  obtain ⟨v, e1, e2⟩ := n.nm.2 _ _ h
  exact ⟨v, e1, q v N H (.refl e) e2⟩
/-- a constant -/
theorem eg_con {v : V} (h : ∀ H, Dp K H v d) : EG K L G (tC v) d := fun _ N H _ e _ q => q _ N H (.refl e) (h N)
theorem eg_int : EG K L G (tC (.int i)) (.int i) := eg_con fun _ => .int i
theorem eg_str {x : Str} : EG K L G (tC (.str x)) (.str x) := eg_con fun _ => .str x
theorem eg_bl : EG K L G (tC (.bl b)) (.bool b) := eg_con fun _ => .bl b
theorem eg_non : EG K L G (tC .non) .none := eg_con fun _ => .non
theorem eg_op {r : R2} (ha : EG K L G ta d) (hb : EG K L G tb e) (hr : RG K r d e z) : EG K L G (tOp r ta tb) z := fun σ N H n ex Q q =>
  ha σ N H n ex _ fun x N1 H1 w1 k1 => hb σ N1 H1 (n.step w1) w1.b _ fun y N2 H2 w2 k2 => hr x y N2 H2 w2.b (dp_mono w2.a _ _ k1) k2 Q fun v N3 H3 w3 k3 => q v N3 H3 ((w1.trans w2).trans w3) k3
/-- an operation that gives a plain value -/
theorem rg_val {r : R2} {v : V} (hv : ∀ H, Dp K H v z) (h : ∀ x y H N, Ex N H → Dp K N x d → Dp K N y e → ∀ Q : VK, Q v H → r x y H Q) : RG K r d e z := fun x y N H ex h1 h2 Q q => h x y H N ex h1 h2 Q (q v N H (.refl ex) (hv N))
theorem rg_i0 {g : Int → Int → Int} : RG K (rI0 fun i j => .int (g i j)) (.int i) (.int j) (.int (g i j)) := rg_val (fun _ => .int _) fun x y H N _ h1 h2 Q q => ⟨i, j, dp_int h1, dp_int h2, q⟩
theorem rg_b0 {g : Int → Int → Bool} : RG K (rI0 fun i j => .bl (g i j)) (.int i) (.int j) (.bool (g i j)) := rg_val (fun _ => .bl _) fun x y H N _ h1 h2 Q q => ⟨i, j, dp_int h1, dp_int h2, q⟩
theorem rg_i {C : Int → Int → Prop} {g : Int → Int → Int} (hc : C i j) : RG K (rI C fun i j => .int (g i j)) (.int i) (.int j) (.int (g i j)) := rg_val (fun _ => .int _) fun x y H N _ h1 h2 Q q => ⟨i, j, dp_int h1, dp_int h2, hc, q⟩
theorem eg_i0 {g : Int → Int → Int} (ha : EG K L G ta (.int i)) (hb : EG K L G tb (.int j)) : EG K L G (tOp (rI0 fun i j => .int (g i j)) ta tb) (.int (g i j)) := eg_op ha hb rg_i0
theorem eg_cmp {g : Int → Int → Bool} (ha : EG K L G ta (.int i)) (hb : EG K L G tb (.int j)) : EG K L G (tOp (rI0 fun i j => .bl (g i j)) ta tb) (.bool (g i j)) := eg_op ha hb rg_b0
theorem eg_ic {C : Int → Int → Prop} {g : Int → Int → Int} (ha : EG K L G ta (.int i)) (hb : EG K L G tb (.int j)) (hc : C i j) : EG K L G (tOp (rI C fun i j => .int (g i j)) ta tb) (.int (g i j)) := eg_op ha hb (rg_i hc)
theorem dec_str {x y : Str} : decide (V.str x = V.str y) = decide (x = y) := decide_eq_decide.mpr ⟨fun z => V.str.inj z, fun z => z ▸ rfl⟩
theorem dec_int {x y : Int} : decide (V.int x = V.int y) = decide (x = y) := decide_eq_decide.mpr ⟨fun z => V.int.inj z, fun z => z ▸ rfl⟩
theorem dec_bl {x y : Bool} : decide (V.bl x = V.bl y) = decide (x = y) := decide_eq_decide.mpr ⟨fun z => V.bl.inj z, fun z => z ▸ rfl⟩
theorem rg_eqS {x y : Str} : RG K rEq (.str x) (.str y) (.bool (decide (x = y))) := rg_val (fun _ => .bl _) fun u v H N _ h1 h2 Q q => by
  rw [dp_str h1, dp_str h2]
  exact ⟨rfl, by rw [dec_str]; exact q⟩
theorem rg_eqI : RG K rEq (.int i) (.int j) (.bool (decide (i = j))) := rg_val (fun _ => .bl _) fun u v H N _ h1 h2 Q q => by
  rw [dp_int h1, dp_int h2]
  exact ⟨rfl, by rw [dec_int]; exact q⟩
theorem rg_neS {x y : Str} : RG K rNe (.str x) (.str y) (.bool (!decide (x = y))) := rg_val (fun _ => .bl _) fun u v H N _ h1 h2 Q q => by
  rw [dp_str h1, dp_str h2]
  exact ⟨rfl, by rw [dec_str]; exact q⟩
theorem rg_neI : RG K rNe (.int i) (.int j) (.bool (!decide (i = j))) := rg_val (fun _ => .bl _) fun u v H N _ h1 h2 Q q => by
  rw [dp_int h1, dp_int h2]
  exact ⟨rfl, by rw [dec_int]; exact q⟩
theorem rg_neB : RG K rNe (.bool a) (.bool b) (.bool (!decide (a = b))) := rg_val (fun _ => .bl _) fun u v H N _ h1 h2 Q q => by
  rw [dp_bool h1, dp_bool h2]
  exact ⟨rfl, by rw [dec_bl]; exact q⟩
theorem eg_eqS {x y : Str} (ha : EG K L G ta (.str x)) (hb : EG K L G tb (.str y)) : EG K L G (tOp rEq ta tb) (.bool (decide (x = y))) := eg_op ha hb rg_eqS
theorem eg_eqI (ha : EG K L G ta (.int i)) (hb : EG K L G tb (.int j)) : EG K L G (tOp rEq ta tb) (.bool (decide (i = j))) := eg_op ha hb rg_eqI
theorem eg_neS {x y : Str} (ha : EG K L G ta (.str x)) (hb : EG K L G tb (.str y)) : EG K L G (tOp rNe ta tb) (.bool (!decide (x = y))) := eg_op ha hb rg_neS
theorem eg_neI (ha : EG K L G ta (.int i)) (hb : EG K L G tb (.int j)) : EG K L G (tOp rNe ta tb) (.bool (!decide (i = j))) := eg_op ha hb rg_neI
theorem eg_ltS {x y : Str} (ha : EG K L G ta (.str x)) (hb : EG K L G tb (.str y)) : EG K L G (tOp (fun x y H Q => ∃ i j, x = .str i ∧ y = .str j ∧ Q (.bl (decide (i.cps.toList < j.cps.toList))) H) ta tb) (.bool (decide (x.cps.toList < y.cps.toList))) :=
  eg_op ha hb (rg_val (fun _ => .bl _) fun u v H N _ h1 h2 Q q => ⟨x, y, dp_str h1, dp_str h2, q⟩)
theorem eg_eqD (ha : EG K L G ta d) (hb : EG K L G tb e) (s1 : SeqAt.shaped d = true) (s2 : SeqAt.shaped e = true) : EG K L G (tOp (rEqD K) ta tb) (.bool (PyData.eqv d e)) :=
  eg_op ha hb (rg_val (fun _ => .bl _) fun u v H N ex h1 h2 Q q => ⟨d, e, dp_to _ _ (dp_mono ex _ _ h1), dp_to _ _ (dp_mono ex _ _ h2), s1, s2, q⟩)
theorem eg_neD (ha : EG K L G ta d) (hb : EG K L G tb e) (s1 : SeqAt.shaped d = true) (s2 : SeqAt.shaped e = true) : EG K L G (tOp (rNeD K) ta tb) (.bool (!PyData.eqv d e)) :=
  eg_op ha hb (rg_val (fun _ => .bl _) fun u v H N ex h1 h2 Q q => ⟨d, e, dp_to _ _ (dp_mono ex _ _ h1), dp_to _ _ (dp_mono ex _ _ h2), s1, s2, q⟩)
theorem eg_ixT (ha : EG K L G ta (.tuple ds)) (hb : EG K L G tb (.int i)) (h : atI ds i = some d) : EG K L G (tOp (rIxT K) ta tb) d := eg_op ha hb fun u v N H ex h1 h2 Q q => by
  obtain ⟨p, xs, rfl, hs, hd⟩ := dp_tup h1
  obtain ⟨y, e1, e2⟩ := dps_atI hd h
  exact ⟨p, xs, i, y, rfl, dp_int h2, ex_t ex hs, e1, q _ N H (.refl ex) e2⟩
theorem eg_ixL (ha : EG K L G ta (.list ds)) (hb : EG K L G tb (.int i)) (h : atI ds i = some d) : EG K L G (tOp (rIxL K) ta tb) d := eg_op ha hb fun u v N H ex h1 h2 Q q => by
  obtain ⟨p, xs, rfl, hs, hd⟩ := dp_lst h1
  obtain ⟨y, e1, e2⟩ := dps_atI hd h
  exact ⟨p, xs, i, y, rfl, dp_int h2, ex_l ex hs, e1, q _ N H (.refl ex) e2⟩
theorem eg_ixS {x : Str} {c : Nat} (ha : EG K L G ta (.str x)) (hb : EG K L G tb (.int i)) (hx : x.length ≤ sizeLine) (h : atI x.cps.toList i = some c) : EG K L G (tOp rIxS ta tb) (.str ⟨#[c]⟩) :=
  eg_op ha hb (rg_val (fun _ => .str _) fun u v H N _ h1 h2 Q q => ⟨x, i, c, dp_str h1, dp_int h2, hx, h, q⟩)
/-- tuple + tuple -/
theorem eg_catA (ha : EG K L G ta (.tuple ds)) (hb : EG K L G tb (.tuple es)) (hz : ds.length + es.length ≤ sizeLine) : EG K L G (tOp (rCatA K) ta tb) (.tuple (ds ++ es)) := eg_op ha hb fun u v N H ex h1 h2 Q q => by
  obtain ⟨p, xs, rfl, hs, hd⟩ := dp_tup h1
  obtain ⟨p', ys, rfl, hs', hd'⟩ := dp_tup h2
  have l1 := dps_len hd
  have l2 := dps_len hd'
  refine ⟨p, p', xs, ys, rfl, rfl, ex_t ex hs, ex_t ex hs', by omega, fun z => ?_, fun _ z => ?_, fun _ _ t ht => ?_⟩
  · have z2 : ds = [] := List.eq_nil_of_length_eq_zero (by rw [← l1, z]; rfl)
    rw [z2] at q
    exact q _ N H (.refl ex) h2
  · have z2 : es = [] := List.eq_nil_of_length_eq_zero (by rw [← l2, z]; rfl)
    rw [z2, List.append_nil] at q
    exact q _ N H (.refl ex) h1
  · have nn : Ex N (upd N t (.tup (xs ++ ys))) := Ex.new (fresh_back ex ht)
    exact q _ _ _ (.new ex ht) (.tup upd_same (dps_app (dps_mono nn _ _ hd) (dps_mono nn _ _ hd')))
/-- list + list (both tracked) is by hand; displays -/
theorem ag_nil : AG K L G tNil [] := fun _ N H _ ex _ q => q [] N H (.refl ex) .nil
theorem ag_cons {tr : TA} (h : EG K L G ta d) (hr : AG K L G tr ds) : AG K L G (tCons ta tr) (d :: ds) := fun σ N H n ex Q q =>
  h σ N H n ex _ fun x N1 H1 w1 k1 => hr σ N1 H1 (n.step w1) w1.b _ fun xs N2 H2 w2 k2 => q _ N2 H2 (w1.trans w2) (.cons (dp_mono w2.a _ _ k1) k2)
theorem eg_tup {tr : TA} (h : AG K L G tr ds) (hl : ds.length ≤ sizeLine) : EG K L G (tTup tr) (.tuple ds) := fun σ N H n ex Q q =>
  h σ N H n ex _ fun xs N1 H1 w1 k1 => ⟨by rw [dps_len k1]; exact hl, fun p hp => q _ _ _ (w1.trans (.new w1.b hp)) (.tup upd_same (dps_mono (Ex.new (fresh_back w1.b hp)) _ _ k1))⟩
theorem eg_lst {tr : TA} (h : AG K L G tr ds) (hl : ds.length ≤ sizeLine) : EG K L G (tLst tr) (.list ds) := fun σ N H n ex Q q =>
  h σ N H n ex _ fun xs N1 H1 w1 k1 => ⟨by rw [dps_len k1]; exact hl, fun p hp => q _ _ _ (w1.trans (.new w1.b hp)) (.lst upd_same (dps_mono (Ex.new (fresh_back w1.b hp)) _ _ k1))⟩
/-- calls by values -/
theorem eg_cb {r : List V → Hp → VK → Prop} {tr : TA} (h : AG K L G tr ds) (hr : CG K r ds z) : EG K L G (tCB r tr) z := fun σ N H n ex Q q =>
  h σ N H n ex _ fun vs N1 H1 w1 k1 => hr vs N1 H1 w1.b k1 Q fun v N2 H2 w2 k2 => q v N2 H2 (w1.trans w2) k2
theorem cg_val {r : List V → Hp → VK → Prop} {v : V} (hv : ∀ H, Dp K H v z) (h : ∀ vs H N, Ex N H → DpAll K N vs ds → ∀ Q : VK, Q v H → r vs H Q) : CG K r ds z := fun vs N H ex h1 Q q => h vs H N ex h1 Q (q v N H (.refl ex) (hv N))
/-- tests -/
theorem tg_test (h : EG K L G te (.bool b)) : TG K L G (tTest te) b := fun σ N H n ex Q q => h σ N H n ex _ fun v N1 H1 w1 k1 => ⟨b, dp_bool k1, q N1 H1 w1⟩
theorem tg_B (h : EG K L G te (.bool b)) : TG K L G (tB te) b := fun σ N H n ex Q q => h σ N H n ex _ fun v N1 H1 w1 k1 => ⟨b, dp_bool k1, q N1 H1 w1⟩
theorem tg_and (h1 : TG K L G tt a) (h2 : a = true → TG K L G uu b) : TG K L G (tAnd tt uu) (a && b) := fun σ N H n ex Q q => h1 σ N H n ex _ fun N1 H1 w1 => by
  cases a with
  | true => exact h2 rfl σ N1 H1 (n.step w1) w1.b Q fun N2 H2 w2 => q N2 H2 (w1.trans w2)
  | false => exact q N1 H1 w1
theorem tg_or (h1 : TG K L G tt a) (h2 : a = false → TG K L G uu b) : TG K L G (tOr tt uu) (a || b) := fun σ N H n ex Q q => h1 σ N H n ex _ fun N1 H1 w1 => by
  cases a with
  | true => exact q N1 H1 w1
  | false => exact h2 rfl σ N1 H1 (n.step w1) w1.b Q fun N2 H2 w2 => q N2 H2 (w1.trans w2)
theorem tg_not (h1 : TG K L G tt a) : TG K L G (tNot tt) (!a) := fun σ N H n ex Q q => h1 σ N H n ex _ fun N1 H1 w1 => q N1 H1 w1
theorem eg_andV (h1 : EG K L G ta (.bool a)) (h2 : a = true → EG K L G tb (.bool b)) : EG K L G (tAndV ta tb) (.bool (a && b)) := fun σ N H n ex Q q => h1 σ N H n ex _ fun v N1 H1 w1 k1 => ⟨a, dp_bool k1, by
  cases a with
  | true => exact h2 rfl σ N1 H1 (n.step w1) w1.b Q fun v N2 H2 w2 k2 => q v N2 H2 (w1.trans w2) k2
  | false => exact q _ N1 H1 w1 (.bl false)⟩
theorem eg_orV (h1 : EG K L G ta (.bool a)) (h2 : a = false → EG K L G tb (.bool b)) : EG K L G (tOrV ta tb) (.bool (a || b)) := fun σ N H n ex Q q => h1 σ N H n ex _ fun v N1 H1 w1 k1 => ⟨a, dp_bool k1, by
  cases a with
  | true => exact q _ N1 H1 w1 (.bl true)
  | false => exact h2 rfl σ N1 H1 (n.step w1) w1.b Q fun v N2 H2 w2 k2 => q v N2 H2 (w1.trans w2) k2⟩
theorem eg_notV (h1 : EG K L G ta (.bool a)) : EG K L G (tNotV ta) (.bool (!a)) := fun σ N H n ex Q q => h1 σ N H n ex _ fun v N1 H1 w1 k1 => ⟨a, dp_bool k1, q _ N1 H1 w1 (.bl _)⟩
theorem eg_if (h : TG K L G tt b) (h1 : b = true → EG K L G ta d) (h2 : b = false → EG K L G tb d) : EG K L G (tIf tt ta tb) d := fun σ N H n ex Q q => h σ N H n ex _ fun N1 H1 w1 => by
  cases b with
  | true => exact h1 rfl σ N1 H1 (n.step w1) w1.b Q fun v N2 H2 w2 k2 => q v N2 H2 (w1.trans w2) k2
  | false => exact h2 rfl σ N1 H1 (n.step w1) w1.b Q fun v N2 H2 w2 k2 => q v N2 H2 (w1.trans w2) k2
theorem eg_ite (h : TG K L G tt b) (h1 : b = true → EG K L G ta d) (h2 : b = false → EG K L G tb e) : EG K L G (tIf tt ta tb) (if b = true then d else e) := eg_if h (fun q => by rw [if_pos q]; exact h1 q) (fun q => by rw [if_neg (by simp [q])]; exact h2 q)
theorem eg_chain {r r' : R2} {tc : TE} {f : PyData} (ha : EG K L G ta d) (hb : EG K L G tb e) (hr : RG K r d e (.bool a)) (hc : a = true → EG K L G tc f) (hr' : a = true → RG K r' e f (.bool b)) : EG K L G (tChain r r' ta tb tc) (.bool (a && b)) := fun σ N H n ex Q q =>
  ha σ N H n ex _ fun x N1 H1 w1 k1 => hb σ N1 H1 (n.step w1) w1.b _ fun y N2 H2 w2 k2 => hr x y N2 H2 w2.b (dp_mono w2.a _ _ k1) k2 _ fun v N3 H3 w3 k3 => ⟨a, dp_bool k3, by
    have w123 := (w1.trans w2).trans w3
    cases a with
    | true =>
      refine hc rfl σ N3 H3 (n.step w123) w3.b _ fun w N4 H4 w4 k4 => hr' rfl y w N4 H4 w4.b (dp_mono (w3.a.trans w4.a) _ _ k2) k4 Q fun u N5 H5 w5 k5 => q u N5 H5 ((w123.trans w4).trans w5) k5
    | false => exact q _ N3 H3 w123 (.bl false)⟩
/-- slices -/
theorem og_none : OG K L G tNoPart none := fun _ N H _ ex _ q => q N H (.refl ex)
theorem og_some (h : EG K L G te (.int i)) : OG K L G (tPart te) (some i) := fun σ N H n ex Q q => h σ N H n ex _ fun v N1 H1 w1 k1 => ⟨i, dp_int k1, q N1 H1 w1⟩
theorem eg_slL {lo hi : Option Int} {tlo thi : TO} (h : EG K L G te (.list ds)) (h1 : OG K L G tlo lo) (h2 : OG K L G thi hi) : EG K L G (tSl (rSlL K) te tlo thi) (.list (cutD ds lo hi)) := fun σ N H n ex Q q =>
  h σ N H n ex _ fun x N1 H1 w1 k1 => h1 σ N1 H1 (n.step w1) w1.b _ fun N2 H2 w2 => h2 σ N2 H2 (n.step (w1.trans w2)) w2.b _ fun N3 H3 w3 => by
    obtain ⟨p, xs, rfl, hs, hd⟩ := dp_lst (dp_mono (w2.trans w3).a _ _ k1)
    exact ⟨p, xs, rfl, ex_l w3.b hs, fun t ht => q _ _ _ (((w1.trans w2).trans w3).trans (.new w3.b ht)) (.lst upd_same (dps_cut lo hi (dps_mono (Ex.new (fresh_back w3.b ht)) _ _ hd)))⟩
theorem cutD_all {α : Type} {xs : List α} {lo hi : Option Int} (h1 : HT.sIx xs.length 0 lo = 0) (h2 : HT.sIx xs.length xs.length hi = xs.length) : cutD xs lo hi = xs := by
  unfold cutD
  rw [h1, h2]
  simp
theorem eg_slT {lo hi : Option Int} {tlo thi : TO} (h : EG K L G te (.tuple ds)) (h1 : OG K L G tlo lo) (h2 : OG K L G thi hi) : EG K L G (tSl (rSlA K) te tlo thi) (.tuple (cutD ds lo hi)) := fun σ N H n ex Q q =>
  h σ N H n ex _ fun x N1 H1 w1 k1 => h1 σ N1 H1 (n.step w1) w1.b _ fun N2 H2 w2 => h2 σ N2 H2 (n.step (w1.trans w2)) w2.b _ fun N3 H3 w3 => by
    obtain ⟨p, xs, rfl, hs, hd⟩ := dp_tup (dp_mono (w2.trans w3).a _ _ k1)
    refine ⟨p, xs, rfl, ex_t w3.b hs, fun ⟨z1, z2⟩ => ?_, fun _ t ht => q _ _ _ (((w1.trans w2).trans w3).trans (.new w3.b ht)) (.tup upd_same (dps_cut lo hi (dps_mono (Ex.new (fresh_back w3.b ht)) _ _ hd)))⟩
    have l := dps_len hd
    rw [l] at z1 z2
    rw [cutD_all z1 z2] at q
    exact q _ _ _ ((w1.trans w2).trans w3) (dp_mono (w2.trans w3).a _ _ k1)

/-- the promise: from data to data, nothing that is known is lost -/
def spD (K : PySem.W.Frag) (P : List PyData → PyData → Prop) : Sp := fun vs H Q _ => ∃ ds d N, Ex N H ∧ DpAll K N vs ds ∧ P ds d ∧ ∀ v N' H', Nw N H N' H' → Dp K N' v d → Q v H'
theorem eg_call {P : List PyData → PyData → Prop} {E : XK} {tr : TA} (h : AG K L G tr ds) (hP : P ds d) : EG K L G (tCall (spD K P) [] E tr) d := fun σ N H n ex Q q =>
  h σ N H n ex _ fun vs N1 H1 w1 k1 => ⟨ds, d, N1, w1.b, by rw [List.append_nil]; exact k1, hP, fun v N2 H2 w2 k2 => q v N2 H2 (w1.trans w2) k2⟩

variable {tu tw tz ts : TS}
theorem bg_ret (h : EG K L G te d) : BG K L G (tRet te) d := fun σ N H D n ex k _ => h σ N H n ex _ fun v N' H' w' k' => k v N' H' w' k'
theorem bg_end : BG K L G tNext .none := fun σ N H D n ex _ k => k σ N H (.refl ex) rfl
theorem bg_asg {m : Nat} (h : EG K L G te e) (k : BG K L (G.set m (some (.d e))) tz d) : BG K L G (tSeq (tAsg te (gName m)) tz) d := fun σ N H D n ex q1 q2 =>
  h σ N H n ex _ fun v N1 H1 w1 k1 => k (σ.set m (some v)) N1 H1 D ((n.step w1).set k1) w1.b (fun v N2 H2 w2 => q1 v N2 H2 (w1.trans w2)) fun σ' N2 H2 w2 => q2 σ' N2 H2 (w1.trans w2)
theorem bg_par {m l : Nat} {tr : TA} {f : PyData} (h : AG K L G tr [e, f]) (k : BG K L ((G.set m (some (.d e))).set l (some (.d f))) tz d) : BG K L G (tSeq (tPar m l tr) tz) d := fun σ N H D n ex q1 q2 =>
  h σ N H n ex _ fun vs N1 H1 w1 k1 => by
    cases k1 with
    | cons a1 a2 =>
      cases a2 with
      | cons b1 b2 =>
        cases b2
        exact ⟨_, _, rfl, k _ N1 H1 D (((n.step w1).set a1).set b1) w1.b (fun v N2 H2 w2 => q1 v N2 H2 (w1.trans w2)) fun σ' N2 H2 w2 => q2 σ' N2 H2 (w1.trans w2)⟩
theorem bg_drop (h : EG K L G te e) (k : BG K L G tz d) : BG K L G (tSeq (tDrop te) tz) d := fun σ N H D n ex q1 q2 =>
  h σ N H n ex _ fun v N1 H1 w1 k1 => k σ N1 H1 D (n.step w1) w1.b (fun v N2 H2 w2 => q1 v N2 H2 (w1.trans w2)) fun σ' N2 H2 w2 => q2 σ' N2 H2 (w1.trans w2)
/-- if c: (a block that gives back); the rest -/
theorem bg_when (h : TG K L G tt b) (h1 : b = true → BG K L G tu d) (hno : b = true → d ≠ .none) (h2 : b = false → BG K L G tz d) : BG K L G (tSeq (tIfS tt tu tNext) tz) d := fun σ N H D n ex q1 q2 => h σ N H n ex _ fun N1 H1 w1 => by
  cases b with
  | true => exact h1 rfl σ N1 H1 _ (n.step w1) w1.b (fun v N2 H2 w2 => q1 v N2 H2 (w1.trans w2)) fun σ' N2 H2 w2 z => absurd z (hno rfl)
  | false => exact h2 rfl σ N1 H1 D (n.step w1) w1.b (fun v N2 H2 w2 => q1 v N2 H2 (w1.trans w2)) fun σ' N2 H2 w2 => q2 σ' N2 H2 (w1.trans w2)
/-- an if whose block is never taken -/
theorem bg_skip (h : TG K L G tt b) (hb : b = false) (h2 : BG K L G tz d) : BG K L G (tSeq (tIfS tt tu tNext) tz) d := by
  subst hb
  exact fun σ N H D n ex q1 q2 => h σ N H n ex _ fun N1 H1 w1 => h2 σ N1 H1 D (n.step w1) w1.b (fun v N2 H2 w2 => q1 v N2 H2 (w1.trans w2)) fun σ' N2 H2 w2 => q2 σ' N2 H2 (w1.trans w2)
theorem bg_skip1 (h : TG K L G tt b) (hb : b = false) : BG K L G (tIfS tt tu tNext) .none := by
  subst hb
  exact fun σ N H D n ex q1 q2 => h σ N H n ex _ fun N1 H1 w1 => q2 σ N1 H1 w1 rfl
/-- an if whose block is taken and gives back -/
theorem bg_take (h : TG K L G tt b) (hb : b = true) (h1 : BG K L G tu d) (hno : d ≠ .none) : BG K L G (tSeq (tIfS tt tu tNext) tz) d := bg_when h (fun _ => h1) (fun _ => hno) fun z => by rw [hb] at z; cases z
/-- a statement, the rest -/
theorem bg_seq (h : SG K L G ts G') (k : BG K L G' tz d) : BG K L G (tSeq ts tz) d := fun σ N H D n ex q1 q2 => h σ N H _ n ex fun σ1 N1 H1 w1 n1 =>
  k σ1 N1 H1 D n1 w1.b (fun v N2 H2 w2 => q1 v N2 H2 (w1.trans w2)) fun σ' N2 H2 w2 => q2 σ' N2 H2 (w1.trans w2)
theorem sg_asg {m : Nat} (h : EG K L G te e) : SG K L G (tAsg te (gName m)) (G.set m (some (.d e))) := fun σ N H D n ex q => h σ N H n ex _ fun v N1 H1 w1 k1 => q _ N1 H1 w1 ((n.step w1).set k1)
theorem sg_seq (h : SG K L G ts G') (k : SG K L G' tz G2) : SG K L G (tSeq ts tz) G2 := fun σ N H D n ex q => h σ N H _ n ex fun σ1 N1 H1 w1 n1 => k σ1 N1 H1 D n1 w1.b fun σ2 N2 H2 w2 n2 => q σ2 N2 H2 (w1.trans w2) n2
theorem sg_par {m l : Nat} {tr : TA} {f : PyData} (h : AG K L G tr [e, f]) : SG K L G (tPar m l tr) ((G.set m (some (.d e))).set l (some (.d f))) := fun σ N H D n ex q =>
  h σ N H n ex _ fun vs N1 H1 w1 k1 => by
    cases k1 with
    | cons a1 a2 =>
      cases a2 with
      | cons b1 b2 =>
        cases b2
        exact ⟨_, _, rfl, q _ N1 H1 w1 (((n.step w1).set a1).set b1)⟩
theorem sg_if (h : TG K L G tt b) (h1 : b = true → SG K L G tu G') (h2 : b = false → SG K L G tw G') : SG K L G (tIfS tt tu tw) G' := fun σ N H D n ex q => h σ N H n ex _ fun N1 H1 w1 => by
  cases b with
  | true => exact h1 rfl σ N1 H1 D (n.step w1) w1.b fun σ2 N2 H2 w2 n2 => q σ2 N2 H2 (w1.trans w2) n2
  | false => exact h2 rfl σ N1 H1 D (n.step w1) w1.b fun σ2 N2 H2 w2 n2 => q σ2 N2 H2 (w1.trans w2) n2
end

def IG (K : PySem.W.Frag) (L : SH) (G : Gm) (wi : TI) (g : L2.TG) {β : Type} (zs : List β) (Ta : β → Gm → Gm) (ts : List Nat) : Prop :=
  ∀ σ N H, En K L G σ N H → Ex N H → ∀ R : It → Hp → Prop,
    (∀ J N1 H1 Gd Y, Nw N H N1 H1 → Walk J zs.length Gd Y → (∀ H', Ex N1 H' → Gd H') →
      (∀ i z x σ' L Γ N2 H2 H3, zs[i]? = some z → Ex N1 N2 → Ex N2 H2 → En K L Γ σ' N2 H2 → Y i H2 x H3 → ∀ Q : L2.St → Hp → Prop,
        (∀ σ2 N3, Nw N2 H2 N3 H3 → En K L (Ta z Γ) σ2 N3 H3 → (∀ j, j ∉ ts → σ2[j]? = σ'[j]?) → σ2.length = σ'.length → Q σ2 H3) → g x σ' H3 Q) → R J H1) → wi σ H R
section
variable {K : PySem.W.Frag} {L : SH} {G : Gm} {te tl : TE} {tt : TT} {tu tz : TS} {d : PyData} {α β : Type} {g : α → PyData} {xs : List α} {wi : TI} {tg : L2.TG} {zs : List β} {Ta : β → Gm → Gm} {ts : List Nat}
theorem map_at {i : Nat} {y : PyData} (h : (xs.map g)[i]? = some y) : ∃ x, xs[i]? = some x ∧ g x = y := by
  rw [List.getElem?_map] at h
  cases ex : xs[i]? with
  | none => rw [ex] at h; cases h
  | some x => rw [ex] at h; exact ⟨x, rfl, Option.some.inj h⟩
/-- one name told d at H, the heap as it is -/
theorem name_told {m : Nat} {x : V} {σ' : L2.St} {Γ : Gm} {N2 H2 : Hp} {Q : L2.St → Hp → Prop} (e : Ex N2 H2) (n : En K L Γ σ' N2 H2) (k : Dp K N2 x d)
    (q : ∀ σ2 N3, Nw N2 H2 N3 H2 → En K L (Γ.set m (some (.d d))) σ2 N3 H2 → (∀ j, j ∉ [m] → σ2[j]? = σ'[j]?) → σ2.length = σ'.length → Q σ2 H2) : gName m x σ' H2 Q :=
  q _ N2 (.refl e) (n.set k) (fun j hj => List.getElem?_set_ne (fun z => hj (by simp [z]))) (by simp)
theorem ig_tup {m : Nat} (h : EG K L G tl (.tuple (xs.map g))) : IG K L G (iTup K tl) (gName m) xs (fun x Γ => Γ.set m (some (.d (g x)))) [m] := fun σ N H n ex R r =>
  h σ N H n ex _ fun v N1 H1 w1 k1 => by
    obtain ⟨a, ys, rfl, hq, hd⟩ := dp_tup k1
    have l : ys.length = xs.length := by simpa using dps_len hd
    refine ⟨a, rfl, ⟨ys, ex_t w1.b hq⟩, r _ N1 H1 _ _ w1 (l ▸ walk_tup (xs := ys)) (fun H' e => ex_t e hq) fun i z x σ' L Γ N2 H2 H3 hz e1 e2 n2 y Q q => ?_⟩
    obtain ⟨rfl, hx⟩ := y
    obtain ⟨x', hx', kx⟩ := dps_at' hd hx
    obtain ⟨z', hz', rfl⟩ := map_at hx'
    rw [hz] at hz'
    cases hz'
    exact name_told e2 n2 (dp_mono e1 _ _ kx) q
theorem ig_lst {m : Nat} (h : EG K L G tl (.list (xs.map g))) : IG K L G (iList K tl) (gName m) xs (fun x Γ => Γ.set m (some (.d (g x)))) [m] := fun σ N H n ex R r =>
  h σ N H n ex _ fun v N1 H1 w1 k1 => by
    obtain ⟨a, ys, rfl, hq, hd⟩ := dp_lst k1
    have l : ys.length = xs.length := by simpa using dps_len hd
    refine ⟨a, rfl, ⟨ys, ex_l w1.b hq⟩, r _ N1 H1 _ _ w1 (l ▸ walk_list (xs := ys)) (fun H' e => ex_l e hq) fun i z x σ' L Γ N2 H2 H3 hz e1 e2 n2 y Q q => ?_⟩
    obtain ⟨rfl, hx⟩ := y
    obtain ⟨x', hx', kx⟩ := dps_at' hd hx
    obtain ⟨z', hz', rfl⟩ := map_at hx'
    rw [hz] at hz'
    cases hz'
    exact name_told e2 n2 (dp_mono e1 _ _ kx) q
/-- a text, sign by sign -/
theorem ig_str {m : Nat} {s : Str} (h : EG K L G tl (.str s)) : IG K L G (iStr tl) (gName m) s.cps.toList (fun c Γ => Γ.set m (some (.d (.str ⟨#[c]⟩)))) [m] := fun σ N H n ex R r =>
  h σ N H n ex _ fun v N1 H1 w1 k1 => by
    refine ⟨s, dp_str k1, r _ N1 H1 _ _ w1 (show Walk (Its s) s.cps.toList.length _ _ from by rw [Array.length_toList]; exact walk_str) (fun _ _ => trivial) fun i z x σ' L Γ N2 H2 H3 hz e1 e2 n2 y Q q => ?_⟩
    obtain ⟨rfl, c, hc, rfl⟩ := y
    rw [Array.getElem?_toList, hc] at hz
    cases hz
    exact name_told e2 n2 (.str _) q
/-- a pair just made, unpacked into two names -/
theorem pair_told {m1 m2 : Nat} {T : Addr} {u v : V} {d1 d2 : PyData} {σ' : L2.St} {Γ : Gm} {N2 H2 : Hp} {Q : L2.St → Hp → Prop} (e : Ex N2 H2) (n : En K L Γ σ' N2 H2) (hT : H2 T = none) (k1 : Dp K N2 u d1) (k2 : Dp K N2 v d2)
    (q : ∀ σ2 N3, Nw N2 H2 N3 (upd H2 T (.tup [u, v])) → En K L ((Γ.set m1 (some (.d d1))).set m2 (some (.d d2))) σ2 N3 (upd H2 T (.tup [u, v])) → (∀ j, j ∉ [m1, m2] → σ2[j]? = σ'[j]?) → σ2.length = σ'.length → Q σ2 (upd H2 T (.tup [u, v]))) :
    gTup K 2 (gCons (gName m1) (gCons (gName m2) gNil)) (.ref T) σ' (upd H2 T (.tup [u, v])) Q := by
  have w : Nw N2 H2 N2 (upd H2 T (.tup [u, v])) := ⟨Ex.refl _, e.trans (Ex.new hT), Ex.new hT, fun _ _ h _ => h, fun _ _ h => h⟩
  refine ⟨T, [u, v], rfl, SqT.of upd_same, rfl, u, [v], rfl, v, [], rfl, rfl, q _ N2 w (((n.step w).set k1).set k2) (fun j hj => ?_) (by simp)⟩
  rw [List.getElem?_set_ne (fun z => hj (by simp [z])), List.getElem?_set_ne (fun z => hj (by simp [z]))]
theorem ag_two {tr : TA} {d1 d2 : PyData} (h : AG K L G tr [d1, d2]) {σ : L2.St} {N H : Hp} (n : En K L G σ N H) (ex : Ex N H) {Q : List V → Hp → Prop} (q : ∀ u v N' H', Nw N H N' H' → Dp K N' u d1 → Dp K N' v d2 → Q [u, v] H') : tr σ H Q :=
  h σ N H n ex _ fun vs N1 H1 w1 k1 => by
    cases k1 with
    | cons a1 a2 =>
      cases a2 with
      | cons b1 b2 =>
        cases b2
        exact q _ _ N1 H1 w1 a1 b1
/-- zip of two tuples -/
theorem ig_zipT {m1 m2 : Nat} {h : β → PyData} {ys : List β} {tr : TA} (ha : AG K L G tr [.tuple (xs.map g), .tuple (ys.map h)]) :
    IG K L G (RZ.iZipA K tr) (gTup K 2 (gCons (gName m1) (gCons (gName m2) gNil))) (xs.zip ys) (fun z Γ => (Γ.set m1 (some (.d (g z.1)))).set m2 (some (.d (h z.2)))) [m1, m2] := fun σ N H n ex R r =>
  ag_two ha n ex fun u v N1 H1 w1 k1 k2 => by
    obtain ⟨a, us, rfl, hq, hd⟩ := dp_tup k1
    obtain ⟨b, vs, rfl, hq', hd'⟩ := dp_tup k2
    have l : us.length = xs.length := by simpa using dps_len hd
    have l' : vs.length = ys.length := by simpa using dps_len hd'
    refine ⟨a, b, us, vs, rfl, .inr ⟨ex_t w1.b hq, ex_t w1.b hq', r _ N1 H1 (fun H => SqT K H a us ∧ SqT K H b vs) (YPair (fun i => us[i]?) (fun i => vs[i]?)) w1 ⟨fun i H hi q => ?_, fun H q => ⟨us, vs, q.1, q.2, ?_⟩, fun i H v H' hi q y => ?_⟩ (fun H' e => ⟨ex_t e hq, ex_t e hq'⟩) fun i z x σ' L Γ N2 H2 H3 hz e1 e2 n2 y Q q => ?_⟩⟩
    · rw [List.length_zip] at hi
      exact ⟨us, vs, us[i]'(by omega), vs[i]'(by omega), q.1, q.2, List.getElem?_eq_getElem _, List.getElem?_eq_getElem _⟩
    · rw [List.length_zip]
      omega
    · obtain ⟨T, p, p', h1, h2, h3, h4, h5⟩ := y
      exact ⟨T, p, p', h1, h2, h3, h4 us q.1, h5 vs q.2⟩
    · obtain ⟨T, p, p', rfl, hT, rfl, h4, h5⟩ := y
      obtain ⟨x1, hx1, kx1⟩ := dps_at' hd h4
      obtain ⟨x2, hx2, kx2⟩ := dps_at' hd' h5
      obtain ⟨z1, hz1, rfl⟩ := map_at hx1
      obtain ⟨z2, hz2, rfl⟩ := map_at hx2
      have hz' : (xs.zip ys)[i]? = some (z1, z2) := List.getElem?_zip_eq_some.mpr ⟨hz1, hz2⟩
      rw [hz] at hz'
      cases hz'
      exact pair_told e2 n2 hT (dp_mono e1 _ _ kx1) (dp_mono e1 _ _ kx2) q
/-- enumerate of a list -/
theorem ig_enum {m1 m2 : Nat} {tr : TA} (ha : AG K L G tr [.list (xs.map g)]) :
    IG K L G (iEnum K tr) (gTup K 2 (gCons (gName m1) (gCons (gName m2) gNil))) xs.zipIdx (fun z Γ => (Γ.set m1 (some (.d (.int (z.2 : Nat))))).set m2 (some (.d (g z.1)))) [m1, m2] := fun σ N H n ex R r =>
  ha σ N H n ex _ fun vs N1 H1 w1 k1 => by
    cases k1 with
    | cons a1 a2 =>
    cases a2
    obtain ⟨a, us, rfl, hq, hd⟩ := dp_lst a1
    have l : us.length = xs.length := by simpa using dps_len hd
    refine ⟨a, us, rfl, ex_l w1.b hq, r _ N1 H1 _ _ w1 (show Walk (Ite K a) xs.zipIdx.length _ _ from by rw [List.length_zipIdx, ← l]; exact walk_enum) (fun H' e => ex_l e hq) fun i z x σ' L Γ N2 H2 H3 hz e1 e2 n2 y Q q => ?_⟩
    obtain ⟨T, p, p', rfl, hT, rfl, h4, h5⟩ := y
    cases h4
    obtain ⟨x2, hx2, kx2⟩ := dps_at' hd h5
    obtain ⟨z2, hz2, rfl⟩ := map_at hx2
    have hz' : xs.zipIdx[i]? = some (z2, i) := by rw [List.getElem?_zipIdx, hz2]; simp
    rw [hz] at hz'
    cases hz'
    exact pair_told e2 n2 hT (.int _) (dp_mono e1 _ _ kx2) q
/-- a loop over data -/
theorem sg_for (h : IG K L G wi tg zs Ta ts) (W : Nat → Gm) (h0 : W 0 = G)
    (hs : ∀ i z, zs[i]? = some z → SG K L (Ta z (W i)) tu (W (i + 1))) : SG K L G (tFor wi tg tu) (W zs.length) := fun σ N H D n ex q =>
  h σ N H n ex _ fun J N1 H1 Gd Y w1 wk gd ty => for_it wk (fun i σ' H' => ∃ N', Nw N1 H1 N' H' ∧ En K L (W i) σ' N' H') ⟨N1, .refl w1.b, h0 ▸ n.step w1⟩ (fun i σ' H' _ ⟨N', p, _⟩ => gd H' (p.a.trans p.b))
    (fun i x σ' H' H2 hi ⟨N', p1, p2⟩ y => ty i zs[i] x σ' L (W i) N' H' H2 (List.getElem?_eq_getElem hi) p1.a p1.b p2 y _ fun σ2 N3 w3 n3 _ _ =>
      hs i zs[i] (List.getElem?_eq_getElem hi) σ2 N3 H2 _ n3 w3.b fun σ4 N4 H4 w4 n4 => ⟨N4, (p1.trans w3).trans w4, n4⟩) fun σ' H' ⟨N', p1, p2⟩ => q σ' N' H' (w1.trans p1) p2

/-- what stands in the new list behind i turns -/
def kept (p : α → Bool) (f : α → PyData) (xs : List α) (i : Nat) : List PyData := ((xs.take i).filter p).map f
theorem kept_yes {p : α → Bool} {f : α → PyData} {i : Nat} {x : α} (h : xs[i]? = some x) (hp : p x = true) : kept p f xs (i + 1) = kept p f xs i ++ [f x] := by
  unfold kept
  rw [List.take_add_one, h, List.filter_append, List.map_append]
  simp [hp]
theorem kept_no {p : α → Bool} {f : α → PyData} {i : Nat} {x : α} (h : xs[i]? = some x) (hp : p x = false) : kept p f xs (i + 1) = kept p f xs i := by
  unfold kept
  rw [List.take_add_one, h, List.filter_append, List.map_append]
  simp [hp]
theorem kept_all {p : α → Bool} {f : α → PyData} : kept p f xs xs.length = (xs.filter p).map f := by
  unfold kept
  rw [List.take_length]
theorem kept_len {p : α → Bool} {f : α → PyData} {i : Nat} : (kept p f xs i).length ≤ xs.length := by
  unfold kept
  rw [List.length_map]
  exact Nat.le_trans (List.length_filter_le _ _) (by rw [List.length_take]; omega)
/-- the list at D behind i turns: N is known without D -/
def Cw (K : PySem.W.Frag) (N0 H0 : Hp) (D : Addr) (ds : List PyData) (N H : Hp) : Prop := Nw N0 H0 N H ∧ N D = none ∧ ∃ vs, H D = some (.lst vs) ∧ DpAll K N vs ds
theorem Cw.step {N0 H0 N H N' H' : Hp} {D : Addr} {ds : List PyData} (w : Cw K N0 H0 D ds N H) (p : Nw N H N' H') : Cw K N0 H0 D ds N' H' := by
  obtain ⟨w1, w2, vs, w3, w4⟩ := w
  exact ⟨w1.trans p, p.d D _ w2 w3, vs, p.c _ _ w3, dps_mono p.a _ _ w4⟩
theorem cw_turn {N0 H0 N' H' : Hp} {D : Addr} {p : α → Bool} {f : α → PyData} {i : Nat} {x : α} {σ2 : L2.St} {G2 : Gm} (hD : H0 D = none) (w : Cw K N0 H0 D (kept p f xs i) N' H') (hz : xs.length ≤ 1000000) (hi : xs[i]? = some x) (n : En K L G2 σ2 N' H') (ht : TG K L G2 tt (p x)) (he : p x = true → EG K L G2 te (f x)) :
    tt σ2 H' fun b H3 => if b = true then te σ2 H3 fun y H4 => ∃ acc, H4 D = some (.lst acc) ∧ acc.length < sizeLine ∧ (∃ N5, Cw K N0 H0 D (kept p f xs (i + 1)) N5 (upd H4 D (.lst (acc ++ [y])))) else ∃ N5, Cw K N0 H0 D (kept p f xs (i + 1)) N5 H3 := by
  refine ht σ2 N' H' n w.1.b _ fun N3 H3 w3' => ?_
  have w' := w.step w3'
  cases hp : p x with
  | false =>
    rw [if_neg Bool.false_ne_true, kept_no hi hp]
    exact ⟨N3, w'⟩
  | true =>
    rw [if_pos rfl]
    refine he hp σ2 N3 H3 (n.step w3') w3'.b _ fun y N4 H4 w4' k4 => ?_
    obtain ⟨w1, w2, vs, w3, w4⟩ := w'.step w4'
    refine ⟨vs, w3, ?_, N4, ?_⟩
    · have := dps_len w4
      have := kept_len (xs := xs) (p := p) (f := f) (i := i)
      exact Nat.lt_of_le_of_lt (show vs.length ≤ 1000000 by omega) (by decide)
    · rw [kept_yes hi hp]
      refine ⟨⟨w1.a, fun b o q => ?_, fun b o q => ?_, w1.d, w1.n⟩, w2, _, upd_same, dps_app w4 (.cons k4 .nil)⟩
      · rw [upd_ne (ne_of_none q w2)]
        exact w1.b b o q
      · rw [upd_ne (ne_of_none q hD)]
        exact w1.c b o q
theorem cw_start {N H : Hp} {D : Addr} {p : α → Bool} {f : α → PyData} (ex : Ex N H) (hD : H D = none) : Cw K N H D (kept p f xs 0) N (upd H D (.lst [])) :=
  ⟨⟨Ex.refl N, ex.trans (Ex.new hD), Ex.new hD, fun _ _ h _ => h, fun _ _ h => h⟩, fresh_back ex hD, [], upd_same, .nil⟩
theorem cw_end {N0 H0 N H : Hp} {D : Addr} {ds : List PyData} (hD : H0 D = none) (w : Cw K N0 H0 D ds N H) : ∃ N', Nw N0 H0 N' H ∧ Dp K N' (.ref D) (.list ds) ∧ N' D = H D := by
  obtain ⟨w1, w2, vs, w3, w4⟩ := w
  refine ⟨upd N D (.lst vs), ⟨w1.a.trans (Ex.new w2), fun b o q => ?_, w1.c, fun b o q1 q2 => ?_, fun b ps q => ?_⟩, .lst upd_same (dps_mono (Ex.new w2) _ _ w4), upd_same.trans w3.symm⟩
  · by_cases hb : b = D
    · subst hb
      rw [upd_same] at q
      rw [← q]
      exact w3
    · rw [upd_ne hb] at q
      exact w1.b b o q
  · rw [upd_ne (ne_of_none q2 hD)]
    exact w1.d b o q1 q2
  · by_cases hb : b = D
    · rw [hb, upd_same] at q
      cases q
    · rw [upd_ne hb] at q
      exact w1.n b ps q
/-- [e for target in what is walked if t] -/
theorem eg_lc {ws : List Nat} {p : β → Bool} {f : β → PyData} (h : IG K L G wi tg zs Ta ts) (hz : zs.length ≤ 1000000) (hm : ∀ j, j ∉ ws → j ∉ ts)
    (ht : ∀ z ∈ zs, TG K L (Ta z (wipeG G ws)) tt (p z)) (he : ∀ z ∈ zs, p z = true → EG K L (Ta z (wipeG G ws)) te (f z)) : EG K L G (tLc wi tg tt te ws) (.list ((zs.filter p).map f)) := fun σ N H n ex Q q =>
  h σ N H n ex _ fun J N1 H1 Gd Y w1 wk gd ty D hD => lc_it wk (fun i H' => ∃ N', Cw K N1 H1 D (kept p f zs i) N' H') ⟨N1, cw_start w1.b hD⟩ (fun i H' _ ⟨N', p⟩ => gd H' (p.1.a.trans p.1.b))
    (fun i x H' H2 hi ⟨N', p'⟩ y => ty i zs[i] x (wipe σ ws) L (wipeG G ws) N' H' H2 (List.getElem?_eq_getElem hi) p'.1.a p'.1.b (((n.step w1).step p'.1).wipe ws) y _ fun σ2 N3 w3 n3 o3 l3 => by
      refine ⟨wipe_again (by rw [l3, wipe_length]) fun j hj => ?_, cw_turn hD (p'.step w3) hz (List.getElem?_eq_getElem hi) n3 (ht _ (List.getElem_mem hi)) (he _ (List.getElem_mem hi))⟩
      rw [o3 j (hm j hj), wipe_at, if_neg hj])
    fun H' ⟨N', p'⟩ => by
      rw [kept_all] at p'
      obtain ⟨N2, w2, k2, _⟩ := cw_end hD p'
      exact q _ N2 H' (w1.trans w2) k2
theorem tg_yes : TG K L G tYes true := fun _ N H _ ex _ q => q N H (.refl ex)
/-- without an if -/
theorem eg_lcA {ws : List Nat} {f : β → PyData} (h : IG K L G wi tg zs Ta ts) (hz : zs.length ≤ 1000000) (hm : ∀ j, j ∉ ws → j ∉ ts)
    (he : ∀ z ∈ zs, EG K L (Ta z (wipeG G ws)) te (f z)) : EG K L G (tLc wi tg tYes te ws) (.list (zs.map f)) :=
  eg_of (eg_lc (p := fun _ => true) h hz hm (fun _ _ => tg_yes) fun z hz _ => he z hz) (by rw [List.filter_eq_self.mpr fun _ _ => rfl])
end

/-- less is told -/
def Gle : Gm → Gm → Prop
  | [], [] => True
  | o :: a, p :: b => (o = none ∨ o = p) ∧ Gle a b
  | _, _ => False
theorem gle_at : ∀ {a b : Gm}, Gle a b → a.length = b.length ∧ ∀ (i : Nat) d, a[i]? = some (some d) → b[i]? = some (some d)
  | [], [], _ => ⟨rfl, fun _ _ h => h⟩
  | o :: a, p :: b, h => by
    obtain ⟨l, k⟩ := gle_at h.2
    refine ⟨by simp [l], fun i d q => ?_⟩
    cases i with
    | zero =>
      rcases h.1 with z | z
      · rw [z] at q; simp at q
      · rw [← z]; simpa using q
    | succ i => simpa using k i d (by simpa using q)
  | [], _ :: _, h => h.elim
  | _ :: _, [], h => h.elim
theorem En.less {K : PySem.W.Frag} {L : SH} {G G' : Gm} {σ : L2.St} {N H : Hp} (n : En K L G σ N H) (g : Gle G' G) : En K L G' σ N H := ⟨⟨(gle_at g).1.trans n.nm.1, fun i d q => n.nm.2 i d ((gle_at g).2 i d q)⟩, n.ms⟩
theorem sg_weak {K : PySem.W.Frag} {L : SH} {G G' G2 : Gm} {ts : TS} (h : SG K L G ts G') (g : Gle G2 G') : SG K L G ts G2 := fun σ N H D n ex q => h σ N H D n ex fun σ' N' H' w' n' => q σ' N' H' w' (n'.less g)
section
variable {K : PySem.W.Frag} {L : SH} {G : Gm} {te : TE} {tr : TA} {d : PyData} {ds : List PyData}
theorem cg_lenT : CG K (fun xs H Q => ∃ p ys, xs = [.ref p] ∧ (SqL K H p ys ∨ SqT K H p ys) ∧ Q (.int ys.length) H) [.tuple ds] (.int (ds.length : Nat)) := cg_val (fun _ => .int _) fun vs H N ex h Q q => by
  cases h with
  | cons a b =>
    cases b
    obtain ⟨p, ys, rfl, hq, hd⟩ := dp_tup a
    exact ⟨p, ys, rfl, .inr (ex_t ex hq), by rw [dps_len hd]; exact q⟩
theorem cg_lenL : CG K (fun xs H Q => ∃ p ys, xs = [.ref p] ∧ (SqL K H p ys ∨ SqT K H p ys) ∧ Q (.int ys.length) H) [.list ds] (.int (ds.length : Nat)) := cg_val (fun _ => .int _) fun vs H N ex h Q q => by
  cases h with
  | cons a b =>
    cases b
    obtain ⟨p, ys, rfl, hq, hd⟩ := dp_lst a
    exact ⟨p, ys, rfl, .inl (ex_l ex hq), by rw [dps_len hd]; exact q⟩
theorem cg_lenS {s : Str} (hs : s.length ≤ sizeLine) : CG K (fun xs H Q => ∃ z, xs = [.str z] ∧ z.length ≤ sizeLine ∧ Q (.int z.length) H) [.str s] (.int (s.length : Nat)) := cg_val (fun _ => .int _) fun vs H N ex h Q q => by
  cases h with
  | cons a b =>
    cases b
    exact ⟨s, by rw [dp_str a], hs, q⟩
theorem cg_tupL : CG K (fun xs H Q => ∃ p ys, xs = [.ref p] ∧ ((SqL K H p ys ∧ ∀ l, H l = none → Q (.ref l) (upd H l (.tup ys))) ∨ (SqT K H p ys ∧ Q (.ref p) H))) [.list ds] (.tuple ds) := fun vs N H ex h Q q => by
  cases h with
  | cons a b =>
    cases b
    obtain ⟨p, ys, rfl, hq, hd⟩ := dp_lst a
    exact ⟨p, ys, rfl, .inl ⟨ex_l ex hq, fun l hl => q _ _ _ (.new ex hl) (.tup upd_same (dps_mono (Ex.new (fresh_back ex hl)) _ _ hd))⟩⟩
theorem cg_tupT : CG K (fun xs H Q => ∃ p ys, xs = [.ref p] ∧ ((SqL K H p ys ∧ ∀ l, H l = none → Q (.ref l) (upd H l (.tup ys))) ∨ (SqT K H p ys ∧ Q (.ref p) H))) [.tuple ds] (.tuple ds) := fun vs N H ex h Q q => by
  cases h with
  | cons a b =>
    cases b
    obtain ⟨p, ys, rfl, hq, hd⟩ := dp_tup a
    exact ⟨p, ys, rfl, .inr ⟨ex_t ex hq, q _ _ _ (.refl ex) a⟩⟩
theorem cg_lstT : CG K (fun xs H Q => ∃ p ys, xs = [.ref p] ∧ (SqL K H p ys ∨ SqT K H p ys) ∧ ∀ l, H l = none → Q (.ref l) (upd H l (.lst ys))) [.tuple ds] (.list ds) := fun vs N H ex h Q q => by
  cases h with
  | cons a b =>
    cases b
    obtain ⟨p, ys, rfl, hq, hd⟩ := dp_tup a
    exact ⟨p, ys, rfl, .inr (ex_t ex hq), fun l hl => q _ _ _ (.new ex hl) (.lst upd_same (dps_mono (Ex.new (fresh_back ex hl)) _ _ hd))⟩
theorem cg_all {bs : List Bool} : CG K (rAll K) [.list (bs.map .bool)] (.bool (bs.all id)) := cg_val (fun _ => .bl _) fun vs H N ex h Q q => by
  cases h with
  | cons a b =>
    cases b
    obtain ⟨p, ys, rfl, hq, hd⟩ := dp_lst a
    rw [dps_bls hd] at hq
    exact ⟨p, bs, rfl, ex_l ex hq, q⟩
theorem cg_any {bs : List Bool} : CG K (rAny K) [.list (bs.map .bool)] (.bool (bs.any id)) := cg_val (fun _ => .bl _) fun vs H N ex h Q q => by
  cases h with
  | cons a b =>
    cases b
    obtain ⟨p, ys, rfl, hq, hd⟩ := dp_lst a
    rw [dps_bls hd] at hq
    exact ⟨p, bs, rfl, ex_l ex hq, q⟩
theorem cg_sum {ns : List Int} : CG K (rSum K) [.list (ns.map .int)] (.int ns.sum) := cg_val (fun _ => .int _) fun vs H N ex h Q q => by
  cases h with
  | cons a b =>
    cases b
    obtain ⟨p, ys, rfl, hq, hd⟩ := dp_lst a
    rw [dps_ints hd] at hq
    exact ⟨p, ns, rfl, ex_l ex hq, q⟩
/-- x in xs, flat -/
theorem inV_str {x : Str} : ∀ {xs : List Str}, inV (.str x) (xs.map V.str) = decide (x ∈ xs)
  | [] => rfl
  | y :: ys => by
    have ih := inV_str (x := x) (xs := ys)
    unfold inV at ih ⊢
    rw [List.map_cons, List.any_cons, ih]
    show (eqV (.str y) (.str x) || decide (x ∈ ys)) = decide (x ∈ y :: ys)
    by_cases e : y = x
    · subst e; simp [eqV]
    · simp [eqV, e, Ne.symm e]
theorem flat_strs {xs : List Str} : (xs.map V.str).all flatV = true := List.all_eq_true.mpr fun v hv => by
  obtain ⟨x, _, rfl⟩ := List.mem_map.mp hv
  rfl
theorem rg_inT {x : Str} {xs : List Str} : RG K (rIn K false) (.str x) (.tuple (xs.map .str)) (.bool (decide (x ∈ xs))) := rg_val (fun _ => .bl _) fun u v H N ex h1 h2 Q q => by
  obtain ⟨p, ys, rfl, hq, hd⟩ := dp_tup h2
  rw [dps_strs hd] at hq
  rw [dp_str h1]
  refine ⟨p, _, rfl, .inr (ex_t ex hq), rfl, flat_strs, ?_⟩
  rw [if_neg Bool.false_ne_true, inV_str]
  exact q
theorem rg_niT {x : Str} {xs : List Str} : RG K (rIn K true) (.str x) (.tuple (xs.map .str)) (.bool (!decide (x ∈ xs))) := rg_val (fun _ => .bl _) fun u v H N ex h1 h2 Q q => by
  obtain ⟨p, ys, rfl, hq, hd⟩ := dp_tup h2
  rw [dps_strs hd] at hq
  rw [dp_str h1]
  refine ⟨p, _, rfl, .inr (ex_t ex hq), rfl, flat_strs, ?_⟩
  rw [if_pos rfl, inV_str]
  exact q
theorem rg_inL {x : Str} {xs : List Str} : RG K (rIn K false) (.str x) (.list (xs.map .str)) (.bool (decide (x ∈ xs))) := rg_val (fun _ => .bl _) fun u v H N ex h1 h2 Q q => by
  obtain ⟨p, ys, rfl, hq, hd⟩ := dp_lst h2
  rw [dps_strs hd] at hq
  rw [dp_str h1]
  refine ⟨p, _, rfl, .inl (ex_l ex hq), rfl, flat_strs, ?_⟩
  rw [if_neg Bool.false_ne_true, inV_str]
  exact q
/-- isinstance(x, T) -/
def tyN : PyData → String
  | .none => "NoneType"
  | .bool _ => "bool"
  | .int _ => "int"
  | .str _ => "str"
  | .list _ => "list"
  | .tuple _ => "tuple"
  | .dict _ => "dict"
theorem dp_ty {H : Hp} {v : V} (h : Dp K H v d) : TyX K H v (.type (tyN d)) := by
  cases h with
  | non => exact .base .non
  | bl b => exact .base (.bl b)
  | int i => exact .base (.int i)
  | str x => exact .base (.str x)
  | lst hs _ => exact .base (.lst hs)
  | tup hs _ => exact .base (.tup hs)
theorem eg_isi {n : String} {b : Bool} (h : EG K L G te d) (hk : kitB (tyN d) n = some b) : EG K L G (tCB (rIsi K) (tCons te (tCons (tC (.ty n)) tNil))) (.bool b) := fun σ N H m ex Q q =>
  h σ N H m ex _ fun v N1 H1 w1 k1 => ⟨v, .ty n, _, _, b, rfl, .ty n, dp_ty (dp_mono w1.b _ _ k1), kit_ty hk, q _ N1 H1 w1 (.bl b)⟩
end
end K13
namespace K13
open PySem PySem.Spec PyProof.Rows L2
open Evl (Ex fresh_back ex_l ex_t)
section
variable {X : Cx} {pins : List (Addr × Obj)} {σ : L2.St} {H : Hp} {s : Shared}
/-- what a value is known to stand for -/
def DpU (K : PySem.W.Frag) (H : Hp) (u : Value) (d : PyData) : Prop := ∃ x, RelV x u ∧ Dp K H x d
theorem each_of {K : PySem.W.Frag} : ∀ {xs : List V} {us : List Value} {ds : List PyData}, Vals xs us → DpAll K H xs ds → PySem.W.EachIs (DpU K H) us ds
  | [], _, _, r, h => by cases r; cases h; exact .nil
  | x :: xs, _, _, r, h => by
    cases r with
    | cons r1 r2 =>
      cases h with
      | cons h1 h2 => exact .cons ⟨x, r1, h1⟩ (each_of r2 h2)
theorem of_each {K : PySem.W.Frag} : ∀ {us : List Value} {ds : List PyData}, PySem.W.EachIs (DpU K H) us ds → ∃ ys, Vals ys us ∧ DpAll K H ys ds
  | [], _, e => by cases e; exact ⟨[], .nil, .nil⟩
  | u :: us, _, e => by
    cases e with
    | cons h1 h2 =>
      obtain ⟨x, r, d⟩ := h1
      obtain ⟨ys, r2, d2⟩ := of_each h2
      exact ⟨x :: ys, .cons r r2, .cons d d2⟩
theorem each_reads (I : Inv X pins σ H s) : ∀ {us : List Value} {ds : List PyData}, PySem.W.EachIs (DpU X.K H) us ds → PySem.W.EachIs (fun v b => ∃ as, Reads s.heap v (id b) as) us ds
  | [], _, e => by cases e; exact .nil
  | u :: us, _, e => by
    cases e with
    | cons h1 h2 =>
      obtain ⟨x, r, d⟩ := h1
      exact .cons (L2.Dp.reads I _ x u (dp_to _ _ d) r) (each_reads I h2)
theorem all_reads (I : Inv X pins σ H s) : ∀ {us : List Value} {ds : List PyData}, PySem.W.EachIs (DpU X.K H) us ds → ∃ as, ReadsAll s.heap us ds as
  | [], _, e => by cases e; exact ⟨[], .nil⟩
  | u :: us, _, e => by
    cases e with
    | cons h1 h2 =>
      obtain ⟨x, r, d⟩ := h1
      obtain ⟨as, r1⟩ := L2.Dp.reads I _ x u (dp_to _ _ d) r
      obtain ⟨bs, r2⟩ := all_reads I h2
      exact ⟨_, .cons r1 r2⟩
/-- sorted(xs): data that can be compared -/
def rSortD (K : PySem.W.Frag) : List V → Hp → VK → Prop := fun vs H Q => ∃ (a : Addr) (xs : List V) (ds : List PyData) (N : Hp), vs = [V.ref a] ∧ SqL K H a xs ∧ Ex N H ∧ DpAll K N xs ds ∧ PySem.W.AllAlike ds ∧ PySem.W.Sortable ds ∧ (∀ d ∈ ds, d.depth ≤ 8) ∧
  ∀ (ys : List V) (p : Addr), DpAll K N ys (ds.mergeSort (PySem.W.dataLe false id)) → H p = none → Q (.ref p) (upd H p (.lst ys))
theorem cr_sortedD (hu : X.A.units + 64 < cLine) : CallR X (.builtin "sorted") (rSortD X.K) := by
  intro pins s σ H vs us Q I r h
  obtain ⟨a, xs, ds, N, rfl, hs, ex, hd, ha, hk, hdp, q⟩ := h
  obtain ⟨its, rv, hl, hz⟩ := I.list hs
  rw [Vals.ref1 r]
  have e := each_of rv hd
  have hlen : ds.length ≤ sizeLine := by rw [← dps_len hd]; exact hz
  refine PySem.W.sorted_data (enc := id) hl.isList e (each_reads I (each_of rv (dps_mono ex _ _ hd))) (by rw [List.map_id]; exact ha) (by rw [List.map_id]; exact hk) hlen (fun b hb => ?_) fun out h1 h2 => ?_
  · have := hdp b hb
    show X.A.units + 2 + b.depth < cLine
    omega
  · obtain ⟨ys, r1, d1⟩ := of_each h2
    obtain ⟨ep, he'⟩ := PyProof.Rows.sortedAll_at s.heap its out.toArray
    have hl2 : ys.length ≤ sizeLine := by rw [r1.length, h1]; exact hlen
    exact ⟨.ref _, upd H (s.heap.objs.size + 1) (.lst ys), I.laid (t' := s.toks) (fun _ _ => PyProof.Rows.sortedAll_old) (Nat.le_succ _) ⟨hl2, out, ep, by simpa using r1, he'⟩, rfl, q ys _ d1 (I.hok.fresh (Nat.le_succ _))⟩
/-- min, max of a list of texts -/
theorem reads_str {h : Heap} {v : Value} {x : Str} {as : List Addr} (r : Reads h v (.str x) as) : RelV (.str x) v := by
  cases r
  exact ⟨_, rfl⟩
def rMinD (K : PySem.W.Frag) : List V → Hp → VK → Prop := fun vs H Q => ∃ (a : Addr) (x y : Str), vs = [V.ref a] ∧ SqL K H a [.str x, .str y] ∧ Q (.str (if y.cps.toList < x.cps.toList then y else x)) H
def rMaxD (K : PySem.W.Frag) : List V → Hp → VK → Prop := fun vs H Q => ∃ (a : Addr) (x y : Str), vs = [V.ref a] ∧ SqL K H a [.str x, .str y] ∧ Q (.str (if x.cps.toList < y.cps.toList then y else x)) H
theorem dataLt_str {x y : Str} : PySem.W.dataLt (.str x) (.str y) = decide (x.cps.toList < y.cps.toList) := by
  have h := congrFun (congrFun (PySem.W.dataLe_str (fun b : Str => b)) y) x
  rw [PySem.W.dataLe_eq] at h
  have h2 : (!PySem.W.dataLt (.str x) (.str y)) = decide (y.cps.toList ≤ x.cps.toList) := h
  rw [← PySem.W.not_lt_str] at h2
  simpa using h2
theorem cr_minS (hc : X.calm = true) (hu : X.A.units + 64 < cLine) : CallR X (.builtin "min") (rMinD X.K) := by
  intro pins s σ H vs us Q I r h
  obtain ⟨a, x, y, rfl, hs, q⟩ := h
  obtain ⟨its, rv, hl, hz⟩ := I.list hs
  rw [Vals.ref1 r]
  obtain ⟨as, hr⟩ := all_reads I (each_of rv (strs_dps [x, y]))
  refine PySem.W.min_list_data (I.ok.hd hc) hl.isList (by simpa using hr) ⟨fun d hd e he => ?_, fun d hd => ?_⟩ (by show X.A.units + 1 + 0 < cLine; omega) fun i v h' tk bs hv hr2 hk => ?_
  · simp at hd he
    rcases hd with rfl | rfl <;> rcases he with rfl | rfl <;> rfl
  · simp at hd
    rcases hd with rfl | rfl <;> exact fun z => by cases z
  · refine ⟨.str (if y.cps.toList < x.cps.toList then y else x), H, I.kept hk, reads_str (h := h') (as := bs) ?_, q⟩
    rw [show PyData.str (if y.cps.toList < x.cps.toList then y else x) = PySem.W.minD (.str x) ([y].map .str) from ?_]
    · exact hr2
    · unfold PySem.W.minD
      simp only [List.map_cons, List.map_nil, List.foldl_cons, List.foldl_nil, dataLt_str, decide_eq_true_eq]
      split <;> rfl
theorem cr_maxS (hc : X.calm = true) (hu : X.A.units + 64 < cLine) : CallR X (.builtin "max") (rMaxD X.K) := by
  intro pins s σ H vs us Q I r h
  obtain ⟨a, x, y, rfl, hs, q⟩ := h
  obtain ⟨its, rv, hl, hz⟩ := I.list hs
  rw [Vals.ref1 r]
  obtain ⟨as, hr⟩ := all_reads I (each_of rv (strs_dps [x, y]))
  refine PySem.W.max_list_data (I.ok.hd hc) hl.isList (by simpa using hr) ⟨fun d hd e he => ?_, fun d hd => ?_⟩ (by show X.A.units + 1 + 0 < cLine; omega) fun i v h' tk bs hv hr2 hk => ?_
  · simp at hd he
    rcases hd with rfl | rfl <;> rcases he with rfl | rfl <;> rfl
  · simp at hd
    rcases hd with rfl | rfl <;> exact fun z => by cases z
  · refine ⟨.str (if x.cps.toList < y.cps.toList then y else x), H, I.kept hk, reads_str (h := h') (as := bs) ?_, q⟩
    rw [show PyData.str (if x.cps.toList < y.cps.toList then y else x) = PySem.W.maxD (.str x) ([y].map .str) from ?_]
    · exact hr2
    · unfold PySem.W.maxD
      simp only [List.map_cons, List.map_nil, List.foldl_cons, List.foldl_nil, dataLt_str, decide_eq_true_eq]
      split <;> rfl
/-- list + list -/
def rCatL (K : PySem.W.Frag) : R2 := fun x y H Q => ∃ l b xs zs, x = .ref l ∧ y = .ref b ∧ SqL K H l xs ∧ SqL K H b zs ∧ xs.length + zs.length ≤ sizeLine ∧ ∀ p, H p = none → Q (.ref p) (upd H p (.lst (xs ++ zs)))
theorem op_catL : OpR X (binaryOp .Add) (rCatL X.K) := by
  intro pins s σ H x y v u Q I rx ry h
  obtain ⟨l, b, xs, zs, rfl, rfl, hH, hB, hz, q⟩ := h
  cases rx
  cases ry
  obtain ⟨its, r, hl, z⟩ := I.list hH
  obtain ⟨its2, r2, hl2, z2⟩ := I.list hB
  have e1 := r.length
  have e2 := r2.length
  have hl' := hl.isList
  have hl2' := hl2.isList
  obtain ⟨⟨cls, dd, data, sl⟩, ho, hc, n, hd⟩ := id hl'
  obtain ⟨⟨cls2, dd2, data2, sl2⟩, ho2, hc2, n2, hd2⟩ := id hl2'
  simp only at hc hd hc2 hd2
  subst hc hd hc2 hd2
  refine concat_meets ⟨_, ho, rfl⟩ ⟨_, ho2, rfl⟩ noFill_list_add seq_list_add PySem.F.slot_list_add PySem.F.entry_list_add (PySem.F.args_list_add_2 _ _) (list_addW l b its.toArray its2.toArray n n2 dd dd2 sl sl2 (by simpa [← e1, ← e2] using hz)) ⟨ho, ho2, ?_⟩
  have ea : its.toArray ++ its2.toArray = (its ++ its2).toArray := by simp
  rw [ea]
  exact ⟨.ref _, _, I.lnew (t' := s.toks) (r.append r2) (by rw [List.length_append]; omega), rfl, q _ I.fresh⟩
end
section
variable {K : PySem.W.Frag} {G : Gm} {ta tb : TE}
theorem rg_catL {ds es : List PyData} (hz : ds.length + es.length ≤ sizeLine) : RG K (rCatL K) (.list ds) (.list es) (.list (ds ++ es)) := fun u v N H ex h1 h2 Q q => by
  obtain ⟨p, xs, rfl, hs, hd⟩ := dp_lst h1
  obtain ⟨p', ys, rfl, hs', hd'⟩ := dp_lst h2
  have l1 := dps_len hd
  have l2 := dps_len hd'
  refine ⟨p, p', xs, ys, rfl, rfl, ex_l ex hs, ex_l ex hs', by omega, fun t ht => ?_⟩
  have nn : Ex N (upd N t (.lst (xs ++ ys))) := Ex.new (fresh_back ex ht)
  exact q _ _ _ (.new ex ht) (.lst upd_same (dps_app (dps_mono nn _ _ hd) (dps_mono nn _ _ hd')))
theorem rg_catS {x y : Str} (hz : x.length + y.length ≤ sizeLine) : RG K (fun x y H Q => ∃ i j, x = .str i ∧ y = .str j ∧ i.length + j.length ≤ sizeLine ∧ Q (.str (i ++ j)) H) (.str x) (.str y) (.str (x ++ y)) :=
  rg_val (fun _ => .str _) fun u v H N _ h1 h2 Q q => ⟨x, y, dp_str h1, dp_str h2, hz, q⟩
theorem rg_signIn {c : Nat} {z : Str} : RG K (fun x y H Q => ∃ (c : Nat) (z : Str), x = .str ⟨#[c]⟩ ∧ y = .str z ∧ Q (.bl (decide (c ∈ z.cps.toList))) H) (.str ⟨#[c]⟩) (.str z) (.bool (decide (c ∈ z.cps.toList))) :=
  rg_val (fun _ => .bl _) fun u v H N _ h1 h2 Q q => ⟨c, z, dp_str h1, dp_str h2, q⟩
theorem rg_signNi {c : Nat} {z : Str} : RG K (fun x y H Q => ∃ (c : Nat) (z : Str), x = .str ⟨#[c]⟩ ∧ y = .str z ∧ Q (.bl (!decide (c ∈ z.cps.toList))) H) (.str ⟨#[c]⟩) (.str z) (.bool (!decide (c ∈ z.cps.toList))) :=
  rg_val (fun _ => .bl _) fun u v H N _ h1 h2 Q q => ⟨c, z, dp_str h1, dp_str h2, q⟩
theorem cg_sortD {ds : List PyData} (h1 : PySem.W.AllAlike ds) (h2 : PySem.W.Sortable ds) (h3 : ∀ d ∈ ds, d.depth ≤ 8) : CG K (rSortD K) [.list ds] (.list (ds.mergeSort (PySem.W.dataLe false id))) := fun vs N H ex h Q q => by
  cases h with
  | cons a b =>
    cases b
    obtain ⟨p, ys, rfl, hq, hd⟩ := dp_lst a
    exact ⟨p, ys, ds, N, rfl, ex_l ex hq, ex, hd, h1, h2, h3, fun zs l hz hl => q _ _ _ (.new ex hl) (.lst upd_same (dps_mono (Ex.new (fresh_back ex hl)) _ _ hz))⟩
theorem cg_minS {x y : Str} : CG K (rMinD K) [.list [.str x, .str y]] (.str (if y.cps.toList < x.cps.toList then y else x)) := cg_val (fun _ => .str _) fun vs H N ex h Q q => by
  cases h with
  | cons a b =>
    cases b
    obtain ⟨p, ys, rfl, hq, hd⟩ := dp_lst a
    rw [dps_strs (xs := [x, y]) hd] at hq
    exact ⟨p, x, y, rfl, ex_l ex hq, q⟩
theorem cg_maxS {x y : Str} : CG K (rMaxD K) [.list [.str x, .str y]] (.str (if x.cps.toList < y.cps.toList then y else x)) := cg_val (fun _ => .str _) fun vs H N ex h Q q => by
  cases h with
  | cons a b =>
    cases b
    obtain ⟨p, ys, rfl, hq, hd⟩ := dp_lst a
    rw [dps_strs (xs := [x, y]) hd] at hq
    exact ⟨p, x, y, rfl, ex_l ex hq, q⟩
end
end K13
namespace K13
open PySem PySem.Spec PyProof.Rows L2
open Evl (Ex fresh_back ex_l ex_t)
/-- from (L, N, H) to (L', N', H'): what stands outside L stays -/
structure Tr (L : SH) (N H : Hp) (L' : SH) (N' H' : Hp) : Prop where
  a : Ex N N'
  b : Ex N' H'
  c : ∀ x o, x ∉ keysH L → H x = some o → H' x = some o
  d : ∀ x o, x ∉ keysH L → N x = none → H x = some o → N' x = none
  e : ∀ x, x ∈ keysH L' → x ∈ keysH L ∨ H x = none
  f : ∀ x o, H x = some o → ∃ o', H' x = some o'
  n : ∀ x ps, N' x = some (.tbl ps) → N x = some (.tbl ps)
section
variable {K : PySem.W.Frag} {L L1 L2 : SH} {N H N1 H1 N2 H2 : Hp}
theorem Tr.of (w : Nw N H N1 H1) : Tr L N H L N1 H1 := ⟨w.a, w.b, fun x o _ => w.c x o, fun x o _ => w.d x o, fun _ h => .inl h, fun x o h => ⟨o, w.c x o h⟩, w.n⟩
theorem Tr.refl (e : Ex N H) : Tr L N H L N H := .of (.refl e)
theorem Tr.trans (p : Tr L N H L1 N1 H1) (q : Tr L1 N1 H1 L2 N2 H2) : Tr L N H L2 N2 H2 := by
  have key : ∀ x o, x ∉ keysH L → H x = some o → x ∉ keysH L1 := fun x o h e z => by
    rcases p.e x z with y | y
    · exact h y
    · rw [e] at y; cases y
  refine ⟨p.a.trans q.a, q.b, fun x o h e => q.c x o (key x o h e) (p.c x o h e), fun x o h n e => q.d x o (key x o h e) (p.d x o h n e) (p.c x o h e), fun x h => ?_, fun x o e => ?_, fun x ps h => p.n x ps (q.n x ps h)⟩
  · rcases q.e x h with z | z
    · exact p.e x z
    · cases e : H x with
      | none => exact .inr rfl
      | some o =>
        obtain ⟨o', e'⟩ := p.f x o e
        rw [z] at e'
        cases e'
  · obtain ⟨o', e'⟩ := p.f x o e
    exact q.f x o' e'
/-- the object at p changes -/
def putL (p : Addr) (o : MO) : SH → SH
  | [] => []
  | (q, u) :: r => if q = p then (p, o) :: r else (q, u) :: putL p o r
theorem putL_keys {p : Addr} {o : MO} : ∀ {L : SH}, keysH (putL p o L) = keysH L
  | [] => rfl
  | (q, u) :: r => by
    unfold putL
    split
    · rename_i h
      simp [keysH, h]
    · have := putL_keys (p := p) (o := o) (L := r)
      simp only [keysH] at this
      simp [keysH, this]
theorem putL_mem {p : Addr} {o : MO} : ∀ {L : SH}, (keysH L).Nodup → ∀ {x : Addr} {u : MO}, (x, u) ∈ putL p o L → (x = p ∧ u = o) ∨ (x ≠ p ∧ (x, u) ∈ L)
  | [], _, x, u, h => by cases h
  | (q, v) :: r, nd, x, u, h => by
    unfold putL at h
    have nd' : q ∉ keysH r ∧ (keysH r).Nodup := by simpa [keysH] using nd
    split at h
    · rename_i e
      rcases List.mem_cons.mp h with z | z
      · cases z; exact .inl ⟨rfl, rfl⟩
      · refine .inr ⟨fun e2 => nd'.1 ?_, List.mem_cons_of_mem _ z⟩
        rw [e, ← e2]
        exact List.mem_map.mpr ⟨_, z, rfl⟩
    · rename_i e
      rcases List.mem_cons.mp h with z | z
      · cases z; exact .inr ⟨e, by simp⟩
      · rcases putL_mem nd'.2 z with y | y
        · exact .inl y
        · exact .inr ⟨y.1, List.mem_cons_of_mem _ y.2⟩
theorem mem_keys {p : Addr} {o : MO} (h : (p, o) ∈ L) : p ∈ keysH L := List.mem_map.mpr ⟨_, h, rfl⟩
/-- writing at p: p is not known -/
theorem Tr.put {p : Addr} {o : MO} {u : HO} {mo : MO} (m : Ms K L N H) (e : Ex N H) (h : (p, mo) ∈ L) : Tr L N H (putL p o L) N (upd H p u) := by
  obtain ⟨n, b⟩ := m.at_ p mo h
  have pk : ∀ x, x ∉ keysH L → x ≠ p := fun x hx z => hx (z ▸ mem_keys h)
  refine ⟨Ex.refl N, fun x v q => ?_, fun x v hx q => ?_, fun x v hx hn _ => hn, fun x hx => ?_, fun x v q => ?_, fun _ _ h => h⟩
  · rw [upd_ne (ne_of_none q n)]
    exact e x v q
  · rw [upd_ne (pk x hx)]
    exact q
  · rw [putL_keys] at hx
    exact .inl hx
  · by_cases z : x = p
    · subst z; exact ⟨u, upd_same⟩
    · exact ⟨v, by rw [upd_ne z]; exact q⟩
theorem Ms.put {p : Addr} {o : MO} {u : HO} {mo : MO} (m : Ms K L N H) (h : (p, mo) ∈ L) (k : MoAt K N (upd H p u) p o) : Ms K (putL p o L) N (upd H p u) := by
  refine ⟨by rw [putL_keys]; exact m.nd, fun x v hx => ?_⟩
  rcases putL_mem m.nd hx with ⟨rfl, rfl⟩ | ⟨h1, h2⟩
  · exact ⟨(m.at_ _ _ h).1, k⟩
  · obtain ⟨a, b⟩ := m.at_ x v h2
    exact ⟨a, mo_mono (Ex.refl N) (fun w hw => by rw [upd_ne h1]; exact hw) b⟩
/-- a new object that may change -/
theorem Tr.new {p : Addr} {o : MO} {u : HO} (e : Ex N H) (h : H p = none) : Tr L N H ((p, o) :: L) N (upd H p u) := by
  refine ⟨Ex.refl N, e.trans (Ex.new h), fun x v _ q => Ex.new h x v q, fun x v hx hn _ => hn, fun x hx => ?_, fun x v q => ⟨v, Ex.new h x v q⟩, fun _ _ h => h⟩
  rcases List.mem_cons.mp hx with z | z
  · exact .inr (z ▸ h)
  · exact .inl z
theorem Ms.new {p : Addr} {o : MO} {u : HO} (m : Ms K L N H) (e : Ex N H) (h : H p = none) (k : MoAt K N (upd H p u) p o) : Ms K ((p, o) :: L) N (upd H p u) := by
  refine ⟨?_, fun x v hx => ?_⟩
  · show (p :: keysH L).Nodup
    refine List.nodup_cons.mpr ⟨fun z => ?_, m.nd⟩
    obtain ⟨⟨q, v⟩, hq, rfl⟩ := List.mem_map.mp z
    obtain ⟨w, hw⟩ := mo_some (m.at_ _ _ hq).2
    rw [h] at hw
    cases hw
  · rcases List.mem_cons.mp hx with z | z
    · cases z
      exact ⟨fresh_back e h, k⟩
    · obtain ⟨a, b⟩ := m.at_ x v z
      exact ⟨a, mo_mono (Ex.refl N) (fun w hw => Ex.new h x w hw) b⟩
end

section
variable {K : PySem.W.Frag} {H : Hp}
theorem wds_app : ∀ {gs hs : List GV} {vs us : List V}, WdAll K H vs gs → WdAll K H us hs → WdAll K H (vs ++ us) (gs ++ hs)
  | [], _, _, _, h, k => by cases h; exact k
  | d :: ds, _, _, _, h, k => by
    cases h with
    | cons h1 h2 => exact .cons h1 (wds_app h2 k)
theorem wds_erase : ∀ (k : Nat) {gs : List GV} {vs : List V}, WdAll K H vs gs → WdAll K H (vs.eraseIdx k) (gs.eraseIdx k)
  | _, [], _, h => by cases h; exact .nil
  | 0, g :: gs, _, h => by
    cases h with
    | cons h1 h2 => exact h2
  | k + 1, g :: gs, _, h => by
    cases h with
    | cons h1 h2 => exact .cons h1 (wds_erase k h2)
theorem wds_set : ∀ (k : Nat) {gs : List GV} {vs : List V} {v : V} {g : GV}, WdAll K H vs gs → Wd K H v g → WdAll K H (vs.set k v) (gs.set k g)
  | _, [], _, _, _, h, _ => by cases h; exact .nil
  | 0, g :: gs, _, _, _, h, k => by
    cases h with
    | cons h1 h2 => exact .cons k h2
  | k + 1, g :: gs, _, _, _, h, hk => by
    cases h with
    | cons h1 h2 => exact .cons h1 (wds_set k h2 hk)
theorem kvs_len {α : Type} : ∀ {gs : List (α × GV)} {vs : List (α × V)}, KvAll K H vs gs → vs.length = gs.length
  | [], _, h => by cases h; rfl
  | g :: gs, _, h => by
    cases h with
    | cons h1 h2 => simp [kvs_len h2]
def putG (f : Str) (v : GV) : List (Str × GV) → List (Str × GV)
  | [] => [(f, v)]
  | (g, x) :: r => if g = f then (g, v) :: r else (g, x) :: putG f v r
theorem kvs_put (f : Str) : ∀ {gs : List (Str × GV)} {vs : List (Str × V)} {v : V} {g : GV}, KvAll K H vs gs → Wd K H v g → KvAll K H (putF f v vs) (putG f g gs)
  | [], _, _, _, h, k => by cases h; exact .cons k .nil
  | (x, u) :: gs, _, _, _, h, k => by
    cases h with
    | cons h1 h2 =>
      unfold putF putG
      split
      · exact .cons k h2
      · exact .cons h1 (kvs_put f h2 k)
end
/-- read-only: worth g -/
def EV (K : PySem.W.Frag) (L : SH) (G : Gm) (te : TE) (g : GV) : Prop := ∀ σ N H, En K L G σ N H → Ex N H → ∀ Q : VK, (∀ v N' H', Nw N H N' H' → Wd K N' v g → Q v H') → te σ H Q
def AV (K : PySem.W.Frag) (L : SH) (G : Gm) (ta : TA) (gs : List GV) : Prop := ∀ σ N H, En K L G σ N H → Ex N H → ∀ Q : List V → Hp → Prop, (∀ vs N' H', Nw N H N' H' → WdAll K N' vs gs → Q vs H') → ta σ H Q
/-- with changes: R tells the value and the objects behind -/
def EM (K : PySem.W.Frag) (L : SH) (G : Gm) (te : TE) (R : GV → SH → Prop) : Prop := ∀ σ N H, En K L G σ N H → Ex N H → ∀ Q : VK, (∀ v g L' N' H', Tr L N H L' N' H' → Ms K L' N' H' → Wd K N' v g → R g L' → Q v H') → te σ H Q
def AM (K : PySem.W.Frag) (L : SH) (G : Gm) (ta : TA) (R : List GV → SH → Prop) : Prop := ∀ σ N H, En K L G σ N H → Ex N H → ∀ Q : List V → Hp → Prop, (∀ vs gs L' N' H', Tr L N H L' N' H' → Ms K L' N' H' → WdAll K N' vs gs → R gs L' → Q vs H') → ta σ H Q
def TM (K : PySem.W.Frag) (L : SH) (G : Gm) (tt : TT) (R : Bool → SH → Prop) : Prop := ∀ σ N H, En K L G σ N H → Ex N H → ∀ Q : Bool → Hp → Prop, (∀ b L' N' H', Tr L N H L' N' H' → Ms K L' N' H' → R b L' → Q b H') → tt σ H Q
def SM (K : PySem.W.Frag) (L : SH) (G : Gm) (ts : TS) (R : Gm → SH → Prop) : Prop := ∀ σ N H (D : Ends), En K L G σ N H → Ex N H → (∀ σ' G' L' N' H', Tr L N H L' N' H' → En K L' G' σ' N' H' → R G' L' → D.nx σ' H') → ts D σ H
def BM (K : PySem.W.Frag) (L : SH) (G : Gm) (ts : TS) (R : GV → SH → Prop) : Prop := ∀ σ N H (D : Ends), En K L G σ N H → Ex N H →
  (∀ v g L' N' H', Tr L N H L' N' H' → Ms K L' N' H' → Wd K N' v g → R g L' → D.rt v H') → (∀ σ' L' N' H', Tr L N H L' N' H' → Ms K L' N' H' → R (.d .none) L' → D.nx σ' H') → ts D σ H
/-- a promise on objects: P args objects (what comes back, the objects then) -/
def spM (K : PySem.W.Frag) (P : List GV → SH → (GV → SH → Prop) → Prop) : Sp := fun vs H Q _ => ∃ gs L N R, Ex N H ∧ WdAll K N vs gs ∧ Ms K L N H ∧ P gs L R ∧ ∀ v g L' N' H', Tr L N H L' N' H' → Ms K L' N' H' → Wd K N' v g → R g L' → Q v H'
section
variable {K : PySem.W.Frag} {L L1 : SH} {G G' : Gm} {ta tb te : TE} {tr : TA} {tt : TT} {ts tz tu tw : TS} {g : GV} {gs : List GV} {d : PyData} {R R' : GV → SH → Prop}
theorem ev_d (h : EG K L G te d) : EV K L G te (.d d) := h
theorem eg_ev (h : EV K L G te (.d d)) : EG K L G te d := h
theorem ev_var {n : Nat} (h : G[n]? = some (some g)) : EV K L G (tVar n) g := fun σ N H n e Q q => by
  obtain ⟨v, e1, e2⟩ := n.nm.2 _ _ h
  exact ⟨v, e1, q v N H (.refl e) e2⟩
theorem av_nil : AV K L G tNil [] := fun _ N H _ ex _ q => q [] N H (.refl ex) .nil
theorem av_cons (h : EV K L G ta g) (hr : AV K L G tr gs) : AV K L G (tCons ta tr) (g :: gs) := fun σ N H n ex Q q =>
  h σ N H n ex _ fun x N1 H1 w1 k1 => hr σ N1 H1 (n.step w1) w1.b _ fun xs N2 H2 w2 k2 => q _ N2 H2 (w1.trans w2) (.cons (wd_mono w2.a _ k1) k2)
/-- fields -/
theorem kv_look {α : Type} [BEq α] [LawfulBEq α] {N : Hp} {f : α} : ∀ {vs : List (α × V)} {gs : List (α × GV)} {g : GV}, KvAll K N vs gs → gs.lookup f = some g → ∃ v, vs.lookup f = some v ∧ Wd K N v g
  | _, [], _, h, e => by cases e
  | _, (k, g') :: gs, g, h, e => by
    cases h with
    | cons h1 h2 =>
      rw [List.lookup_cons] at e ⊢
      by_cases q : (f == k) = true
      · rw [q] at e ⊢
        cases e
        exact ⟨_, rfl, h1⟩
      · rw [Bool.eq_false_iff.mpr q] at e ⊢
        exact kv_look h2 e
theorem kv_none {α : Type} [BEq α] [LawfulBEq α] {N : Hp} {f : α} : ∀ {vs : List (α × V)} {gs : List (α × GV)}, KvAll K N vs gs → gs.lookup f = none → vs.lookup f = none
  | _, [], h, e => by cases h; rfl
  | _, (k, g') :: gs, h, e => by
    cases h with
    | cons h1 h2 =>
      rw [List.lookup_cons] at e ⊢
      by_cases q : (f == k) = true
      · rw [q] at e
        cases e
      · rw [Bool.eq_false_iff.mpr q] at e ⊢
        exact kv_none h2 e
theorem ev_fld {a C dx : Addr} {f : Str} {fs : List (Str × GV)} (h : EV K L G te (.r a)) (hm : (a, .ins C dx fs) ∈ L) (hc : Cls K C) (hn : NoAttr K C f) (hf : fs.lookup f = some g) : EV K L G (tFld K te f) g := fun σ N H n ex Q q =>
  h σ N H n ex _ fun x N1 H1 w1 k1 => by
    obtain ⟨_, vs, e1, e2⟩ := (n.ms.step w1).at_ _ _ hm
    obtain ⟨v, e3, e4⟩ := kv_look e2 hf
    exact ⟨a, C, dx, vs, v, k1, e1, hc, hn, e3, q v N1 H1 w1 e4⟩
/-- lists that change -/
theorem wds_atI {N : Hp} {vs : List V} {gs : List GV} {i : Int} (h : WdAll K N vs gs) (e : atI gs i = some g) : ∃ v, atI vs i = some v ∧ Wd K N v g := by
  unfold atI at e ⊢
  rw [wds_len h]
  cases q : ixN gs.length i with
  | none => rw [q] at e; cases e
  | some j => rw [q] at e; exact wds_at h e
theorem ev_ixM {p : Addr} {i : Int} (ha : EV K L G ta (.r p)) (hb : EG K L G tb (.int i)) (hm : (p, .lst gs) ∈ L) (h : atI gs i = some g) : EV K L G (tOp (rIxL K) ta tb) g := fun σ N H n ex Q q =>
  ha σ N H n ex _ fun x N1 H1 w1 k1 => hb σ N1 H1 (n.step w1) w1.b _ fun y N2 H2 w2 k2 => by
    obtain ⟨_, vs, e1, e2⟩ := (n.ms.step (w1.trans w2)).at_ _ _ hm
    obtain ⟨v, e3, e4⟩ := wds_atI e2 h
    exact ⟨p, vs, i, v, k1, dp_int k2, SqL.of e1, e3, q v N2 H2 (w1.trans w2) e4⟩
theorem eg_lenM {p : Addr} (ha : AV K L G tr [.r p]) (hm : (p, .lst gs) ∈ L) : EG K L G (tCB (fun xs H Q => ∃ p ys, xs = [.ref p] ∧ (SqL K H p ys ∨ SqT K H p ys) ∧ Q (.int ys.length) H) tr) (.int (gs.length : Nat)) := fun σ N H n ex Q q =>
  ha σ N H n ex _ fun x N1 H1 w1 k1 => by
    cases k1 with
    | cons a b =>
      cases b
      obtain ⟨_, vs, e1, e2⟩ := (n.ms.step w1).at_ _ _ hm
      exact ⟨p, vs, by rw [show _ = V.ref p from a], .inl (SqL.of e1), by rw [wds_len e2]; exact q _ N1 H1 w1 (.int _)⟩
theorem em_ev (h : EV K L G te g) : EM K L G te (fun g' L' => g' = g ∧ L' = L) := fun σ N H n ex Q q => h σ N H n ex _ fun v N1 H1 w1 k1 => q v g L N1 H1 (.of w1) (n.ms.step w1) k1 ⟨rfl, rfl⟩
theorem em_eg (h : EG K L G te d) : EM K L G te (fun g' L' => g' = .d d ∧ L' = L) := em_ev h
theorem am_av (h : AV K L G tr gs) : AM K L G tr (fun g' L' => g' = gs ∧ L' = L) := fun σ N H n ex Q q => h σ N H n ex _ fun v N1 H1 w1 k1 => q v gs L N1 H1 (.of w1) (n.ms.step w1) k1 ⟨rfl, rfl⟩
theorem tm_tg {b : Bool} (h : TG K L G tt b) : TM K L G tt (fun b' L' => b' = b ∧ L' = L) := fun σ N H n ex Q q => h σ N H n ex _ fun N1 H1 w1 => q b L N1 H1 (.of w1) (n.ms.step w1) ⟨rfl, rfl⟩
theorem sm_sg (h : SG K L G ts G') : SM K L G ts (fun g' L' => g' = G' ∧ L' = L) := fun σ N H D n ex q => h σ N H D n ex fun σ' N1 H1 w1 n1 => q σ' G' L N1 H1 (.of w1) n1 ⟨rfl, rfl⟩
theorem em_imp (h : EM K L G te R) (k : ∀ g L', R g L' → R' g L') : EM K L G te R' := fun σ N H n ex Q q => h σ N H n ex _ fun v g L1 N1 H1 t1 m1 k1 r => q v g L1 N1 H1 t1 m1 k1 (k _ _ r)
theorem bm_imp (h : BM K L G ts R) (k : ∀ g L', R g L' → R' g L') : BM K L G ts R' := fun σ N H D n ex q1 q2 => h σ N H D n ex (fun v g L1 N1 H1 t1 m1 k1 r => q1 v g L1 N1 H1 t1 m1 k1 (k _ _ r)) fun σ' L1 N1 H1 t1 m1 r => q2 σ' L1 N1 H1 t1 m1 (k _ _ r)
theorem sm_imp {Rs Rs' : Gm → SH → Prop} (h : SM K L G ts Rs) (k : ∀ g L', Rs g L' → Rs' g L') : SM K L G ts Rs' := fun σ N H D n ex q => h σ N H D n ex fun σ' G1 L1 N1 H1 t1 n1 r => q σ' G1 L1 N1 H1 t1 n1 (k _ _ r)
/-- names and objects behind a step -/
theorem En.trs {σ : L2.St} {N H N1 H1 : Hp} (n : En K L G σ N H) (t : Tr L N H L1 N1 H1) (m : Ms K L1 N1 H1) : En K L1 G σ N1 H1 := ⟨n.nm.mono t.a, m⟩
theorem bm_ret (h : EM K L G te R) : BM K L G (tRet te) R := fun σ N H D n ex q _ => h σ N H n ex _ q
theorem bm_end (h : R (.d .none) L) : BM K L G tNext R := fun σ N H D n ex _ q => q σ L N H (.refl ex) n.ms h
theorem bm_seq {Rs : Gm → SH → Prop} (h : SM K L G ts Rs) (k : ∀ G' L', Rs G' L' → BM K L' G' tz R) : BM K L G (tSeq ts tz) R := fun σ N H D n ex q1 q2 => h σ N H _ n ex fun σ1 G1 L1 N1 H1 t1 n1 r =>
  k G1 L1 r σ1 N1 H1 D n1 t1.b (fun v g L2 N2 H2 t2 => q1 v g L2 N2 H2 (t1.trans t2)) fun σ2 L2 N2 H2 t2 => q2 σ2 L2 N2 H2 (t1.trans t2)
theorem sm_seq {Rs Rt : Gm → SH → Prop} (h : SM K L G ts Rs) (k : ∀ G' L', Rs G' L' → SM K L' G' tz Rt) : SM K L G (tSeq ts tz) Rt := fun σ N H D n ex q => h σ N H _ n ex fun σ1 G1 L1 N1 H1 t1 n1 r =>
  k G1 L1 r σ1 N1 H1 D n1 t1.b fun σ2 G2 L2 N2 H2 t2 => q σ2 G2 L2 N2 H2 (t1.trans t2)
theorem bm_sm {Rs : Gm → SH → Prop} (h : SM K L G ts Rs) (k : ∀ G' L', Rs G' L' → R (.d .none) L') : BM K L G ts R := fun σ N H D n ex _ q => h σ N H D n ex fun σ1 G1 L1 N1 H1 t1 n1 r => q σ1 L1 N1 H1 t1 n1.ms (k _ _ r)
theorem sm_asg {m : Nat} (h : EM K L G te R) : SM K L G (tAsg te (gName m)) (fun G' L' => ∃ g, G' = G.set m (some g) ∧ R g L') := fun σ N H D n ex q =>
  h σ N H n ex _ fun v g L1 N1 H1 t1 m1 k1 r => q _ (G.set m (some g)) L1 N1 H1 t1 ((n.trs t1 m1).setW k1) ⟨g, rfl, r⟩
theorem sm_par {m l : Nat} {Ra : List GV → SH → Prop} (h : AM K L G tr Ra) (h2 : ∀ gs L', Ra gs L' → gs.length = 2) : SM K L G (tPar m l tr) (fun G' L' => ∃ g g', G' = (G.set m (some g)).set l (some g') ∧ Ra [g, g'] L') := fun σ N H D n ex q =>
  h σ N H n ex _ fun vs gs L1 N1 H1 t1 m1 k1 r => by
    have l := h2 _ _ r
    match gs, l, k1 with
    | [g, g'], _, .cons a1 (.cons b1 .nil) => exact ⟨_, _, rfl, q _ _ L1 N1 H1 t1 (((n.trs t1 m1).setW a1).setW b1) ⟨g, g', rfl, r⟩⟩
theorem sm_drop (h : EM K L G te R) : SM K L G (tDrop te) (fun G' L' => G' = G ∧ ∃ g, R g L') := fun σ N H D n ex q =>
  h σ N H n ex _ fun v g L1 N1 H1 t1 m1 k1 r => q _ G L1 N1 H1 t1 (n.trs t1 m1) ⟨rfl, g, r⟩
theorem sm_next : SM K L G tNext (fun G' L' => G' = G ∧ L' = L) := fun σ N H D n ex q => q σ G L N H (.refl ex) n ⟨rfl, rfl⟩
theorem sm_if {b : Bool} {Rs : Gm → SH → Prop} (h : TG K L G tt b) (h1 : b = true → SM K L G tu Rs) (h2 : b = false → SM K L G tw Rs) : SM K L G (tIfS tt tu tw) Rs := fun σ N H D n ex q => h σ N H n ex _ fun N1 H1 w1 => by
  cases b with
  | true => exact h1 rfl σ N1 H1 D (n.step w1) w1.b fun σ2 G2 L2 N2 H2 t2 => q σ2 G2 L2 N2 H2 ((Tr.of w1).trans t2)
  | false => exact h2 rfl σ N1 H1 D (n.step w1) w1.b fun σ2 G2 L2 N2 H2 t2 => q σ2 G2 L2 N2 H2 ((Tr.of w1).trans t2)
/-- if c: return ..; the rest -/
theorem bm_when {b : Bool} (h : TG K L G tt b) (h1 : b = true → BM K L G tu R) (h0 : b = true → ∀ L', ¬ R (.d .none) L') (h2 : b = false → BM K L G tz R) : BM K L G (tSeq (tIfS tt tu tNext) tz) R := fun σ N H D n ex q1 q2 => h σ N H n ex _ fun N1 H1 w1 => by
  cases b with
  | true => exact h1 rfl σ N1 H1 _ (n.step w1) w1.b (fun v g L2 N2 H2 t2 => q1 v g L2 N2 H2 ((Tr.of w1).trans t2)) fun σ2 L2 N2 H2 t2 m2 r => absurd r (h0 rfl L2)
  | false => exact h2 rfl σ N1 H1 D (n.step w1) w1.b (fun v g L2 N2 H2 t2 => q1 v g L2 N2 H2 ((Tr.of w1).trans t2)) fun σ2 L2 N2 H2 t2 => q2 σ2 L2 N2 H2 ((Tr.of w1).trans t2)
theorem am_nil : AM K L G tNil (fun gs L' => gs = [] ∧ L' = L) := fun _ N H n ex _ q => q [] [] L N H (.refl ex) n.ms .nil ⟨rfl, rfl⟩
theorem am_cons {Ra : GV → List GV → SH → Prop} (h : EM K L G ta R) (hr : ∀ g L1, R g L1 → AM K L1 G tr (Ra g)) : AM K L G (tCons ta tr) (fun gs L' => ∃ g r, gs = g :: r ∧ Ra g r L') := fun σ N H n ex Q q =>
  h σ N H n ex _ fun x g L1 N1 H1 t1 m1 k1 r1 => hr g L1 r1 σ N1 H1 (n.trs t1 m1) t1.b _ fun xs gs L2 N2 H2 t2 m2 k2 r2 => q _ (g :: gs) L2 N2 H2 (t1.trans t2) m2 (.cons (wd_mono t2.a _ k1) k2) ⟨g, gs, rfl, r2⟩
/-- an operation on data, its parts with changes -/
theorem em_op {r : R2} {R1 : GV → SH → Prop} {R2' : GV → GV → SH → Prop} (ha : EM K L G ta R1) (hb : ∀ g L1, R1 g L1 → EM K L1 G tb (R2' g))
    (hr : ∀ g L1 g' L2, R1 g L1 → R2' g g' L2 → ∃ d e z, g = .d d ∧ g' = .d e ∧ RG K r d e z ∧ R (.d z) L2) : EM K L G (tOp r ta tb) R := fun σ N H n ex Q q =>
  ha σ N H n ex _ fun x g L1 N1 H1 t1 m1 k1 r1 => hb g L1 r1 σ N1 H1 (n.trs t1 m1) t1.b _ fun y g' L2 N2 H2 t2 m2 k2 r2 => by
    obtain ⟨d, e, z, rfl, rfl, h, k⟩ := hr g L1 g' L2 r1 r2
    exact h x y N2 H2 t2.b (dp_mono t2.a _ _ k1) k2 Q fun v N3 H3 w3 k3 => q v (.d z) L2 N3 H3 ((t1.trans t2).trans (.of w3)) (m2.step w3) k3 k
theorem em_cb {r : List V → Hp → VK → Prop} {Ra : List GV → SH → Prop} (h : AM K L G tr Ra) (hr : ∀ gs L1, Ra gs L1 → ∃ ds z, gs = ds.map .d ∧ CG K r ds z ∧ R (.d z) L1) : EM K L G (tCB r tr) R := fun σ N H n ex Q q =>
  h σ N H n ex _ fun vs gs L1 N1 H1 t1 m1 k1 r1 => by
    obtain ⟨ds, z, rfl, h, k⟩ := hr gs L1 r1
    exact h vs N1 H1 t1.b (dps_of_wds k1) Q fun v N3 H3 w3 k3 => q v (.d z) L1 N3 H3 (t1.trans (.of w3)) (m1.step w3) k3 k
theorem ms_sub {Lf Lr : SH} {N H : Hp} (m : Ms K L N H) (hp : L.Perm (Lf ++ Lr)) : Ms K Lf N H := by
  have nd : (keysH Lf ++ keysH Lr).Nodup := by
    have := (hp.map (fun q : Addr × MO => q.1)).nodup_iff.mp m.nd
    simpa [keysH] using this
  exact ⟨(List.nodup_append.mp nd).1, fun p o h => m.at_ p o (hp.mem_iff.mpr (List.mem_append_left _ h))⟩
theorem tr_frame {Lf Lr Lf' : SH} {N H N1 H1 : Hp} (m : Ms K L N H) (hp : L.Perm (Lf ++ Lr)) (t : Tr Lf N H Lf' N1 H1) (m1 : Ms K Lf' N1 H1) : Tr L N H (Lf' ++ Lr) N1 H1 ∧ Ms K (Lf' ++ Lr) N1 H1 := by
  have nd : (keysH Lf ++ keysH Lr).Nodup := by
    have := (hp.map (fun q : Addr × MO => q.1)).nodup_iff.mp m.nd
    simpa [keysH] using this
  obtain ⟨n1, n2, n3⟩ := List.nodup_append.mp nd
  have sub : ∀ x, x ∈ keysH Lf → x ∈ keysH L := fun x h => by
    obtain ⟨q, hq, rfl⟩ := List.mem_map.mp h
    exact List.mem_map.mpr ⟨q, hp.mem_iff.mpr (List.mem_append_left _ hq), rfl⟩
  have out : ∀ x, x ∈ keysH Lr → x ∉ keysH Lf := fun x h z => n3 x z x h rfl
  have there : ∀ p o, (p, o) ∈ Lr → N p = none ∧ MoAt K N H p o := fun p o h => m.at_ p o (hp.mem_iff.mpr (List.mem_append_right _ h))
  refine ⟨⟨t.a, t.b, fun x o h => t.c x o fun z => h (sub x z), fun x o h => t.d x o fun z => h (sub x z), fun x h => ?_, t.f, t.n⟩, ⟨?_, fun p o h => ?_⟩⟩
  · have h' : x ∈ keysH Lf' ∨ x ∈ keysH Lr := by simpa [keysH] using h
    rcases h' with z | z
    · rcases t.e x z with y | y
      · exact .inl (sub x y)
      · exact .inr y
    · obtain ⟨q, hq, rfl⟩ := List.mem_map.mp z
      exact .inl (List.mem_map.mpr ⟨q, hp.mem_iff.mpr (List.mem_append_right _ hq), rfl⟩)
  · have : (keysH Lf' ++ keysH Lr).Nodup := List.nodup_append.mpr ⟨m1.nd, n2, fun x hx y hy e => by
      subst e
      rcases t.e x hx with z | z
      · exact out x hy z
      · obtain ⟨⟨q, v⟩, hq, rfl⟩ := List.mem_map.mp hy
        obtain ⟨u, hu⟩ := mo_some (there q v hq).2
        rw [z] at hu
        cases hu⟩
    simpa [keysH] using this
  · rcases List.mem_append.mp h with z | z
    · exact m1.at_ p o z
    · obtain ⟨a, b⟩ := there p o z
      obtain ⟨u, hu⟩ := mo_some b
      exact ⟨t.d p u (out p (mem_keys z)) a hu, mo_mono t.a (fun w hw => t.c p w (out p (mem_keys z)) hw) b⟩
/-- f(..) by its promise; Lf its objects, Lr the others -/
theorem em_call {P : List GV → SH → (GV → SH → Prop) → Prop} {E : XK} {Ra : List GV → SH → Prop} (h : AM K L G tr Ra) (hP : ∀ gs L1, Ra gs L1 → ∃ Lf Lr R0, L1.Perm (Lf ++ Lr) ∧ P gs Lf R0 ∧ ∀ g L', R0 g L' → R g (L' ++ Lr)) : EM K L G (tCall (spM K P) [] E tr) R := fun σ N H n ex Q q =>
  h σ N H n ex _ fun vs gs L1 N1 H1 t1 m1 k1 r1 => by
    obtain ⟨Lf, Lr, R0, hp, hP, hR⟩ := hP gs L1 r1
    refine ⟨gs, Lf, N1, R0, t1.b, by rw [List.append_nil]; exact k1, ms_sub m1 hp, hP, fun v g L2 N2 H2 t2 m2 k2 r2 => ?_⟩
    obtain ⟨t3, m3⟩ := tr_frame m1 hp t2 m2
    exact q v g (L2 ++ Lr) N2 H2 (t1.trans t3) m3 k2 (hR g L2 r2)
/-- a pure call among changes -/
theorem em_callD {P : List PyData → PyData → Prop} {E : XK} {Ra : List GV → SH → Prop} (h : AM K L G tr Ra) (hP : ∀ gs L1, Ra gs L1 → ∃ ds z, gs = ds.map .d ∧ P ds z ∧ R (.d z) L1) : EM K L G (tCall (spD K P) [] E tr) R := fun σ N H n ex Q q =>
  h σ N H n ex _ fun vs gs L1 N1 H1 t1 m1 k1 r1 => by
    obtain ⟨ds, z, rfl, h, k⟩ := hP gs L1 r1
    exact ⟨ds, z, N1, t1.b, by rw [List.append_nil]; exact dps_of_wds k1, h, fun v N2 H2 w2 k2 => q v (.d z) L1 N2 H2 (t1.trans (.of w2)) (m1.step w2) k2 k⟩
/-- o.m(..) -/
theorem em_meth {P : List GV → SH → (GV → SH → Prop) → Prop} {E : XK} {Ra : List GV → SH → Prop} {C a dx : Addr} {m : Str} {fs : List (Str × GV)} (ho : EV K L G te (.r a)) (hm : (a, .ins C dx fs) ∈ L) (hf : fs.lookup m = none) (h : AM K L G tr Ra)
    (hP : ∀ gs L1, Ra gs L1 → ∃ Lf Lr R0, L1.Perm (Lf ++ Lr) ∧ P (.r a :: gs) Lf R0 ∧ ∀ g L', R0 g L' → R g (L' ++ Lr)) : EM K L G (tMeth C m (spM K P) [] E te tr) R := fun σ N H n ex Q q =>
  ho σ N H n ex _ fun x N0 H0 w0 k0 => by
    obtain ⟨_, vs0, e1, e2⟩ := (n.ms.step w0).at_ _ _ hm
    refine ⟨a, dx, vs0, k0, e1, kv_none e2 hf, h σ N0 H0 (n.step w0) w0.b _ fun vs gs L1 N1 H1 t1 m1 k1 r1 => ?_⟩
    obtain ⟨Lf, Lr, R0, hp, hP, hR⟩ := hP gs L1 r1
    refine ⟨.r a :: gs, Lf, N1, R0, t1.b, by rw [List.append_nil]; exact .cons k0 k1, ms_sub m1 hp, hP, fun v g L2 N2 H2 t2 m2 k2 r2 => ?_⟩
    obtain ⟨t3, m3⟩ := tr_frame m1 hp t2 m2
    exact q v g (L2 ++ Lr) N2 H2 (((Tr.of w0).trans t1).trans t3) m3 k2 (hR g L2 r2)
/-- C(..) -/
theorem em_make {P : List GV → SH → (GV → SH → Prop) → Prop} {E : XK} {C : Addr} (h : AV K L G tr gs)
    (hP : ∀ a dx, ∃ R0, P (.r a :: gs) [(a, .ins C dx [])] R0 ∧ ∀ g L', R0 g L' → g = .d .none ∧ R (.r a) (L' ++ L)) : EM K L G (tMake C (spM K P) [] E tr) R := fun σ N H n ex Q q =>
  h σ N H n ex _ fun vs N1 H1 w1 k1 x dx hx hdx hne => by
    obtain ⟨R0, hP, hR⟩ := hP x dx
    have m1 := n.ms.step w1
    have wd : Nw N1 H1 N1 (upd H1 dx (.own x)) := ⟨Ex.refl _, w1.b.trans (Ex.new hdx), Ex.new hdx, fun _ _ h _ => h, fun _ _ h => h⟩
    have hx' : upd H1 dx (.own x) x = none := by rw [upd_ne (Ne.symm hne)]; exact hx
    have mm : Ms K ((x, .ins C dx []) :: L) N1 (upd (upd H1 dx (.own x)) x (.ins C dx [])) := (m1.step wd).new wd.b hx' ⟨[], upd_same, .nil⟩
    have tt : Tr L N1 H1 ((x, .ins C dx []) :: L) N1 (upd (upd H1 dx (.own x)) x (.ins C dx [])) := (Tr.of wd).trans (Tr.new wd.b hx')
    have hp : ((x, MO.ins C dx []) :: L).Perm ([(x, .ins C dx [])] ++ L) := .refl _
    refine ⟨.r x :: gs, [(x, .ins C dx [])], N1, R0, tt.b, by rw [List.append_nil]; exact .cons rfl k1, ms_sub mm hp, hP, fun v g L2 N2 H2 t2 m2 k2 r2 => ?_⟩
    obtain ⟨hg, hR⟩ := hR g L2 r2
    subst hg
    obtain ⟨t3, m3⟩ := tr_frame mm hp t2 m2
    exact ⟨dp_none k2, q _ (.r x) (L2 ++ L) N2 H2 (((Tr.of w1).trans tt).trans t3) m3 rfl hR⟩
end
end K13
namespace K13
open PySem PySem.Spec PyProof.Rows L2
open Evl (Ex fresh_back ex_l ex_t)
section
variable {K : PySem.W.Frag} {L L1 L2 : SH} {N H N1 H1 N2 H2 : Hp}
theorem Ms.perm (m : Ms K L N H) (p : L.Perm L1) : Ms K L1 N H := ⟨(p.map (fun q : Addr × MO => q.1)).nodup_iff.mp m.nd, fun a o h => m.at_ a o (p.mem_iff.mpr h)⟩
theorem keys_perm (p : L.Perm L1) {x : Addr} : x ∈ keysH L ↔ x ∈ keysH L1 := (p.map (fun q : Addr × MO => q.1)).mem_iff
theorem Tr.perm (t : Tr L N H L1 N1 H1) (p : L1.Perm L2) : Tr L N H L2 N1 H1 := ⟨t.a, t.b, t.c, t.d, fun x h => t.e x ((keys_perm p).mpr h), t.f, t.n⟩
theorem Ms.sub (m : Ms K L N H) (s : L1.Sublist L) : Ms K L1 N H := ⟨(s.map (fun q : Addr × MO => q.1)).nodup m.nd, fun a o h => m.at_ a o (s.subset h)⟩
theorem Tr.sub (t : Tr L N H L1 N1 H1) (s : L2.Sublist L1) : Tr L N H L2 N1 H1 := ⟨t.a, t.b, t.c, t.d, fun x h => t.e x ((s.map (fun q : Addr × MO => q.1)).subset h), t.f, t.n⟩
theorem not_eq_key {p q : Addr} {o u : MO} (m : Ms K ((p, o) :: L) N H) (h : (q, u) ∈ L) : q ≠ p := fun z => by
  have := (List.nodup_cons.mp (show (p :: keysH L).Nodup from m.nd)).1
  exact this (z ▸ mem_keys h)
/-- the first object changes -/
theorem Ms.head {p : Addr} {o o' : MO} {u : HO} (m : Ms K ((p, o) :: L) N H) (k : MoAt K N (upd H p u) p o') : Ms K ((p, o') :: L) N (upd H p u) := by
  have := m.put (p := p) (o := o') (mo := o) (u := u) (by simp) k
  simpa [putL] using this
theorem Tr.head {p : Addr} {o o' : MO} {u : HO} (m : Ms K ((p, o) :: L) N H) (e : Ex N H) : Tr ((p, o) :: L) N H ((p, o') :: L) N (upd H p u) := by
  have := Tr.put (K := K) (p := p) (o := o') (mo := o) (u := u) m e (by simp)
  simpa [putL] using this
end
section
variable {K : PySem.W.Frag} {N H : Hp} {p : Addr}
theorem mo_lst {vs : List V} {gs : List GV} (h : H p = some (.lst vs)) (k : WdAll K N vs gs) : MoAt K N H p (.lst gs) := ⟨vs, h, k⟩
theorem mo_dK {vs : List (Key × V)} {gs : List (Key × GV)} (h : H p = some (.dK vs)) (k : KvAll K N vs gs) : MoAt K N H p (.dK gs) := ⟨vs, h, k⟩
theorem mo_dT {vs : List (List Key × V)} {gs : List (List Key × GV)} (h : H p = some (.dT vs)) (k : KvAll K N vs gs) : MoAt K N H p (.dT gs) := ⟨vs, h, k⟩
theorem mo_ins {C dx : Addr} {vs : List (Str × V)} {gs : List (Str × GV)} (h : H p = some (.ins C dx vs)) (k : KvAll K N vs gs) : MoAt K N H p (.ins C dx gs) := ⟨vs, h, k⟩
end
section
variable {K : PySem.W.Frag} {L Lf Lr L1 : SH} {G G' : Gm} {ta tb te to ti tk tv : TE} {tr : TA} {tt : TT} {ts tz tu tw : TS} {g : GV} {gs : List GV} {d : PyData} {R R' : GV → SH → Prop} {β : Type} {wi : TI} {tg : L2.TG} {zs : List β} {Ta : β → Gm → Gm} {tgs : List Nat}
/-- other objects beside -/
theorem em_frame (h : EM K Lf G te R) (hp : L.Perm (Lf ++ Lr)) : EM K L G te (fun g L' => ∃ L1, L' = L1 ++ Lr ∧ R g L1) := fun σ N H n ex Q q =>
  h σ N H ⟨n.nm, ms_sub n.ms hp⟩ ex _ fun v g L1 N1 H1 t1 m1 k1 r => by
    obtain ⟨t3, m3⟩ := tr_frame n.ms hp t1 m1
    exact q v g _ N1 H1 t3 m3 k1 ⟨L1, rfl, r⟩
/-- fewer objects -/
theorem em_sub (h : EM K L G te (fun g L' => ∃ L1, L1.Sublist L' ∧ R g L1)) : EM K L G te R := fun σ N H n ex Q q => h σ N H n ex _ fun v g L1 N1 H1 t1 m1 k1 ⟨L2, s, r⟩ => q v g L2 N1 H1 (t1.sub s) (m1.sub s) k1 r
theorem em_perm (h : EM K L G te (fun g L' => ∃ L1, L'.Perm L1 ∧ R g L1)) : EM K L G te R := fun σ N H n ex Q q => h σ N H n ex _ fun v g L1 N1 H1 t1 m1 k1 ⟨L2, s, r⟩ => q v g L2 N1 H1 (t1.perm s) (m1.perm s) k1 r
theorem sm_perm {Rs : Gm → SH → Prop} (h : SM K L G ts (fun g L' => ∃ L1, L'.Perm L1 ∧ Rs g L1)) : SM K L G ts Rs := fun σ N H D n ex q => h σ N H D n ex fun σ' G1 L1 N1 H1 t1 n1 ⟨L2, s, r⟩ => q σ' G1 L2 N1 H1 (t1.perm s) ⟨n1.nm, n1.ms.perm s⟩ r
theorem sm_sub {Rs : Gm → SH → Prop} (h : SM K L G ts (fun g L' => ∃ L1, L1.Sublist L' ∧ Rs g L1)) : SM K L G ts Rs := fun σ N H D n ex q => h σ N H D n ex fun σ' G1 L1 N1 H1 t1 n1 ⟨L2, s, r⟩ => q σ' G1 L2 N1 H1 (t1.sub s) ⟨n1.nm, n1.ms.sub s⟩ r
/-- the names told otherwise -/
theorem sm_less {Rs : Gm → SH → Prop} (h : SM K L G ts (fun g L' => ∃ G1, Gle G1 g ∧ Rs G1 L')) : SM K L G ts Rs := fun σ N H D n ex q => h σ N H D n ex fun σ' G1 L1 N1 H1 t1 n1 ⟨G2, s, r⟩ => q σ' G2 L1 N1 H1 t1 (n1.less s) r
/-- a list that changes no more becomes data -/
theorem nw_freeze {N H : Hp} {p : Addr} {ds : List PyData} (m : Ms K ((p, .lst (ds.map .d)) :: L) N H) (ex : Ex N H) : ∃ N', Tr ((p, .lst (ds.map .d)) :: L) N H L N' H ∧ Ms K L N' H ∧ Dp K N' (.ref p) (.list ds) := by
  obtain ⟨n, vs, e1, e2⟩ := m.at_ p _ List.mem_cons_self
  have nn : Ex N (upd N p (.lst vs)) := Ex.new n
  have nk := (List.nodup_cons.mp (show (p :: keysH L).Nodup from m.nd)).1
  refine ⟨upd N p (.lst vs), ⟨nn, fun x v q => ?_, fun x v _ q => q, fun x v hx hn q => ?_, fun x hx => .inl (List.mem_cons_of_mem _ hx), fun x v q => ⟨v, q⟩, fun x ps q => ?_⟩, ⟨(List.nodup_cons.mp (show (p :: keysH L).Nodup from m.nd)).2, fun x o h => ?_⟩, .lst upd_same (dps_mono nn _ _ (dps_of_wds e2))⟩
  · by_cases z : x = p
    · subst z; rw [upd_same] at q; cases q; exact e1
    · rw [upd_ne z] at q; exact ex x v q
  · rw [upd_ne (fun z => hx (by rw [z]; exact List.mem_cons_self))]
    exact hn
  · by_cases z : x = p
    · rw [z, upd_same] at q
      cases q
    · rw [upd_ne z] at q
      exact q
  · obtain ⟨a, b⟩ := m.at_ x o (List.mem_cons_of_mem _ h)
    have hne : x ≠ p := fun z => nk (z ▸ mem_keys h)
    exact ⟨by rw [upd_ne hne]; exact a, mo_mono nn (fun w hw => hw) b⟩
theorem em_freeze (h : EM K L G te (fun g L' => ∃ p ds L1, g = .r p ∧ L' = (p, .lst (ds.map .d)) :: L1 ∧ R (.d (.list ds)) L1)) : EM K L G te R := fun σ N H n ex Q q => h σ N H n ex _ fun v g L1 N1 H1 t1 m1 k1 r => by
  obtain ⟨p, ds, L2, rfl, rfl, r⟩ := r
  obtain ⟨N2, t2, m2, k2⟩ := nw_freeze m1 t1.b
  exact q v (.d (.list ds)) L2 N2 H1 (t1.trans t2) m2 (by rw [show v = V.ref p from k1]; exact k2) r
theorem em_lst (h : AV K L G tr gs) (hl : gs.length ≤ sizeLine) : EM K L G (tLst tr) (fun g L' => ∃ p, g = .r p ∧ L' = (p, .lst gs) :: L) := fun σ N H n ex Q q =>
  h σ N H n ex _ fun xs N1 H1 w1 k1 => ⟨by rw [wds_len k1]; exact hl, fun p hp => q _ (.r p) _ N1 _ ((Tr.of w1).trans (Tr.new w1.b hp)) ((n.ms.step w1).new w1.b hp (mo_lst upd_same k1)) rfl ⟨p, rfl, rfl⟩⟩
theorem em_dnewK (h : ∀ σ H (Q : VK), (∀ p, H p = none → Q (.ref p) (upd H p (.dK []))) → te σ H Q) : EM K L G te (fun g L' => ∃ p, g = .r p ∧ L' = (p, .dK []) :: L) := fun σ N H n ex Q q =>
  h σ H Q fun p hp => q _ (.r p) _ N _ (Tr.new ex hp) (n.ms.new ex hp (mo_dK upd_same .nil)) rfl ⟨p, rfl, rfl⟩
theorem em_dnewT (h : ∀ σ H (Q : VK), (∀ p, H p = none → Q (.ref p) (upd H p (.dT []))) → te σ H Q) : EM K L G te (fun g L' => ∃ p, g = .r p ∧ L' = (p, .dT []) :: L) := fun σ N H n ex Q q =>
  h σ H Q fun p hp => q _ (.r p) _ N _ (Tr.new ex hp) (n.ms.new ex hp (mo_dT upd_same .nil)) rfl ⟨p, rfl, rfl⟩
/-- list(a list of data), a list that may change -/
theorem em_listOf {ds : List PyData} (h : AG K L G tr [.list ds] ∨ AG K L G tr [.tuple ds]) : EM K L G (tCB (fun xs H Q => ∃ p ys, xs = [.ref p] ∧ (SqL K H p ys ∨ SqT K H p ys) ∧ ∀ l, H l = none → Q (.ref l) (upd H l (.lst ys))) tr) (fun g L' => ∃ p, g = .r p ∧ L' = (p, .lst (ds.map .d)) :: L) := fun σ N H n ex Q q => by
  rcases h with h | h
  · refine h σ N H n ex _ fun xs N1 H1 w1 k1 => ?_
    cases k1 with
    | cons a b =>
      cases b
      obtain ⟨p, ys, rfl, hq, hd⟩ := dp_lst a
      exact ⟨p, ys, rfl, .inl (ex_l w1.b hq), fun l hl => q _ (.r l) _ N1 _ ((Tr.of w1).trans (Tr.new w1.b hl)) ((n.ms.step w1).new w1.b hl (mo_lst upd_same (wds_of hd))) rfl ⟨l, rfl, rfl⟩⟩
  · refine h σ N H n ex _ fun xs N1 H1 w1 k1 => ?_
    cases k1 with
    | cons a b =>
      cases b
      obtain ⟨p, ys, rfl, hq, hd⟩ := dp_tup a
      exact ⟨p, ys, rfl, .inr (ex_t w1.b hq), fun l hl => q _ (.r l) _ N1 _ ((Tr.of w1).trans (Tr.new w1.b hl)) ((n.ms.step w1).new w1.b hl (mo_lst upd_same (wds_of hd))) rfl ⟨l, rfl, rfl⟩⟩
theorem sm_for {W : Nat → Gm → SH → Prop} (h : IG K L G wi tg zs Ta tgs) (h0 : W 0 G L) (hs : ∀ i z G1 L1, zs[i]? = some z → W i G1 L1 → SM K L1 (Ta z G1) tu (W (i + 1))) : SM K L G (tFor wi tg tu) (W zs.length) := fun σ N H D n ex q =>
  h σ N H n ex _ fun J N1 H1 Gd Y w1 wk gd ty => for_it wk (fun i σ' H' => ∃ G1 L1 N', Tr L N H L1 N' H' ∧ En K L1 G1 σ' N' H' ∧ W i G1 L1 ∧ Ex N1 N') ⟨G, L, N1, .of w1, n.step w1, h0, Ex.refl _⟩ (fun i σ' H' _ ⟨G1, L1, N', p, _, _, e⟩ => gd H' (e.trans p.b))
    (fun i x σ' H' H2 hi ⟨G1, L1, N', p1, p2, p3, p4⟩ y => ty i zs[i] x σ' L1 G1 N' H' H2 (List.getElem?_eq_getElem hi) p4 p1.b p2 y _ fun σ2 N3 w3 n3 _ _ =>
      hs i zs[i] G1 L1 (List.getElem?_eq_getElem hi) p3 σ2 N3 H2 _ n3 w3.b fun σ4 G4 L4 N4 H4 t4 n4 r4 => ⟨G4, L4, N4, (p1.trans (.of w3)).trans t4, n4, r4, (p4.trans w3.a).trans t4.a⟩) fun σ' H' ⟨G1, L1, N', p1, p2, p3, _⟩ => q σ' G1 L1 N' H' p1 p2 p3
theorem sm_while {W : Nat → Gm → SH → Prop} {Rs : Gm → SH → Prop} {m0 : Nat} (h0 : W m0 G L) (hs : ∀ m G1 L1, W m G1 L1 → TM K L1 G1 tt (fun b L2 => (b = true → SM K L2 G1 tu (fun G' L' => ∃ m', m' < m ∧ W m' G' L')) ∧ (b = false → Rs G1 L2))) : SM K L G (tWhile tt tu) Rs := fun σ N H D n ex q => by
  refine ⟨fun m σ' H' => ∃ G1 L1 N', Tr L N H L1 N' H' ∧ En K L1 G1 σ' N' H' ∧ W m G1 L1, ⟨m0, G, L, N, .refl ex, n, h0⟩, ?_⟩
  rintro m σ' H' ⟨G1, L1, N', p1, p2, p3⟩
  refine hs m G1 L1 p3 σ' N' H' p2 p1.b _ fun b L2 N2 H2 t2 m2 ⟨r1, r2⟩ => ?_
  cases b with
  | true =>
    rw [if_pos rfl]
    refine ⟨fun σ3 H3 => ∃ m', m' < m ∧ ∃ G1 L1 N', Tr L N H L1 N' H3 ∧ En K L1 G1 σ3 N' H3 ∧ W m' G1 L1, fun σ3 H3 h => h, r1 rfl σ' N2 H2 _ (p2.trs t2 m2) t2.b fun σ4 G4 L4 N4 H4 t4 n4 ⟨m', hm, r4⟩ => ⟨m', hm, G4, L4, N4, (p1.trans t2).trans t4, n4, r4⟩⟩
  | false =>
    rw [if_neg Bool.false_ne_true]
    exact q σ' G1 L2 N2 H2 (p1.trans t2) (p2.trs t2 m2) (r2 rfl)
/-- [e for .. in data], e with changes: W tells the items so far and the objects -/
theorem em_lc {ws : List Nat} {W : Nat → List GV → SH → Prop} (h : IG K L G wi tg zs Ta tgs) (hz : zs.length ≤ 1000000) (hm : ∀ j, j ∉ ws → j ∉ tgs) (h0 : W 0 [] L)
    (hs : ∀ i z gs L1, zs[i]? = some z → W i gs L1 → EM K L1 (Ta z (wipeG G ws)) te (fun g L2 => W (i + 1) (gs ++ [g]) L2)) (hl : ∀ i gs L1, W i gs L1 → gs.length = i)
    (hR : ∀ gs L1 p, W zs.length gs L1 → R (.r p) ((p, .lst gs) :: L1)) : EM K L G (tLc wi tg tYes te ws) R := fun σ N H n ex Q q =>
  h σ N H n ex _ fun J N1 H1 Gd Y w1 wk gd ty D hD => lc_it wk (fun i H' => ∃ gs L1 N', i ≤ zs.length ∧ Tr L N H ((D, .lst gs) :: L1) N' H' ∧ En K ((D, .lst gs) :: L1) G σ N' H' ∧ W i gs L1 ∧ Ex N1 N')
    ⟨[], L, N1, Nat.zero_le _, (Tr.of w1).trans (Tr.new w1.b hD), ⟨(n.step w1).nm, (n.ms.step w1).new w1.b hD (mo_lst upd_same .nil)⟩, h0, Ex.refl _⟩ (fun i H' _ ⟨gs, L1, N', _, p, _, _, e⟩ => gd H' (e.trans p.b))
    (fun i x H' H2 hi ⟨gs, L1, N', _, p1, p2, p3, p4⟩ y => ty i zs[i] x (wipe σ ws) ((D, .lst gs) :: L1) (wipeG G ws) N' H' H2 (List.getElem?_eq_getElem hi) p4 p1.b (p2.wipe ws) y _ fun σ2 N3 w3 n3 o3 l3 => by
      refine ⟨wipe_again (by rw [l3, wipe_length]) fun j hj => ?_, ?_⟩
      · rw [o3 j (hm j hj), wipe_at, if_neg hj]
      · have hp : ((D, MO.lst gs) :: L1).Perm (L1 ++ [(D, .lst gs)]) := (List.perm_append_comm (l₁ := [(D, MO.lst gs)]) (l₂ := L1))
        refine em_frame (hs i zs[i] gs L1 (List.getElem?_eq_getElem hi) p3) hp σ2 N3 H2 n3 w3.b _ fun v g L4 N4 H4 t4 m4 k4 r4 => ?_
        obtain ⟨L5, rfl, r5⟩ := r4
        have hp' : (L5 ++ [(D, MO.lst gs)]).Perm ((D, .lst gs) :: L5) := (List.perm_append_comm (l₁ := [(D, MO.lst gs)]) (l₂ := L5)).symm
        have m5 := m4.perm hp'
        have t5 := t4.perm hp'
        obtain ⟨_, vs, e1, e2⟩ := m5.at_ D _ List.mem_cons_self
        have mo : MoAt K N4 (upd H4 D (.lst (vs ++ [v]))) D (.lst (gs ++ [g])) := mo_lst upd_same (wds_app e2 (.cons k4 .nil))
        refine ⟨vs, e1, ?_, gs ++ [g], L5, N4, hi, (((p1.trans (.of w3)).trans t5).trans (Tr.head m5 t5.b)), ⟨(p2.nm.mono w3.a).mono t4.a, m5.head mo⟩, r5, (p4.trans w3.a).trans t4.a⟩
        rw [wds_len e2, hl i gs L1 p3]
        exact Nat.lt_of_lt_of_le (show i < 1000001 by omega) (by decide))
    fun H' ⟨gs, L1, N', _, p1, p2, p3, _⟩ => q _ (.r D) _ N' H' p1 p2.ms rfl (hR gs L1 D p3)
theorem em_append {p : Addr} {Ra : List GV → SH → Prop} {gs' : List GV} (ho : EV K L G to (.r p)) (hp : (p, .lst gs') ∈ L) (h : AM K L G tr Ra) (hR : ∀ as L1, Ra as L1 → ∃ g gs, as = [g] ∧ (p, .lst gs) ∈ L1 ∧ gs.length < sizeLine ∧ R (.d .none) (putL p (.lst (gs ++ [g])) L1)) : EM K L G (tBM K "list" rAppend to tr) R := fun σ N H n ex Q q =>
  ho σ N H n ex _ fun x N1 H1 w1 k1 => by
    obtain rfl : x = .ref p := k1
    obtain ⟨_, vs', e1', _⟩ := (n.ms.step w1).at_ _ _ hp
    refine ⟨.inl ⟨rfl, vs', SqL.of e1'⟩, h σ N1 H1 (n.step w1) w1.b _ fun as gs0 L2 N2 H2 t2 m2 k2 r2 => ?_⟩
    obtain ⟨g, gs, rfl, hm, hl, r⟩ := hR gs0 L2 r2
    cases k2 with
    | cons a b =>
      cases b
      obtain ⟨_, vs, e1, e2⟩ := m2.at_ _ _ hm
      exact ⟨p, vs, _, rfl, rfl, e1, by rw [wds_len e2]; exact hl, q _ (.d .none) _ N2 _ (((Tr.of w1).trans t2).trans (Tr.put m2 t2.b hm)) (m2.put hm (mo_lst upd_same (wds_app e2 (.cons a .nil)))) .non r⟩
theorem em_extend {p : Addr} {Ra : List GV → SH → Prop} {gs' : List GV} (ho : EV K L G to (.r p)) (hp : (p, .lst gs') ∈ L) (h : AM K L G tr Ra) (hR : ∀ as L1, Ra as L1 → ∃ b gs hs, as = [.r b] ∧ (p, .lst gs) ∈ L1 ∧ (b, .lst hs) ∈ L1 ∧ gs.length + hs.length ≤ sizeLine ∧ R (.d .none) (putL p (.lst (gs ++ hs)) L1)) : EM K L G (tBM K "list" rExtend to tr) R := fun σ N H n ex Q q =>
  ho σ N H n ex _ fun x N1 H1 w1 k1 => by
    obtain rfl : x = .ref p := k1
    obtain ⟨_, vs', e1', _⟩ := (n.ms.step w1).at_ _ _ hp
    refine ⟨.inl ⟨rfl, vs', SqL.of e1'⟩, h σ N1 H1 (n.step w1) w1.b _ fun as gs0 L2 N2 H2 t2 m2 k2 r2 => ?_⟩
    obtain ⟨b, gs, hs, rfl, hm, hb, hl, r⟩ := hR gs0 L2 r2
    cases k2 with
    | cons a c =>
      cases c
      obtain ⟨_, vs, e1, e2⟩ := m2.at_ _ _ hm
      obtain ⟨_, us, f1, f2⟩ := m2.at_ _ _ hb
      exact ⟨p, b, vs, us, rfl, by rw [show _ = V.ref b from a], e1, f1, by rw [wds_len e2, wds_len f2]; exact hl, q _ (.d .none) _ N2 _ (((Tr.of w1).trans t2).trans (Tr.put m2 t2.b hm)) (m2.put hm (mo_lst upd_same (wds_app e2 f2))) .non r⟩
theorem em_pop {p : Addr} {Ra : List GV → SH → Prop} {gs' : List GV} (ho : EV K L G to (.r p)) (hp : (p, .lst gs') ∈ L) (h : AM K L G tr Ra) (hR : ∀ as L1, Ra as L1 → ∃ gs k g, as = [.d (.int (k : Nat))] ∧ k < 1000000 ∧ (p, .lst gs) ∈ L1 ∧ gs[k]? = some g ∧ R g (putL p (.lst (gs.eraseIdx k)) L1)) : EM K L G (tBM K "list" rPopAt to tr) R := fun σ N H n ex Q q =>
  ho σ N H n ex _ fun x N1 H1 w1 k1 => by
    obtain rfl : x = .ref p := k1
    obtain ⟨_, vs', e1', _⟩ := (n.ms.step w1).at_ _ _ hp
    refine ⟨.inl ⟨rfl, vs', SqL.of e1'⟩, h σ N1 H1 (n.step w1) w1.b _ fun as gs0 L2 N2 H2 t2 m2 k2 r2 => ?_⟩
    obtain ⟨gs, k, g, rfl, hk, hm, hg, r⟩ := hR gs0 L2 r2
    cases k2 with
    | cons a c =>
      cases c
      obtain ⟨_, vs, e1, e2⟩ := m2.at_ _ _ hm
      obtain ⟨v, e3, e4⟩ := wds_at e2 hg
      have hlt : k < vs.length := by
        rw [wds_len e2]
        exact (List.getElem?_eq_some_iff.mp hg).1
      refine ⟨p, vs, k, k, v, rfl, by rw [dp_int a], e1, by omega, by omega, ?_, e3, q _ g _ N2 _ (((Tr.of w1).trans t2).trans (Tr.put m2 t2.b hm)) (m2.put hm (mo_lst upd_same (wds_erase k e2))) e4 r⟩
      have hix : ixN vs.length (k : Int) = some k := by
        unfold ixN
        rw [if_pos (by omega), if_pos (by omega)]
        simp
      exact (ixN_seq hix).1
/-- o[i] = e -/
theorem sm_set {p : Addr} {i : Int} {j : Nat} (he : EG K L G te d) (ho : EV K L G to (.r p)) (hi : EG K L G ti (.int i)) (hm : (p, .lst gs) ∈ L) (hj : ixN gs.length i = some j) : SM K L G (tAsg te (gSub to ti rSetL)) (fun G' L' => G' = G ∧ L' = putL p (.lst (gs.set j (.d d))) L) := fun σ N H D n ex q =>
  he σ N H n ex _ fun v N1 H1 w1 k1 => ho σ N1 H1 (n.step w1) w1.b _ fun x N2 H2 w2 k2 => hi σ N2 H2 (n.step (w1.trans w2)) w2.b _ fun y N3 H3 w3 k3 => by
    obtain rfl : x = .ref p := k2
    have w := (w1.trans w2).trans w3
    have m3 := n.ms.step w
    obtain ⟨_, vs, e1, e2⟩ := m3.at_ _ _ hm
    refine ⟨p, vs, i, j, rfl, dp_int k3, e1, by rw [wds_len e2]; exact hj, q σ G _ N3 _ ((Tr.of w).trans (Tr.put m3 w3.b hm)) ⟨(n.step w).nm, m3.put hm (mo_lst upd_same (wds_set j e2 (show Wd K N3 v (.d d) from dp_mono (w2.trans w3).a _ _ k1)))⟩ ⟨rfl, rfl⟩⟩
/-- self.f = e -/
theorem sm_fld {a C dx : Addr} {f : Str} {fs : List (Str × GV)} (hv : EM K L G tv R) (ho : ∀ g L1, R g L1 → EV K L1 G to (.r a)) (hc : Cls K C) (hn : NoAttr K C f) (hf : ∀ g L1, R g L1 → ∃ fs, (a, .ins C dx fs) ∈ L1 ∧ fs.length < 1000) :
    SM K L G (sFld K to tv f) (fun G' L' => G' = G ∧ ∃ g L1 fs, R g L1 ∧ (a, .ins C dx fs) ∈ L1 ∧ L' = putL a (.ins C dx (putG f g fs)) L1) := fun σ N H D n ex q =>
  hv σ N H n ex _ fun v g L1 N1 H1 t1 m1 k1 r => ho g L1 r σ N1 H1 (n.trs t1 m1) t1.b _ fun x N2 H2 w2 k2 => by
    obtain rfl : x = .ref a := k2
    obtain ⟨fs, hm, hl⟩ := hf g L1 r
    have m2 := m1.step w2
    obtain ⟨_, vs, e1, e2⟩ := m2.at_ _ _ hm
    exact ⟨a, C, dx, vs, rfl, e1, hc, hn, by rw [kvs_len e2]; exact hl, q σ G _ N2 _ ((t1.trans (.of w2)).trans (Tr.put m2 w2.b hm)) ⟨((n.trs t1 m1).step w2).nm, m2.put hm (mo_ins upd_same (kvs_put f e2 (wd_mono w2.a _ k1)))⟩ ⟨rfl, g, L1, fs, r, hm, rfl⟩⟩
/-- self.f op= e, e with changes -/
theorem sm_fldaug {a C dx : Addr} {f : Str} {fs : List (Str × GV)} {rd : V → V → Hp → VK → Prop} {d1 : PyData} {z : GV → PyData} (ho : EV K L G to (.r a)) (hm : (a, .ins C dx fs) ∈ L) (hc : Cls K C) (hn : NoAttr K C f) (hl : fs.lookup f = some (.d d1)) (hv : EM K L G tv R)
    (hr : ∀ g L1, R g L1 → ∃ e fs', g = .d e ∧ RG K rd d1 e (z g) ∧ (a, .ins C dx fs') ∈ L1 ∧ fs'.length < 1000) :
    SM K L G (sFldAug K to tv rd f) (fun G' L' => G' = G ∧ ∃ g L1 fs', R g L1 ∧ (a, .ins C dx fs') ∈ L1 ∧ L' = putL a (.ins C dx (putG f (.d (z g)) fs')) L1) := fun σ N H D n ex q =>
  ho σ N H n ex _ fun x N1 H1 w1 k1 => by
    obtain rfl : x = .ref a := k1
    have m1 := n.ms.step w1
    obtain ⟨_, vs, e1, e2⟩ := m1.at_ _ _ hm
    obtain ⟨v, e3, e4⟩ := kv_look e2 hl
    refine ⟨a, C, dx, vs, v, rfl, e1, hc, hn, e3, hv σ N1 H1 (n.step w1) w1.b _ fun y g L2 N2 H2 t2 m2 k2 r2 => ?_⟩
    obtain ⟨e, fs', rfl, hrg, hm', hl'⟩ := hr g L2 r2
    refine hrg v y N2 H2 t2.b (dp_mono t2.a _ _ e4) k2 _ fun u N3 H3 w3 k3 => ?_
    have m3 := m2.step w3
    obtain ⟨_, us, f1, f2⟩ := m3.at_ _ _ hm'
    exact ⟨dx, us, f1, by rw [kvs_len f2]; exact hl', q σ G _ N3 _ (((Tr.of w1).trans (t2.trans (.of w3))).trans (Tr.put m3 w3.b hm')) ⟨(((n.step w1).trs t2 m2).step w3).nm, m3.put hm' (mo_ins upd_same (kvs_put f f2 (show Wd K N3 u (.d (z (.d e))) from k3)))⟩ ⟨rfl, .d e, L2, fs', r2, hm', rfl⟩⟩
def valG {κ : Type} [DecidableEq κ] (kvs : List (κ × GV)) (k : κ) : Option GV := (kvs.find? fun kv => decide (kv.1 = k)).map (·.2)
def putGK {κ : Type} [DecidableEq κ] (kvs : List (κ × GV)) (k : κ) (v : GV) : List (κ × GV) :=
  if (kvs.any fun kv => decide (kv.1 = k)) = true then kvs.map (fun kv => if kv.1 = k then (kv.1, v) else kv) else kvs ++ [(k, v)]
theorem kv_val {κ : Type} [DecidableEq κ] {N : Hp} {k : κ} : ∀ {gs : List (κ × GV)} {vs : List (κ × V)}, KvAll K N vs gs → (∀ g, valG gs k = some g → ∃ v, valV vs k = some v ∧ Wd K N v g) ∧ (valG gs k = none → valV vs k = none)
  | [], _, h => by cases h; exact ⟨fun g e => by simp [valG] at e, fun _ => rfl⟩
  | (k', g') :: gs, _, h => by
    cases h with
    | cons h1 h2 =>
      obtain ⟨i1, i2⟩ := kv_val (k := k) h2
      by_cases e : k' = k
      · subst e
        exact ⟨fun g q => by simp [valG] at q; subst q; exact ⟨_, by simp [valV], h1⟩, fun q => by simp [valG] at q⟩
      · refine ⟨fun g q => ?_, fun q => ?_⟩
        · obtain ⟨v, a, b⟩ := i1 g (by simpa [valG, e] using q)
          exact ⟨v, by simpa [valV, e] using a, b⟩
        · have := i2 (by simpa [valG, e] using q)
          simpa [valV, e] using this
theorem kv_keys {κ : Type} {N : Hp} : ∀ {gs : List (κ × GV)} {vs : List (κ × V)}, KvAll K N vs gs → vs.map (·.1) = gs.map (·.1)
  | [], _, h => by cases h; rfl
  | (k', g') :: gs, _, h => by
    cases h with
    | cons h1 h2 => simp [kv_keys h2]
theorem kv_app {κ : Type} {N : Hp} : ∀ {gs hs : List (κ × GV)} {vs us : List (κ × V)}, KvAll K N vs gs → KvAll K N us hs → KvAll K N (vs ++ us) (gs ++ hs)
  | [], _, _, _, h, k => by cases h; exact k
  | _ :: _, _, _, _, h, k => by
    cases h with
    | cons h1 h2 => exact .cons h1 (kv_app h2 k)
theorem kv_putK {κ : Type} [DecidableEq κ] {N : Hp} {k : κ} {v : V} {gs : List (κ × GV)} {vs : List (κ × V)} (h : KvAll K N vs gs) (hv : Wd K N v g) : KvAll K N (putK vs k v) (putGK gs k g) := by
  have any : ∀ {gs : List (κ × GV)} {vs : List (κ × V)}, KvAll K N vs gs → (vs.any fun kv => decide (kv.1 = k)) = (gs.any fun kv => decide (kv.1 = k)) := by
    intro gs
    induction gs with
    | nil => intro vs h; cases h; rfl
    | cons x r ih =>
      intro vs h
      cases h with
      | cons h1 h2 => simp [ih h2]
  have mp : ∀ {gs : List (κ × GV)} {vs : List (κ × V)}, KvAll K N vs gs → KvAll K N (vs.map fun kv => if kv.1 = k then (kv.1, v) else kv) (gs.map fun kv => if kv.1 = k then (kv.1, g) else kv) := by
    intro gs
    induction gs with
    | nil => intro vs h; cases h; exact .nil
    | cons x r ih =>
      intro vs h
      cases h with
      | @cons k' v' g' _ _ h1 h2 =>
        rw [List.map_cons, List.map_cons]
        by_cases e : k' = k
        · rw [if_pos e, if_pos e]; exact .cons hv (ih h2)
        · rw [if_neg e, if_neg e]; exact .cons h1 (ih h2)
  unfold putK putGK
  rw [any h]
  split
  · exact mp h
  · exact kv_app h (.cons hv .nil)
def kD : Key → PyData
  | .inl i => .int i
  | .inr x => .str x
theorem dp_key {N : Hp} {v : V} : ∀ {k : Key}, Dp K N v (kD k) → v = kV k
  | .inl _, h => by cases h; rfl
  | .inr _, h => by cases h; rfl
theorem dps_key {N : Hp} : ∀ {ks : List Key} {vs : List V}, DpAll K N vs (ks.map kD) → vs = ks.map kV
  | [], _, h => by cases h; rfl
  | k :: ks, _, h => by
    cases h with
    | cons h1 h2 => rw [dp_key h1, dps_key h2]; rfl
theorem keys_dps {N : Hp} : ∀ ks : List Key, DpAll K N (ks.map kV) (ks.map kD)
  | [] => .nil
  | .inl i :: ks => .cons (.int i) (keys_dps ks)
  | .inr x :: ks => .cons (.str x) (keys_dps ks)
theorem fold_step {α β : Type} {f : β → α → β} {b : β} {xs : List α} {i : Nat} {x : α} (h : xs[i]? = some x) : (xs.take (i + 1)).foldl f b = f ((xs.take i).foldl f b) x := by
  rw [List.take_add_one, h, List.foldl_append]
  rfl
theorem dc_it {J : It} {n : Nat} {Gd : Hp → Prop} {Y : Nat → Hp → V → Hp → Prop} (w : Walk J n Gd Y) {g : L2.TG} {tt : TT} {tk tv : TE} {vs : List Nat} {σ : L2.St} {H1 : Hp} {D : Addr} {Qd : Hp → Prop} (Pv : Nat → Hp → Prop) (h0 : Pv 0 (upd H1 D (.dK []))) (hG : ∀ i H, i ≤ n → Pv i H → Gd H)
    (hs : ∀ i x H H', i < n → Pv i H → Y i H x H' → g x (wipe σ vs) H' fun σ2 H2 => wipe σ2 vs = wipe σ vs ∧ tt σ2 H2 fun b H3 =>
      if b = true then tk σ2 H3 fun y H4 => tv σ2 H4 fun z H5 => ∃ kvs k, y = kV k ∧ H5 D = some (.dK kvs) ∧ kvs.length < sizeLine ∧ Pv (i + 1) (upd H5 D (.dK (putK kvs k z))) else Pv (i + 1) H3) (hd : ∀ H, Pv n H → Qd H) :
    ∃ W : Nat → Nat → Hp → Prop, (∃ m, W 0 m (upd H1 D (.dK []))) ∧ ∀ i m H, W i m H →
      (J.stop i H ∧ Qd H) ∨ (J.go i H ∧ ∃ Nx : Hp → Prop, (∀ H', Nx H' → ∃ m', m' < m ∧ W (i + 1) m' H') ∧ ∀ x H', J.yld i H x H' → g x (wipe σ vs) H' fun σ2 H2 => wipe σ2 vs = wipe σ vs ∧ tt σ2 H2 fun b H3 =>
        if b = true then tk σ2 H3 fun y H4 => tv σ2 H4 fun z H5 => ∃ kvs k, y = kV k ∧ H5 D = some (.dK kvs) ∧ kvs.length < sizeLine ∧ Nx (upd H5 D (.dK (putK kvs k z))) else Nx H3) := by
  refine ⟨fun i m H => m = n - i ∧ i ≤ n ∧ Pv i H, ⟨n, by simp, Nat.zero_le _, h0⟩, ?_⟩
  rintro i m H ⟨rfl, hi, p⟩
  have q := hG i H hi p
  by_cases hlt : i < n
  · refine .inr ⟨w.goes i H hlt q, Pv (i + 1), fun H' p' => ⟨n - (i + 1), by omega, rfl, hlt, p'⟩, fun x H' y => hs i x H H' hlt p (w.yields i H x H' hlt q y)⟩
  · have e : i = n := by omega
    subst e
    exact .inl ⟨w.stops H q, hd H p⟩
/-- d[k], k an int or a text; a tuple of such -/
theorem ev_dget {p : Addr} {k : Key} {kvs : List (Key × GV)} (ho : EV K L G to (.r p)) (hi : EG K L G ti (kD k)) (hm : (p, .dK kvs) ∈ L) (hk : valG kvs k = some g) : EV K L G (tDGet to ti) g := fun σ N H n ex Q q =>
  ho σ N H n ex _ fun x N1 H1 w1 k1 => hi σ N1 H1 (n.step w1) w1.b _ fun y N2 H2 w2 k2 => by
    obtain ⟨_, vs, e1, e2⟩ := (n.ms.step (w1.trans w2)).at_ _ _ hm
    obtain ⟨v, e3, e4⟩ := (kv_val e2).1 g hk
    exact ⟨p, v, k1, by rw [dp_key k2, ← e3]; exact DGet.k e1, q v N2 H2 (w1.trans w2) e4⟩
theorem ev_dgetT {p : Addr} {k : List Key} {kvs : List (List Key × GV)} (ho : EV K L G to (.r p)) (hi : EG K L G ti (.tuple (k.map kD))) (hm : (p, .dT kvs) ∈ L) (hk : valG kvs k = some g) : EV K L G (tDGet to ti) g := fun σ N H n ex Q q =>
  ho σ N H n ex _ fun x N1 H1 w1 k1 => hi σ N1 H1 (n.step w1) w1.b _ fun y N2 H2 w2 k2 => by
    obtain ⟨_, vs, e1, e2⟩ := (n.ms.step (w1.trans w2)).at_ _ _ hm
    obtain ⟨v, e3, e4⟩ := (kv_val e2).1 g hk
    obtain ⟨b, us, rfl, hb, hd⟩ := dp_tupH k2
    rw [dps_key hd] at hb
    exact ⟨p, v, k1, by rw [← e3]; exact DGet.t e1 (w2.b _ _ hb), q v N2 H2 (w1.trans w2) e4⟩
/-- d[k] = e -/
theorem sm_dput {p : Addr} {k : Key} {kvs : List (Key × GV)} (hv : EM K L G tv R) (ho : ∀ g L1, R g L1 → EV K L1 G to (.r p)) (hi : ∀ g L1, R g L1 → EG K L1 G ti (kD k)) (hm : ∀ g L1, R g L1 → (p, .dK kvs) ∈ L1) (hz : kvs.length < sizeLine) :
    SM K L G (sDPut to ti tv) (fun G' L' => G' = G ∧ ∃ g L1, R g L1 ∧ L' = putL p (.dK (putGK kvs k g)) L1) := fun σ N H D n ex q =>
  hv σ N H n ex _ fun v g L1 N1 H1 t1 m1 k1 r => ho g L1 r σ N1 H1 (n.trs t1 m1) t1.b _ fun x N2 H2 w2 k2 => hi g L1 r σ N2 H2 ((n.trs t1 m1).step w2) w2.b _ fun y N3 H3 w3 k3 => by
    have w := w2.trans w3
    have m3 := m1.step w
    obtain ⟨_, vs, e1, e2⟩ := m3.at_ _ _ (hm g L1 r)
    refine ⟨p, _, k2, by rw [dp_key k3]; exact DPut.k e1 (by rw [kvs_len e2]; exact hz), q σ G _ N3 _ ((t1.trans (.of w)).trans (Tr.put m3 w3.b (hm g L1 r))) ⟨((n.trs t1 m1).step w).nm, m3.put (hm g L1 r) (mo_dK upd_same (kv_putK e2 (wd_mono w.a _ k1)))⟩ ⟨rfl, g, L1, r, rfl⟩⟩
theorem sm_dputT {p : Addr} {k : List Key} {kvs : List (List Key × GV)} (hv : EM K L G tv R) (ho : ∀ g L1, R g L1 → EV K L1 G to (.r p)) (hi : ∀ g L1, R g L1 → EG K L1 G ti (.tuple (k.map kD))) (hm : ∀ g L1, R g L1 → (p, .dT kvs) ∈ L1) (hz : kvs.length < sizeLine) :
    SM K L G (sDPut to ti tv) (fun G' L' => G' = G ∧ ∃ g L1, R g L1 ∧ L' = putL p (.dT (putGK kvs k g)) L1) := fun σ N H D n ex q =>
  hv σ N H n ex _ fun v g L1 N1 H1 t1 m1 k1 r => ho g L1 r σ N1 H1 (n.trs t1 m1) t1.b _ fun x N2 H2 w2 k2 => hi g L1 r σ N2 H2 ((n.trs t1 m1).step w2) w2.b _ fun y N3 H3 w3 k3 => by
    have w := w2.trans w3
    have m3 := m1.step w
    obtain ⟨_, vs, e1, e2⟩ := m3.at_ _ _ (hm g L1 r)
    obtain ⟨b, us, rfl, hb, hd⟩ := dp_tupH k3
    rw [dps_key hd] at hb
    refine ⟨p, _, k2, DPut.t e1 (w3.b _ _ hb) (by rw [kvs_len e2]; exact hz), q σ G _ N3 _ ((t1.trans (.of w)).trans (Tr.put m3 w3.b (hm g L1 r))) ⟨((n.trs t1 m1).step w).nm, m3.put (hm g L1 r) (mo_dT upd_same (kv_putK e2 (wd_mono w.a _ k1)))⟩ ⟨rfl, g, L1, r, rfl⟩⟩
/-- {k: v for .. in data}, v data -/
theorem em_dc {ws : List Nat} {kf : β → Key} {vf : β → GV} {tk : TE} (h : IG K L G wi tg zs Ta tgs) (hz : zs.length ≤ 1000000) (hm : ∀ j, j ∉ ws → j ∉ tgs)
    (hk : ∀ z ∈ zs, EG K L (Ta z (wipeG G ws)) tk (kD (kf z))) (hv : ∀ z ∈ zs, EV K L (Ta z (wipeG G ws)) tv (vf z)) :
    EM K L G (tDc wi tg tYes tk tv ws) (fun g L' => ∃ p, g = .r p ∧ L' = (p, .dK (zs.foldl (fun acc z => putGK acc (kf z) (vf z)) [])) :: L) := fun σ N H n ex Q q =>
  h σ N H n ex _ fun J N1 H1 Gd Y w1 wk gd ty D hD => dc_it wk (fun i H' => ∃ N', Tr L N H ((D, .dK ((zs.take i).foldl (fun acc z => putGK acc (kf z) (vf z)) [])) :: L) N' H' ∧ En K ((D, .dK ((zs.take i).foldl (fun acc z => putGK acc (kf z) (vf z)) [])) :: L) G σ N' H' ∧ Ex N1 N')
    ⟨N1, (Tr.of w1).trans (Tr.new w1.b hD), ⟨(n.step w1).nm, (n.ms.step w1).new w1.b hD (mo_dK upd_same .nil)⟩, Ex.refl _⟩ (fun i H' _ ⟨N', p, _, e⟩ => gd H' (e.trans p.b))
    (fun i x H' H2 hi ⟨N', p1, p2, p4⟩ y => by
      have hz' : zs[i]? = some zs[i] := List.getElem?_eq_getElem hi
      have mem := List.mem_of_getElem? hz'
      refine ty i zs[i] x (wipe σ ws) _ (wipeG G ws) N' H' H2 hz' p4 p1.b (p2.wipe ws) y _ fun σ2 N3 w3 n3 o3 l3 => ?_
      refine ⟨wipe_again (by rw [l3, wipe_length]) fun j hj => by rw [o3 j (hm j hj), wipe_at, if_neg hj], ?_⟩
      have n4 : En K L (Ta zs[i] (wipeG G ws)) σ2 N3 H2 := ⟨n3.nm, n3.ms.sub (List.sublist_cons_self _ _)⟩
      simp only [tYes, ↓reduceIte]
      refine hk _ mem σ2 N3 H2 n4 w3.b _ fun y N4 H4 w4 k4 => hv _ mem σ2 N4 H4 (n4.step w4) w4.b _ fun u N5 H5 w5 k5 => ?_
      have m5 := (n3.ms.step w4).step w5
      obtain ⟨_, vs, e1, e2⟩ := m5.at_ D _ List.mem_cons_self
      refine ⟨vs, kf zs[i], dp_key k4, e1, ?_, N5, ?_⟩
      · rw [kvs_len e2]
        have : ∀ (l : List β), (l.foldl (fun acc z => putGK acc (kf z) (vf z)) []).length ≤ l.length := by
          have gen : ∀ (l : List β) (a : List (Key × GV)), (l.foldl (fun acc z => putGK acc (kf z) (vf z)) a).length ≤ a.length + l.length := by
            intro l
            induction l with
            | nil => intro a; simp
            | cons x r ih =>
              intro a
              have h1 := ih (putGK a (kf x) (vf x))
              have h2 : (putGK a (kf x) (vf x)).length ≤ a.length + 1 := by
                unfold putGK
                split <;> simp
              rw [List.foldl_cons, List.length_cons]
              omega
          intro l
          simpa using gen l []
        have h3 := this (zs.take i)
        rw [List.length_take] at h3
        exact Nat.lt_of_lt_of_le (show _ < 1000001 by omega) (by decide)
      · rw [fold_step hz']
        have w := (w3.trans w4).trans w5
        exact ⟨((p1.trans (.of w)).trans (Tr.head m5 w5.b)), ⟨p2.nm.mono w.a, m5.head (mo_dK upd_same (kv_putK e2 k5))⟩, p4.trans w.a⟩)
    fun H' ⟨N', p1, p2, _⟩ => by
      rw [List.take_length] at p1 p2
      exact q _ (.r D) _ N' H' p1 p2.ms rfl ⟨D, rfl, rfl⟩
/-- list(d): its keys -/
theorem eg_listK {p : Addr} {kvs : List (Key × GV)} (h : AV K L G tr [.r p]) (hm : (p, .dK kvs) ∈ L) : EG K L G (tCB rListD tr) (.list (kvs.map fun kv => kD kv.1)) := fun σ N H n ex Q q =>
  h σ N H n ex _ fun x N1 H1 w1 k1 => by
    cases k1 with
    | cons a b =>
      cases b
      have m1 := n.ms.step w1
      obtain ⟨_, vs, e1, e2⟩ := m1.at_ _ _ hm
      refine ⟨p, vs, by rw [show _ = V.ref p from a], e1, fun l hl => q _ _ _ (w1.trans (.new w1.b hl)) (.lst upd_same ?_)⟩
      have e3 : (vs.map fun kv => kV kv.1) = (kvs.map (·.1)).map kV := by rw [← kv_keys e2, List.map_map]; rfl
      have e4 : (kvs.map fun kv => kD kv.1) = (kvs.map (·.1)).map kD := by rw [List.map_map]; rfl
      rw [e3, e4]
      exact keys_dps _
end
end K13
namespace K13
open PySem PySem.Spec PyProof.Rows L2
open Evl (Ex fresh_back ex_l ex_t)
section
variable {X : Cx}
/-- y = {k: v for ..} on one line, y a local name -/
theorem sw_dict {kx vx : Expr} {gens : List Comprehension} {sc : Scope} {p1 p2 : Pos} {y : Str} {l : Nat} {env : Env} (h1 : env.scope.kind = .function) (h2 : env.scope.names.lookup y = some .local) (h3 : (p2.line == p1.line) = true)
    (h4 : (sc.names.any fun (n, k) => n == y && (k == .local || k == .cell)) = false) : swapsWith (.DictComp kx vx gens sc p1) (some (.Name y p2)) l env = pure true := by
  have e1 : env.kindOf y = some .local := h2
  have e2 : env.blockKind = .function := by
    unfold Env.blockKind
    rw [h1] <;> rfl
  unfold swapsWith
  simp only [e2, e1, h4, Expr.pos, h3] <;> rfl
theorem ps_setDc {i : Nat} {y : Str} {p2 p1 p3 : Pos} {kx vx tg src : Expr} {cond : List Expr} {sc : Scope} {own : List (Str × Nat)} {wi : TI} {g : L2.TG} {tt : TT} {tk tv : TE} (c0 : X.calm = true) (nd : X.N.Nodup) (e1 : X.N[i]? = some y) (e2 : X.env.scope.names.lookup y = some .local)
    (e3 : swapsWith (.DictComp kx vx [⟨tg, src, cond, 0⟩] sc p1) (some (.Name y p2)) p3.line X.env = pure true) (a1 : PI X tg src wi) (bk : BlkOk X.N X.env.scope sc own)
    (a2 : ∀ (s : Shared) (H : Hp) (C : Addr) (cl : List (Str × Addr)) (fp : List Addr), PG (X.blk s H sc (compEnvC sc cl C X.env) fp) tg g)
    (a3 : ∀ (s : Shared) (H : Hp) (C : Addr) (cl : List (Str × Addr)) (fp : List Addr), PTs (X.blk s H sc (compEnvC sc cl C X.env) fp) cond tt)
    (a4 : ∀ (s : Shared) (H : Hp) (C : Addr) (cl : List (Str × Addr)) (fp : List Addr), PE (X.blk s H sc (compEnvC sc cl C X.env) fp) kx tk)
    (a5 : ∀ (s : Shared) (H : Hp) (C : Addr) (cl : List (Str × Addr)) (fp : List Addr), PE (X.blk s H sc (compEnvC sc cl C X.env) fp) vx tv) (a6 : ∀ x, foldedSetIterable src X.env x = pure x := by intro _; rfl) :
    PS X (.Assign [.Name y p2] (.DictComp kx vx [⟨tg, src, cond, 0⟩] sc p1) p3) (tAsg (tDc wi g tt tk tv (own.map (·.2))) (gName i)) := by
  constructor
  intro pins s σ H D I h
  rw [exec_Assign_Name_used _ _ _ _ e3]
  apply wpAny_bind
  apply wpAny_standAt
  apply wpAny_bind
  show wpAny _ X.A (do let _ ← comprehension (.DictComp kx vx [⟨tg, src, cond, 0⟩] sc p1) sc X.env (firstIterPos [⟨tg, src, cond, 0⟩] p1) newDict false (eval src X.env) (some (assign (.Name y p2) X.env))) _ _ s
  have h' : tDc wi g tt tk tv (own.map (·.2)) σ H (fun x H1 => gName i x σ H1 D.nx) := h
  apply wpAny_bind
  refine thn (dc_core (Qf := fun _ s' => SP X pins D .next s') c0 nd I a1 bk a2 a3 a4 a5 a6 h' fun M C s1 m H1 I1 q hn f => ?_) fun _ s' hq => wpAny_pure (wpAny_pure hq)
  show wpAny _ _ (assign (.Name y p2) X.env (.ref M)) _ _ _
  refine wpAny_assign_Name (store_ok2 (v := V.ref M) I1 nd e1 (.inl e2) rfl (fun s2 I2 ⟨a, sb, ha⟩ => ?_) (.inr e2))
  obtain ⟨g0, g1, g2, g3, g4, g5⟩ := f
  have ne : C ≠ a := by
    cases ha with
    | inl z => exact z ▸ g1
    | inr z => exact fun e => g4 y a z e.symm
  exact ⟨m, hn.sameBut sb ne, fun h3 sb3 => ⟨_, H1, I2.turned (t' := s2.toks) (fun b o hb e => (sb3.2 b hb).trans e) g0 g1 g3 g4 g5, q⟩⟩
end
section
variable {K : PySem.W.Frag} {L : SH} {G : Gm} {te : TE} {β γ : Type} {wi wi1 : TI} {tg tg1 : L2.TG} {zs : List β} {Ta : β → Gm → Gm} {Tb : γ → Gm → Gm} {ts ts1 : List Nat}
/-- a list of pairs, unpacked into two names -/
theorem ig_pairs {α δ : Type} {m1 m2 : Nat} {tl : TE} {g : α → PyData} {h : δ → PyData} {xs : List (α × δ)} (he : EG K L G tl (.list (xs.map fun q => .tuple [g q.1, h q.2]))) :
    IG K L G (iList K tl) (gTup K 2 (gCons (gName m1) (gCons (gName m2) gNil))) xs (fun z Γ => (Γ.set m1 (some (.d (g z.1)))).set m2 (some (.d (h z.2)))) [m1, m2] := fun σ N H n ex R r =>
  he σ N H n ex _ fun v N1 H1 w1 k1 => by
    obtain ⟨a, ys, rfl, hq, hd⟩ := dp_lst k1
    have l : ys.length = xs.length := by simpa using dps_len hd
    refine ⟨a, rfl, ⟨ys, ex_l w1.b hq⟩, r _ N1 H1 _ _ w1 (l ▸ walk_list (xs := ys)) (fun H' e => ex_l e hq) fun i z x σ' L Γ N2 H2 H3 hz e1 e2 n2 y Q q => ?_⟩
    obtain ⟨rfl, hx⟩ := y
    obtain ⟨x', hx', kx⟩ := dps_at' hd hx
    obtain ⟨z', hz', rfl⟩ := map_at hx'
    rw [hz] at hz'
    cases hz'
    obtain ⟨T, us, rfl, hT, hu⟩ := dp_tup (dp_mono e1 _ _ kx)
    cases hu with
    | cons k1 hu =>
      cases hu with
      | cons k2 hu =>
        cases hu
        refine ⟨T, _, rfl, ex_t e2 hT, rfl, _, _, rfl, _, _, rfl, rfl, q _ N2 (.refl e2) ((n2.set k1).set k2) (fun j hj => ?_) (by simp)⟩
        rw [List.getElem?_set_ne (fun z => hj (by simp [z])), List.getElem?_set_ne (fun z => hj (by simp [z]))]
theorem eg_neg {i : Int} (h : EG K L G te (.int i)) : EG K L G (tUn (rU fun i => .int (-i)) te) (.int (-i)) := fun σ N H n ex Q q => h σ N H n ex _ fun v N1 H1 w1 k1 => ⟨i, dp_int k1, q _ N1 H1 w1 (.int _)⟩
theorem cw_push {N0 H0 N H : Hp} {D : Addr} {ds : List PyData} {y : V} {d : PyData} (hD : H0 D = none) (w : Cw K N0 H0 D ds N H) (k : Dp K N y d) : ∃ vs, H D = some (.lst vs) ∧ vs.length = ds.length ∧ Cw K N0 H0 D (ds ++ [d]) N (upd H D (.lst (vs ++ [y]))) := by
  obtain ⟨w1, w2, vs, w3, w4⟩ := w
  refine ⟨vs, w3, dps_len w4, ⟨w1.a, fun b o q => ?_, fun b o q => ?_, w1.d, w1.n⟩, w2, _, upd_same, dps_app w4 (.cons k .nil)⟩
  · rw [upd_ne (ne_of_none q w2)]
    exact w1.b b o q
  · rw [upd_ne (ne_of_none q hD)]
    exact w1.c b o q
theorem flat_len {α δ : Type} {f : α → List δ} {xs : List α} {i : Nat} : ((xs.take i).flatMap f).length ≤ (xs.flatMap f).length := by
  conv => rhs; rw [← List.take_append_drop i xs]
  rw [List.flatMap_append, List.length_append]
  omega
theorem eg_lc2 {ws vs1 : List Nat} {ys : β → List γ} {f : β → γ → PyData} (h : IG K L G wi tg zs Ta ts) (hm : ∀ j, j ∉ ws → j ∉ ts) (h1 : ∀ z ∈ zs, IG K L (Ta z (wipeG G ws)) wi1 tg1 (ys z) Tb ts1) (hm1 : ∀ j, j ∉ vs1 → j ∉ ts1)
    (he : ∀ z ∈ zs, ∀ y ∈ ys z, EG K L (Tb y (wipeG (Ta z (wipeG G ws)) vs1)) te (f z y)) (hz : (zs.flatMap fun z => (ys z).map (f z)).length ≤ 1000000) :
    EG K L G (tLc2 wi tg tYes wi1 tg1 tYes te ws vs1) (.list (zs.flatMap fun z => (ys z).map (f z))) := fun σ N H n ex Q q =>
  h σ N H n ex _ fun J N1 H1 Gd Y w1 wk gd ty D hD => by
    refine ⟨fun i m H' => m = zs.length - i ∧ i ≤ zs.length ∧ ∃ N', Cw K N1 H1 D ((zs.take i).flatMap fun z => (ys z).map (f z)) N' H', ⟨zs.length, rfl, Nat.zero_le _, N1, cw_start (xs := zs) (p := fun _ => true) (f := fun _ => .none) w1.b hD⟩, ?_⟩
    rintro i m H' ⟨rfl, hi, N', p'⟩
    by_cases hlt : i < zs.length
    · have hz' : zs[i]? = some zs[i] := List.getElem?_eq_getElem hlt
      have mem := List.mem_of_getElem? hz'
      refine .inr ⟨wk.goes i H' hlt (gd H' (p'.1.a.trans p'.1.b)), fun H2 => ∃ N2, Cw K N1 H1 D ((zs.take (i + 1)).flatMap fun z => (ys z).map (f z)) N2 H2, fun H2 q2 => ⟨zs.length - (i + 1), by omega, rfl, hlt, q2⟩, fun x H2 y => ?_⟩
      refine ty i zs[i] x (wipe σ ws) L (wipeG G ws) N' H' H2 hz' p'.1.a p'.1.b ((((n.step w1).step p'.1)).wipe ws) (wk.yields i H' x H2 hlt (gd H' (p'.1.a.trans p'.1.b)) y) _ fun σ2 N3 w3 n3 o3 l3 => ?_
      refine ⟨wipe_again (by rw [l3, wipe_length]) fun j hj => by rw [o3 j (hm j hj), wipe_at, if_neg hj], ?_⟩
      simp only [tYes, ↓reduceIte]
      refine h1 _ mem σ2 N3 H2 n3 w3.b _ fun J1 N4 H4 Gd1 Y1 w4 wk1 gd1 ty1 => ?_
      have p4 := (p'.step w3).step w4
      refine ⟨fun j k H' => k = (ys zs[i]).length - j ∧ j ≤ (ys zs[i]).length ∧ ∃ N', Cw K N1 H1 D (((zs.take i).flatMap fun z => (ys z).map (f z)) ++ ((ys zs[i]).take j).map (f zs[i])) N' H' ∧ Ex N4 N', ⟨(ys zs[i]).length, rfl, Nat.zero_le _, N4, by simpa using p4, Ex.refl _⟩, ?_⟩
      rintro j k H5 ⟨rfl, hj, N5, p5, e5⟩
      by_cases hlt1 : j < (ys zs[i]).length
      · have hy' : (ys zs[i])[j]? = some (ys zs[i])[j] := List.getElem?_eq_getElem hlt1
        have memy := List.mem_of_getElem? hy'
        have n5 : En K L (Ta zs[i] (wipeG G ws)) σ2 N5 H5 := ⟨(n3.nm.mono w4.a).mono e5, (n.ms.step w1).step p5.1⟩
        refine .inr ⟨wk1.goes j H5 hlt1 (gd1 H5 (e5.trans p5.1.b)), fun H6 => ∃ N6, Cw K N1 H1 D (((zs.take i).flatMap fun z => (ys z).map (f z)) ++ ((ys zs[i]).take (j + 1)).map (f zs[i])) N6 H6 ∧ Ex N4 N6, fun H6 q6 => ⟨(ys zs[i]).length - (j + 1), by omega, rfl, hlt1, q6⟩, fun x1 H6 y1 => ?_⟩
        refine ty1 j (ys zs[i])[j] x1 (wipe σ2 vs1) L _ N5 H5 H6 hy' e5 p5.1.b (n5.wipe vs1) (wk1.yields j H5 x1 H6 hlt1 (gd1 H5 (e5.trans p5.1.b)) y1) _ fun σ3 N6 w6 n6 o6 l6 => ?_
        refine ⟨wipe_again (by rw [l6, wipe_length]) fun j hj => by rw [o6 j (hm1 j hj), wipe_at, if_neg hj], ?_⟩
        refine he _ mem _ memy σ3 N6 H6 n6 w6.b _ fun v N7 H7 w7 k7 => ?_
        obtain ⟨vs, g1, g2, g3⟩ := cw_push hD ((p5.step w6).step w7) k7
        refine ⟨vs, g1, ?_, N7, ?_, (e5.trans w6.a).trans w7.a⟩
        · rw [g2, List.length_append, List.length_map, List.length_take]
          have e1 := flat_len (f := fun z => (ys z).map (f z)) (xs := zs) (i := i + 1)
          rw [List.take_add_one, hz'] at e1
          simp only [List.flatMap_append, List.length_append, Option.toList_some, List.flatMap_cons, List.flatMap_nil, List.append_nil, List.length_map] at e1
          exact Nat.lt_of_lt_of_le (show _ < 1000001 by omega) (by decide)
        · have e7 : ((ys zs[i]).take (j + 1)).map (f zs[i]) = ((ys zs[i]).take j).map (f zs[i]) ++ [f zs[i] (ys zs[i])[j]] := by
            rw [List.take_add_one, hy', List.map_append]
            rfl
          rw [e7, ← List.append_assoc]
          exact g3
      · have e : j = (ys zs[i]).length := by omega
        subst e
        refine .inl ⟨wk1.stops H5 (gd1 H5 (e5.trans p5.1.b)), N5, ?_⟩
        have e8 : (zs.take (i + 1)).flatMap (fun z => (ys z).map (f z)) = (zs.take i).flatMap (fun z => (ys z).map (f z)) ++ (ys zs[i]).map (f zs[i]) := by
          rw [List.take_add_one, hz', List.flatMap_append]
          congr 1
          exact List.append_nil _
        rw [e8]
        rw [List.take_length] at p5
        exact p5
    · have e : i = zs.length := by omega
      subst e
      refine .inl ⟨wk.stops H' (gd H' (p'.1.a.trans p'.1.b)), ?_⟩
      rw [List.take_length] at p'
      obtain ⟨N2, w2, k2, _⟩ := cw_end hD p'
      exact q _ N2 H' (w1.trans w2) k2
end
end K13
namespace K13
open PySem PySem.Spec PyProof.Rows L2
open PySem.Sem (wp)
open Evl (Ex fresh_back ex_l ex_t)
/-- an iterator at it over what stands at l: P k h where it stands before the k-th of xs -/
structure Feed (it l : Addr) (xs : Array Value) (P : Nat → Heap → Prop) : Prop where
  frame : ∀ k h h', P k h → (∀ o, h.get? it = some o → h'.get? it = some o) → (∀ o, h.get? l = some o → h'.get? l = some o) → P k h'
  there : ∀ k h, P k h → it < h.objs.size ∧ l < h.objs.size
  rec_ : ∀ k h, P k h → ∃ o, h.get? it = some o ∧ ∃ fs, o.data = .fields fs
  item : ∀ (prog : Program) (w : World) (A : Around) (E : Value → Shared → Prop) (s : Shared) (k : Nat) (x : Value) (Q : Value → Shared → Prop), P k s.heap → it ≠ l → xs[k]? = some x → (∀ h', P (k + 1) h' → Heap.SameBut it s.heap h' → Q x { s with heap := h' }) →
    wpAny (model prog w) A (Builtin.SmallTypes.nextOf (.ref it)) Q E s
  stop : ∀ (prog : Program) (w : World) (A : Around) (E : Value → Shared → Prop) (s : Shared) (k : Nat) (Q : Value → Shared → Prop), A.handled = none → P k s.heap → xs[k]? = none → (∀ h' e, Heap.ExtBut it s.heap h' → (∃ o, h'.get? e = some o ∧ o.cls = .type "StopIteration") → E (.ref e) { s with heap := h' }) →
    wpAny (model prog w) A (Builtin.SmallTypes.nextOf (.ref it)) Q E s
theorem feed_list (it l : Addr) (xs : Array Value) : Feed it l xs (fun k h => h.IsListIter it l k ∧ h.IsList l xs) where
  frame := fun k h h' p a b => ⟨p.1.at a, by obtain ⟨o, ho, r⟩ := p.2; exact ⟨o, b o ho, r⟩⟩
  there := fun k h p => by obtain ⟨⟨o, ho, _⟩, ⟨u, hu, _⟩⟩ := p; exact ⟨Heap.lt_size ho, Heap.lt_size hu⟩
  rec_ := fun k h p => by obtain ⟨⟨o, ho, _, hd⟩, _⟩ := p; exact ⟨o, ho, _, hd⟩
  item := fun prog w A E s k x Q p ne hx q => wpAny_nextOf_list_item p.1 p.2 hx fun h' a b => q h' ⟨a, p.2.extBut b.extBut ne.symm⟩ b
  stop := fun prog w A E s k Q hh p hx q => wpAny_nextOf_list_end hh p.1 p.2 hx q
theorem feed_tup (it l : Addr) (xs : Array Value) : Feed it l xs (fun k h => h.IsTupleIter it l k ∧ h.IsTuple l xs) where
  frame := fun k h h' p a b => ⟨p.1.at a, by obtain ⟨o, ho, r⟩ := p.2; exact ⟨o, b o ho, r⟩⟩
  there := fun k h p => by obtain ⟨⟨o, ho, _⟩, ⟨u, hu, _⟩⟩ := p; exact ⟨Heap.lt_size ho, Heap.lt_size hu⟩
  rec_ := fun k h p => by obtain ⟨⟨o, ho, _, hd⟩, _⟩ := p; exact ⟨o, ho, _, hd⟩
  item := fun prog w A E s k x Q p ne hx q => RZ.nextOf_tuple_item p.1 p.2 hx fun h' a b => q h' ⟨a, p.2.extBut b.extBut ne.symm⟩ b
  stop := fun prog w A E s k Q hh p hx q => RZ.nextOf_tuple_end hh p.1 p.2 hx q
section
variable {prog : Program} {w : World} {A : Around} {E : Value → Shared → Prop} {s : Shared} {P1 P2 : Nat → Heap → Prop} {z TI TO i1 i2 l1 l2 : Addr} {k1 k2 : Nat} {xs ys : Array Value} {a b : Value}
theorem zipF_item {x y : Value} {Q : Value → Shared → Prop} (F1 : Feed i1 l1 xs P1) (F2 : Feed i2 l2 ys P2) (D : ZipApart z TI TO i1 i2 l1 l2) (ez : IsZip s.heap z TI TO .none) (eI : IsPair s.heap TI (.ref i1) (.ref i2)) (eO : IsPair s.heap TO a b) (p1 : P1 k1 s.heap) (p2 : P2 k2 s.heap) (ex : xs[k1]? = some x) (ey : ys[k2]? = some y)
    (q : ∀ h', IsZip h' z TI TO (rawInt s.heap.objs.size) → IsPair h' TO x y → P1 (k1 + 1) h' → P2 (k2 + 1) h' → IsPair h' s.heap.objs.size x y → h'.objs.size = s.heap.objs.size + 1 → (∀ c o, c ≠ z → c ≠ TO → c ≠ i1 → c ≠ i2 → s.heap.get? c = some o → h'.get? c = some o) → Q (.ref s.heap.objs.size) { s with heap := h' }) :
    wpAny (model prog w) A (Builtin.«zip.__next__» ⟨[.ref z], []⟩) (fun fin s' => ∃ v, fin = .done (.ret v) ∧ Q v s') E s := by
  show wpAny _ _ (field (.ref z) 2 >>= _) _ _ _; refine wpAny_bind (wpAny_field ez rfl (x := .bool false) rfl ?_)
  show wpAny _ _ (field (.ref z) 3 >>= _) _ _ _; refine wpAny_bind (wpAny_field ez rfl (x := .ref TI) rfl (wpAny_bind (wpAny_seqItems eI rfl ?_)))
  show wpAny _ _ (Builtin.SmallTypes.ownedTupleIsFree (.ref z) >>= _) _ _ _; apply wpAny_bind; unfold Builtin.SmallTypes.ownedTupleIsFree
  refine wpAny_bind (wpAny_field ez rfl (x := .none) rfl (wpAny_pure ?_)); simp only [if_true]
  refine wpAny_bind (wpAny_rule (wpAny_bind (wpAny_field ez rfl (x := .ref TO) rfl ?_))); refine wpAny_bind (wpAny_setField_rec ez (by simp) fun u1 ez1 s1 => ?_)
  have ez1' : IsZip u1 z TI TO .ellipsis := ez1
  apply wpAny_bind; simp only [List.zipIdx_cons, List.zipIdx_nil, List.forIn_cons, List.forIn_nil]
  refine wpAny_bind (wpAny_bind (wpAny_onRaise ?_)); show wpAny _ _ (Builtin.SmallTypes.nextOf (.ref i1) >>= _) _ _ _
  have up1 : ∀ c o, c ≠ z → s.heap.get? c = some o → u1.get? c = some o := fun c o n e => s1.extBut _ _ n e
  refine wpAny_bind (F1.item _ _ _ _ _ k1 x _ (F1.frame _ _ _ p1 (fun o => up1 _ o D.i1z) fun o => up1 _ o D.l1z) D.l1i1.symm ex fun u2 p1' s2 => wpAny_pure ?_)
  have eO2 : IsPair u2 TO a b := s2.extBut _ _ D.TOi1 (up1 _ _ D.TOz eO)
  refine wpAny_bind (wpAny_seqItems eO2 rfl (wpAny_bind (wpAny_updateSeq_pair eO2 fun u3 eO3 s3 => ?_)))
  have eO3' : IsPair u3 TO x b := eO3
  refine wpAny_bind (wpAny_letGo (wpAny_pure (wpAny_bind (wpAny_bind (wpAny_onRaise ?_))))); show wpAny _ _ (Builtin.SmallTypes.nextOf (.ref i2) >>= _) _ _ _
  have up3 : ∀ c o, c ≠ z → c ≠ i1 → c ≠ TO → s.heap.get? c = some o → u3.get? c = some o := fun c o n1 n2 n3 e => s3.extBut _ _ n3 (s2.extBut _ _ n2 (up1 c o n1 e))
  refine wpAny_bind (F2.item _ _ _ _ _ k2 y _ (F2.frame _ _ _ p2 (fun o => up3 _ o D.i2z D.i12.symm D.TOi2.symm) fun o => up3 _ o D.l2z D.l2i1 D.l2TO) D.l2i2.symm ey fun u4 p2' s4 => wpAny_pure ?_)
  have eO4 : IsPair u4 TO x b := s4.extBut _ _ D.TOi2 eO3'
  refine wpAny_bind (wpAny_seqItems eO4 rfl (wpAny_bind (wpAny_updateSeq_pair eO4 fun u5 eO5 s5 => ?_)))
  have eO5' : IsPair u5 TO x y := eO5
  refine wpAny_bind (wpAny_letGo (wpAny_pure (wpAny_pure (wpAny_bind (wpAny_seqItems eO5' rfl (wpAny_bind (wpAny_newTuple ?_)))))))
  have sz : u5.objs.size = s.heap.objs.size := by rw [s5.1, s4.1, s3.1, s2.1, s1.1]
  have z5 : IsZip u5 z TI TO .ellipsis := s5.extBut _ _ D.TOz.symm (s4.extBut _ _ D.i2z.symm (s3.extBut _ _ D.TOz.symm (s2.extBut _ _ D.i1z.symm ez1')))
  have up5 : ∀ c o, c ≠ z → c ≠ TO → c ≠ i1 → c ≠ i2 → s.heap.get? c = some o → u5.get? c = some o := fun c o n1 n2 n3 n4 e => s5.extBut _ _ n2 (s4.extBut _ _ n4 (up3 c o n1 n3 n2 e))
  have q1 : P1 (k1 + 1) u5 := F1.frame _ _ _ p1' (fun o e => s5.extBut _ _ D.TOi1.symm (s4.extBut _ _ D.i12 (s3.extBut _ _ D.TOi1.symm e))) fun o e => s5.extBut _ _ D.l1TO (s4.extBut _ _ D.l1i2 (s3.extBut _ _ D.l1TO e))
  have q2 : P2 (k2 + 1) u5 := F2.frame _ _ _ p2' (fun o e => s5.extBut _ _ D.TOi2.symm e) fun o e => s5.extBut _ _ D.l2TO e
  have lz : z < u5.objs.size := Heap.lt_size z5
  show wpAny _ _ (Builtin.SmallTypes.ownedTupleHandOut (.ref z) (.ref u5.objs.size) >>= _) _ _ _; apply wpAny_bind; unfold Builtin.SmallTypes.ownedTupleHandOut
  have z6 : IsZip (u5.push { cls := .type "tuple", data := .seq #[x, y] }) z TI TO .ellipsis := Heap.get?_push_of_some _ z5
  refine wpAny_bind (wpAny_setField_rec z6 (by simp) fun u7 z7 s7 => ?_)
  have z7' : IsZip u7 z TI TO (rawInt u5.objs.size) := z7
  refine wpAny_setField_rec z7' (by simp) fun u8 z8 s8 => ?_
  have z8' : IsZip u8 z TI TO (rawInt u5.objs.size) := z8
  have up8 : ∀ c o, c ≠ z → u5.get? c = some o → u8.get? c = some o := fun c o n e => s8.extBut _ _ n (s7.extBut _ _ n (Heap.get?_push_of_some _ e))
  have t8 : IsPair u8 u5.objs.size x y := s8.extBut _ _ (Nat.ne_of_gt lz) (s7.extBut _ _ (Nat.ne_of_gt lz) (Heap.get?_push_size _ rfl))
  have n8 : u8.objs.size = u5.objs.size + 1 := by rw [s8.1, s7.1, Heap.size_push]
  rw [sz] at z8' t8 n8; refine wpAny_pure ⟨_, rfl, ?_⟩; show Q (.ref u5.objs.size) _; rw [sz]
  exact q u8 z8' (up8 _ _ D.TOz eO5') (F1.frame _ _ _ q1 (fun o => up8 _ o D.i1z) fun o => up8 _ o D.l1z) (F2.frame _ _ _ q2 (fun o => up8 _ o D.i2z) fun o => up8 _ o D.l2z) t8 n8 fun c o n1 n2 n3 n4 e => up8 c o n1 (up5 c o n1 n2 n3 n4 e)
theorem zipF_stop {Q : Fin → Shared → Prop} (F1 : Feed i1 l1 xs P1) (F2 : Feed i2 l2 ys P2) (hh : A.handled = none) (D : ZipApart z TI TO i1 i2 l1 l2) (ez : IsZip s.heap z TI TO .none) (eI : IsPair s.heap TI (.ref i1) (.ref i2)) (eO : IsPair s.heap TO a b) (p1 : P1 k1 s.heap) (p2 : P2 k2 s.heap) (ee : xs[k1]? = none ∨ ys[k2]? = none)
    (q : ∀ h' e, (∀ c o, c ≠ z → c ≠ TO → c ≠ i1 → c ≠ i2 → s.heap.get? c = some o → h'.get? c = some o) → (∃ o, h'.get? e = some o ∧ o.cls = .type "StopIteration") → E (.ref e) { s with heap := h' }) :
    wpAny (model prog w) A (Builtin.«zip.__next__» ⟨[.ref z], []⟩) Q E s := by
  show wpAny _ _ (field (.ref z) 2 >>= _) _ _ _; refine wpAny_bind (wpAny_field ez rfl (x := .bool false) rfl ?_)
  show wpAny _ _ (field (.ref z) 3 >>= _) _ _ _; refine wpAny_bind (wpAny_field ez rfl (x := .ref TI) rfl (wpAny_bind (wpAny_seqItems eI rfl ?_)))
  show wpAny _ _ (Builtin.SmallTypes.ownedTupleIsFree (.ref z) >>= _) _ _ _; apply wpAny_bind; unfold Builtin.SmallTypes.ownedTupleIsFree
  refine wpAny_bind (wpAny_field ez rfl (x := .none) rfl (wpAny_pure ?_)); simp only [if_true]
  refine wpAny_bind (wpAny_rule (wpAny_bind (wpAny_field ez rfl (x := .ref TO) rfl ?_))); refine wpAny_bind (wpAny_setField_rec ez (by simp) fun u1 ez1 s1 => ?_)
  have ez1' : IsZip u1 z TI TO .ellipsis := ez1
  apply wpAny_bind; simp only [List.zipIdx_cons, List.zipIdx_nil, List.forIn_cons, List.forIn_nil]
  refine wpAny_bind (wpAny_bind (wpAny_onRaise ?_)); show wpAny _ _ (Builtin.SmallTypes.nextOf (.ref i1) >>= _) _ _ _
  have up1 : ∀ c o, c ≠ z → s.heap.get? c = some o → u1.get? c = some o := fun c o n e => s1.extBut _ _ n e
  have p1' := F1.frame _ _ _ p1 (fun o => up1 _ o D.i1z) fun o => up1 _ o D.l1z
  cases hx : xs[k1]? with
  | none =>
    refine wpAny_bind (F1.stop _ _ _ _ _ k1 _ hh p1' hx fun u2 e s2 he => ?_); obtain ⟨oe, hoe, hce⟩ := he
    have z2 : IsZip u2 z TI TO .ellipsis := s2 _ _ D.i1z.symm ez1'
    have ne : e ≠ z := fun t => by subst t; rw [z2] at hoe; cases hoe; simp at hce
    exact wpAny_setField_rec z2 (by simp) fun u3 _ s3 => q u3 e (fun c o c1 _ c3 _ t => s3.extBut _ _ c1 (s2 _ _ c3 (up1 c o c1 t))) ⟨oe, s3.extBut _ _ ne hoe, hce⟩
  | some x =>
    have hy : ys[k2]? = none := by cases ee with | inl t => rw [hx] at t; cases t | inr t => exact t
    refine wpAny_bind (F1.item _ _ _ _ _ k1 x _ p1' D.l1i1.symm hx fun u2 p1'' s2 => wpAny_pure ?_)
    have eO2 : IsPair u2 TO a b := s2.extBut _ _ D.TOi1 (up1 _ _ D.TOz eO)
    refine wpAny_bind (wpAny_seqItems eO2 rfl (wpAny_bind (wpAny_updateSeq_pair eO2 fun u3 eO3 s3 => wpAny_bind (wpAny_letGo (wpAny_pure (wpAny_bind (wpAny_bind (wpAny_onRaise ?_))))))))
    show wpAny _ _ (Builtin.SmallTypes.nextOf (.ref i2) >>= _) _ _ _
    have up3 : ∀ c o, c ≠ z → c ≠ i1 → c ≠ TO → s.heap.get? c = some o → u3.get? c = some o := fun c o n1 n2 n3 e => s3.extBut _ _ n3 (s2.extBut _ _ n2 (up1 c o n1 e))
    refine wpAny_bind (F2.stop _ _ _ _ _ k2 _ hh (F2.frame _ _ _ p2 (fun o => up3 _ o D.i2z D.i12.symm D.TOi2.symm) fun o => up3 _ o D.l2z D.l2i1 D.l2TO) hy fun u4 e s4 he => ?_); obtain ⟨oe, hoe, hce⟩ := he
    have z4 : IsZip u4 z TI TO .ellipsis := s4 _ _ D.i2z.symm (s3.extBut _ _ D.TOz.symm (s2.extBut _ _ D.i1z.symm ez1'))
    have ne : e ≠ z := fun t => by subst t; rw [z4] at hoe; cases hoe; simp at hce
    exact wpAny_setField_rec z4 (by simp) fun u5 _ s5 => q u5 e (fun c o c1 c2 c3 c4 t => s5.extBut _ _ c1 (s4 _ _ c4 (up3 c o c1 c3 c2 t))) ⟨oe, s5.extBut _ _ ne hoe, hce⟩
theorem nextF_item {x y : Value} {Q : Option Value → Shared → Prop} (F1 : Feed i1 l1 xs P1) (F2 : Feed i2 l2 ys P2) (D : ZipApart z TI TO i1 i2 l1 l2) (ez : IsZip s.heap z TI TO .none) (eI : IsPair s.heap TI (.ref i1) (.ref i2)) (eO : IsPair s.heap TO a b) (p1 : P1 k1 s.heap) (p2 : P2 k2 s.heap) (ex : xs[k1]? = some x) (ey : ys[k2]? = some y)
    (q : ∀ h', IsZip h' z TI TO (rawInt s.heap.objs.size) → IsPair h' TO x y → P1 (k1 + 1) h' → P2 (k2 + 1) h' → IsPair h' s.heap.objs.size x y → h'.objs.size = s.heap.objs.size + 1 → (∀ c o, c ≠ z → c ≠ TO → c ≠ i1 → c ≠ i2 → s.heap.get? c = some o → h'.get? c = some o) → Q (some (.ref s.heap.objs.size)) { s with heap := h' }) :
    wpAny (model prog w) A (pyNext (.ref z)) Q E s := by
  have ty : s.TypeIs (.ref z) "zip" := ⟨_, ez, rfl⟩
  unfold pyNext; apply wpAny_bind; apply wpAny_attempt
  exact wpAny_callSpecial?_slot (name := Str.ofString "__next__") ty F.slot_zip_next (wpAny_call_entry F.slot_zip_next ty F.entry_zip_next (zipF_item F1 F2 D ez eI eO p1 p2 ex ey fun h' a1 a2 a3 a4 a5 a6 a7 => wpAny_pure (q h' a1 a2 a3 a4 a5 a6 a7)) (F.args_zip_next_1 _))
theorem nextF_stop {Q : Option Value → Shared → Prop} (F1 : Feed i1 l1 xs P1) (F2 : Feed i2 l2 ys P2) (hh : A.handled = none) (D : ZipApart z TI TO i1 i2 l1 l2) (ez : IsZip s.heap z TI TO .none) (eI : IsPair s.heap TI (.ref i1) (.ref i2)) (eO : IsPair s.heap TO a b) (p1 : P1 k1 s.heap) (p2 : P2 k2 s.heap) (ee : xs[k1]? = none ∨ ys[k2]? = none)
    (q : ∀ h', (∀ c o, c ≠ z → c ≠ TO → c ≠ i1 → c ≠ i2 → s.heap.get? c = some o → h'.get? c = some o) → Q none { s with heap := h' }) : wpAny (model prog w) A (pyNext (.ref z)) Q E s := by
  have ty : s.TypeIs (.ref z) "zip" := ⟨_, ez, rfl⟩
  unfold pyNext; apply wpAny_bind; apply wpAny_attempt
  refine wpAny_callSpecial?_slot (name := Str.ofString "__next__") ty F.slot_zip_next (wpAny_call_entry F.slot_zip_next ty F.entry_zip_next (zipF_stop F1 F2 hh D ez eI eO p1 p2 ee fun h' e hk he => ?_) (F.args_zip_next_1 _))
  obtain ⟨o, ho, hc⟩ := he; refine wpAny_bind (wpAny_isInstance (T := "StopIteration") (b := true) ⟨o, ho, hc⟩ isSubtype_stop (wpAny_pure (q _ hk)))
/-- zip(a tuple, a list) -/
abbrev zm1 (h : Heap) (l1 : Addr) : Heap := h.push { cls := .type "tuple_iterator", data := .fields #[.ref l1, .int 0 0] }
abbrev zm2 (h : Heap) (l1 l2 : Addr) : Heap := (zm1 h l1).push { cls := .type "list_iterator", data := .fields #[.ref l2, .int 0 0] }
abbrev zm3 (h : Heap) (l1 l2 : Addr) : Heap := (zm2 h l1 l2).push { cls := .type "tuple", data := .seq #[.ref h.objs.size, .ref (zm1 h l1).objs.size] }
abbrev zm4 (h : Heap) (l1 l2 : Addr) : Heap := (zm3 h l1 l2).push { cls := .type "tuple", data := .seq #[.none, .none] }
abbrev zm5 (h : Heap) (l1 l2 : Addr) : Heap := (zm4 h l1 l2).push { cls := .type "zip", data := .fields #[.none, .bool false, .bool false, .ref (zm2 h l1 l2).objs.size, .ref (zm3 h l1 l2).objs.size] }
theorem meets_zm (l1 l2 : Addr) (xs ys : Array Value) : Meets (Builtin.«zip.__new__» ⟨[.type "zip", .ref l1, .ref l2], []⟩) (fun _ R s => s.heap.IsTuple l1 xs ∧ s.heap.IsList l2 ys ∧ R (.ok (.ret (.ref (zm4 s.heap l1 l2).objs.size))) { s with heap := zm5 s.heap l1 l2 }) :=
  .of_wp fun prog w A R s h => by
    obtain ⟨hp, g, d, tk, os⟩ := s; obtain ⟨a1, a2, h⟩ := h
    have sub := sub_zip
    have b1 : Heap.IsTuple (Shared.heap ⟨hp, g, d, tk, os⟩) l1 xs := a1
    have b2 : Heap.IsList (Shared.heap ⟨hp.push { cls := .type "tuple_iterator", data := .fields #[.ref l1, .int 0 0] }, g, d, tk, os⟩) l2 ys := Heap.IsList.push a2 _
    wp_walk using wpAny_pyIter_tuple b1, wpAny_pyIter_list b2
    exact ⟨_, rfl, h⟩
theorem call_zm {Q : Value → Shared → Prop} (a1 : s.heap.IsTuple l1 xs) (a2 : s.heap.IsList l2 ys)
    (h : ∀ h', IsZip h' (s.heap.objs.size + 4) (s.heap.objs.size + 2) (s.heap.objs.size + 3) .none → IsPair h' (s.heap.objs.size + 2) (.ref s.heap.objs.size) (.ref (s.heap.objs.size + 1)) → IsPair h' (s.heap.objs.size + 3) .none .none → h'.IsTupleIter s.heap.objs.size l1 0 → h'.IsListIter (s.heap.objs.size + 1) l2 0 → h'.objs.size = s.heap.objs.size + 5 → (∀ c o, s.heap.get? c = some o → h'.get? c = some o) → Q (.ref (s.heap.objs.size + 4)) { s with heap := h' }) :
    wpAny (model prog w) A (call (.type "zip") [.ref l1, .ref l2]) Q E s := by
  refine callType_new F.called_zip (by decide) (F.typeCall_zip_2 _ _) (F.newCall_zip_2 _ _) (fun obj => F.args_object_init_3 obj _ _) F.entry_zip_new (meets_zm l1 l2 xs ys) ⟨a1, a2, ?_⟩
  have e1 : (zm1 s.heap l1).objs.size = s.heap.objs.size + 1 := Heap.size_push ..
  have e2 : (zm2 s.heap l1 l2).objs.size = s.heap.objs.size + 2 := by rw [Heap.size_push, e1]
  have e3 : (zm3 s.heap l1 l2).objs.size = s.heap.objs.size + 3 := by rw [Heap.size_push, e2]
  have e4 : (zm4 s.heap l1 l2).objs.size = s.heap.objs.size + 4 := by rw [Heap.size_push, e3]
  have e5 : (zm5 s.heap l1 l2).objs.size = s.heap.objs.size + 5 := by rw [Heap.size_push, e4]
  have up : ∀ (h : Heap) (o : Obj) c u, h.get? c = some u → (h.push o).get? c = some u := fun h o c u e => Heap.get?_push_of_some _ e
  have g5 : (zm5 s.heap l1 l2).get? (zm4 s.heap l1 l2).objs.size = some _ := Heap.get?_push_size _ rfl
  have g4 : (zm5 s.heap l1 l2).get? (zm3 s.heap l1 l2).objs.size = some _ := up _ _ _ _ (Heap.get?_push_size _ rfl)
  have g3 : (zm5 s.heap l1 l2).get? (zm2 s.heap l1 l2).objs.size = some _ := up _ _ _ _ (up _ _ _ _ (Heap.get?_push_size _ rfl))
  have g2 : (zm5 s.heap l1 l2).get? (zm1 s.heap l1).objs.size = some _ := up _ _ _ _ (up _ _ _ _ (up _ _ _ _ (Heap.get?_push_size _ rfl)))
  have g1 : (zm5 s.heap l1 l2).get? s.heap.objs.size = some _ := up _ _ _ _ (up _ _ _ _ (up _ _ _ _ (up _ _ _ _ (Heap.get?_push_size _ rfl))))
  show _ ∧ _
  rw [e2, e3, e4] at g5; rw [e1, e2] at g3; rw [e3] at g4; rw [e1] at g2; rw [e4]
  exact ⟨⟨_, g5, rfl⟩, h _ g5 g3 g4 ⟨_, g1, rfl, rfl⟩ ⟨_, g2, rfl, rfl⟩ e5 fun c o x => up _ _ _ _ (up _ _ _ _ (up _ _ _ _ (up _ _ _ _ (up _ _ _ _ x))))⟩
end
/-- the tuple at a, the list at b as they stand at each turn, their items in new pairs -/
def ItzM (K : PySem.W.Frag) (a b : Addr) : It :=
  ⟨fun i H => ∃ (xs ys : List V) (x y : V), SqT K H a xs ∧ SqL K H b ys ∧ xs[i]? = some x ∧ ys[i]? = some y, fun i H v H' => ∃ T x y, v = .ref T ∧ H T = none ∧ H' = upd H T (.tup [x, y]) ∧ (∀ xs, SqT K H a xs → xs[i]? = some x) ∧ ∀ ys, SqL K H b ys → ys[i]? = some y,
    fun i H => ∃ xs ys : List V, SqT K H a xs ∧ SqL K H b ys ∧ (xs.length ≤ i ∨ ys.length ≤ i)⟩
/-- where the five objects of the zip stand before turn i -/
structure ZmSt (a b z TI TO i1 i2 : Addr) (i : Nat) (h : Heap) : Prop where
  z_ : IsZip h z TI TO .none
  I_ : IsPair h TI (.ref i1) (.ref i2)
  O_ : ∃ x y, IsPair h TO x y
  a_ : h.IsTupleIter i1 a i
  b_ : h.IsListIter i2 b i
theorem five {z TI TO i1 i2 c : Addr} {p : Addr → Prop} (h : c ∈ [z, TI, TO, i1, i2]) (h1 : p z) (h2 : p TI) (h3 : p TO) (h4 : p i1) (h5 : p i2) : p c := by
  simp only [List.mem_cons, List.not_mem_nil, or_false] at h
  rcases h with rfl | rfl | rfl | rfl | rfl <;> assumption
theorem turn_zm {P : Program} {w : World} {K : PySem.W.Frag} {elts : List Expr} {kk : Nat} {tpos : Pos} {a b z TI TO i1 i2 : Addr} (D : ZipApart z TI TO i1 i2 a b) : Turn P w K (.Tuple elts kk tpos) (ItzM K a b) [z, TI, TO, i1, i2] z (ZmSt a b z TI TO i1 i2) where
  mem := List.mem_cons_self
  obj := fun i h st c hc => by
    obtain ⟨e1, e2, ⟨x, y, e3⟩, ⟨o4, e4, _, d4⟩, ⟨o5, e5, _, d5⟩⟩ := st
    exact five (p := fun c => ∃ o, h.get? c = some o ∧ ∀ v, o.data ≠ .cell v) hc ⟨_, e1, fun v q => nomatch q⟩ ⟨_, e2, fun v q => nomatch q⟩ ⟨_, e3, fun v q => nomatch q⟩ ⟨o4, e4, fun v q => by rw [d4] at q; cases q⟩ ⟨o5, e5, fun v q => by rw [d5] at q; cases q⟩
  keep := fun i h h' st k => by
    obtain ⟨e1, e2, ⟨x, y, e3⟩, e4, e5⟩ := st
    exact ⟨k z (by simp) _ e1, k TI (by simp) _ e2, ⟨x, y, k TO (by simp) _ e3⟩, e4.at fun o => k i1 (by simp) o, e5.at fun o => k i2 (by simp) o⟩
  item := by
    intro X hP hw hK hc i pins s σ H E I hf st hg
    subst hP hw hK
    obtain ⟨e1, e2, ⟨x0, y0, e3⟩, e4, e5⟩ := st
    obtain ⟨xs, ys, x, y, qx, qy, hx, hy⟩ := hg
    obtain ⟨its, rv, p, _⟩ := I.tuple qx
    obtain ⟨its2, rv2, p2, _⟩ := I.list qy
    obtain ⟨u, hu, ru⟩ := rv.get hx
    obtain ⟨u2, hu2, ru2⟩ := rv2.get hy
    have lz : z < s.heap.objs.size := Heap.lt_size e1
    refine nextF_item (feed_tup i1 a its.toArray) (feed_list i2 b its2.toArray) D e1 e2 e3 ⟨e4, p⟩ ⟨e5, p2.isList⟩ (x := u) (y := u2) (by simpa using hu) (by simpa using hu2) fun h' z' TO' f1 f2 hT hsz hk => ?_
    refine ⟨_, rfl, wpAny_letOwnedTupleGo_zip (s := { s with heap := h' }) z' fun h'' z'' sb => ?_⟩
    have up : ∀ c, c ≠ z → h''.get? c = h'.get? c := fun c n => sb.2 c n
    have hT2 : h''.get? s.heap.objs.size = some { cls := .type "tuple", data := .seq #[u, u2] } := (up _ (Nat.ne_of_gt lz)).trans hT
    have new : ObjOk X.prog X.w (upd H s.heap.objs.size (.tup [x, y])) h'' s.heap.objs.size (.tup [x, y]) := ⟨show 2 ≤ sizeLine by decide, [u, u2], .cons ru (.cons ru2 .nil), ⟨_, hT2, rfl, _, rfl⟩⟩
    have I1 : Inv X pins σ (upd H s.heap.objs.size (.tup [x, y])) { s with heap := h'' } := I.turnedNew (t' := s.toks) (ch := [z, TI, TO, i1, i2]) (fun c o hb q => by
      simp only [List.mem_cons, List.not_mem_nil, or_false, not_or] at hb
      exact (up c hb.1).trans (hk c o hb.1 hb.2.2.1 hb.2.2.2.1 hb.2.2.2.2 q)) hf (Nat.le_refl _) new
    refine ⟨.ref s.heap.objs.size, _, I1, rfl, ⟨_, x, y, rfl, I.hok.fresh (Nat.le_refl _), rfl, fun l hl => by rw [I.tuple_inj hl qx, hx], fun l hl => by rw [I.list_inj hl qy, hy]⟩, ⟨z'', (up _ D.TIz).trans (hk _ _ D.TIz D.TITO D.TIi1 D.TIi2 e2), ⟨u, u2, (up _ D.TOz).trans TO'⟩, f1.1.at fun o q => (up _ D.i1z).trans q, f2.1.at fun o q => (up _ D.i2z).trans q⟩, fun c hcm => ?_⟩
    have lt : c < s.heap.objs.size := five (p := fun c => c < s.heap.objs.size) hcm lz (Heap.lt_size e2) (Heap.lt_size e3) (by obtain ⟨_, e, _⟩ := e4; exact Heap.lt_size e) (by obtain ⟨_, e, _⟩ := e5; exact Heap.lt_size e)
    rw [upd_ne (Nat.ne_of_lt lt)]
    exact (hf c hcm).1
  done := by
    intro X hP hw hK hc i pins s σ H E I hf st hg
    subst hP hw hK
    obtain ⟨e1, e2, ⟨x0, y0, e3⟩, e4, e5⟩ := st
    obtain ⟨xs, ys, qx, qy, he⟩ := hg
    obtain ⟨its, rv, p, _⟩ := I.tuple qx
    obtain ⟨its2, rv2, p2, _⟩ := I.list qy
    have n1 := rv.length
    have n2 := rv2.length
    have ee : its.toArray[i]? = none ∨ its2.toArray[i]? = none := by
      cases he with
      | inl t => exact .inl (by simp; omega)
      | inr t => exact .inr (by simp; omega)
    refine nextF_stop (feed_tup i1 a its.toArray) (feed_list i2 b its2.toArray) (I.ok.hd hc) D e1 e2 e3 ⟨e4, p⟩ ⟨e5, p2.isList⟩ ee fun h' hk => ⟨rfl, I.turnedL (t' := s.toks) (ch := [z, TI, TO, i1, i2]) (fun c o hb q => ?_) hf⟩
    simp only [List.mem_cons, List.not_mem_nil, or_false, not_or] at hb
    exact hk c o hb.1 hb.2.2.1 hb.2.2.2.1 hb.2.2.2.2 q
  self := fun A i s Q E st h => wpAny_pyIter_zip st.z_ h
end K13
namespace K13
open PySem PySem.Spec PyProof.Rows L2
open PySem.Sem (wp)
open Evl (Ex fresh_back ex_l ex_t)
def iZipM (K : PySem.W.Frag) (ta : TA) : TI := fun σ H R => ta σ H fun vs H1 => ∃ a b xs ys, vs = [.ref a, .ref b] ∧ SqT K H1 a xs ∧ SqL K H1 b ys ∧ R (ItzM K a b) H1
theorem pi_zipM {X : Cx} {e e2 : Expr} {ta : TA} {p pos tpos : Pos} {elts : List Expr} {kk : Nat} (hg : Gl X "zip") (hm : X.mg "zip" = none) (ha : PA X [e, e2] ta) (c1 : starEach [e, e2] X.env = (false, eval e X.env) :: starEach [e2] X.env := by rfl) (c2 : (backTo pos (starEach [e2] X.env)).any (·.1) = false := by rfl) :
    PI X (.Tuple elts kk tpos) (.Call (.Name "zip" p) [e, e2] [] pos) (iZipM X.K ta) := by
  constructor
  intro pins s σ H R I h
  refine Call_ (ld_blt I hg hm PyProof.Rows.boot_zip (PyProof.Rows.callWith_type1 (thn (ha.run pos pins s σ H _ I h) fun us s1 ⟨vs, H1, I1, r1, a, b, xs, ys, ex, qx, qy, q⟩ => ?_) c1 c2))
  subst ex
  cases r1 with
  | cons r rr =>
  cases rr with
  | cons r' rr =>
  cases rr
  cases r
  cases r'
  obtain ⟨its, rv, p1, _⟩ := I1.tuple qx
  obtain ⟨its2, rv2, p2, _⟩ := I1.list qy
  obtain ⟨o1, ho1, _⟩ := id p1
  refine call_zm (show s1.heap.IsTuple a its.toArray from p1) p2.isList fun h' f1 f2 f3 f4 f5 hsz hk => wpAny_pyIter_zip f1 ?_
  have fr : ∀ c, c ∈ [s1.heap.objs.size + 4, s1.heap.objs.size + 2, s1.heap.objs.size + 3, s1.heap.objs.size, s1.heap.objs.size + 1] → FpOk X pins H1 c := fun c hc => by
    have le : s1.heap.objs.size ≤ c := five (p := fun c => s1.heap.objs.size ≤ c) hc (by omega) (by omega) (by omega) (by omega) (by omega)
    exact I1.fpOk le (I1.hok.fresh le)
  exact ⟨s1.heap.objs.size + 4, [s1.heap.objs.size + 4, s1.heap.objs.size + 2, s1.heap.objs.size + 3, s1.heap.objs.size, s1.heap.objs.size + 1], _, _, H1, rfl, I1.kept (t' := s1.toks) hk, turn_zm (PySem.W.ktu_apart s1.heap.objs.size a b (Heap.lt_size ho1) p2.lt), ⟨f1, f2, ⟨_, _, f3⟩, f4, f5⟩, fr, q⟩
/-- zip(a tuple of data, a list of data) -/
theorem ig_zipM {K : PySem.W.Frag} {L : SH} {G : Gm} {α β : Type} {m1 m2 : Nat} {g : α → PyData} {h : β → PyData} {xs : List α} {ys : List β} {tr : TA} (ha : AG K L G tr [.tuple (xs.map g), .list (ys.map h)]) :
    IG K L G (iZipM K tr) (gTup K 2 (gCons (gName m1) (gCons (gName m2) gNil))) (xs.zip ys) (fun z Γ => (Γ.set m1 (some (.d (g z.1)))).set m2 (some (.d (h z.2)))) [m1, m2] := fun σ N H n ex R r =>
  ag_two ha n ex fun u v N1 H1 w1 k1 k2 => by
    obtain ⟨a, us, rfl, hq, hd⟩ := dp_tup k1
    obtain ⟨b, vs, rfl, hq', hd'⟩ := dp_lst k2
    have l : us.length = xs.length := by simpa using dps_len hd
    have l' : vs.length = ys.length := by simpa using dps_len hd'
    refine ⟨a, b, us, vs, rfl, ex_t w1.b hq, ex_l w1.b hq', r _ N1 H1 (fun H => SqT K H a us ∧ SqL K H b vs) (YPair (fun i => us[i]?) (fun i => vs[i]?)) w1 ⟨fun i H hi q => ?_, fun H q => ⟨us, vs, q.1, q.2, ?_⟩, fun i H v H' hi q y => ?_⟩ (fun H' e => ⟨ex_t e hq, ex_l e hq'⟩) fun i z x σ' L Γ N2 H2 H3 hz e1 e2 n2 y Q q => ?_⟩
    · rw [List.length_zip] at hi
      exact ⟨us, vs, us[i]'(by omega), vs[i]'(by omega), q.1, q.2, List.getElem?_eq_getElem _, List.getElem?_eq_getElem _⟩
    · rw [List.length_zip]
      omega
    · obtain ⟨T, p, p', h1, h2, h3, h4, h5⟩ := y
      exact ⟨T, p, p', h1, h2, h3, h4 us q.1, h5 vs q.2⟩
    · obtain ⟨T, p, p', rfl, hT, rfl, h4, h5⟩ := y
      obtain ⟨x1, hx1, kx1⟩ := dps_at' hd h4
      obtain ⟨x2, hx2, kx2⟩ := dps_at' hd' h5
      obtain ⟨z1, hz1, rfl⟩ := map_at hx1
      obtain ⟨z2, hz2, rfl⟩ := map_at hx2
      have hz' : (xs.zip ys)[i]? = some (z1, z2) := List.getElem?_zip_eq_some.mpr ⟨hz1, hz2⟩
      rw [hz] at hz'
      cases hz'
      exact pair_told e2 n2 hT (dp_mono e1 _ _ kx1) (dp_mono e1 _ _ kx2) q
end K13
namespace K13
open PySem PySem.Spec PyProof.Rows L2
open Evl (Ex fresh_back ex_l ex_t)
def co (a : Nat) : Nat := if a % 2 = 0 then a + 1 else a - 1
theorem bitXor_one (a : Nat) : Builtin.bitXor (a : Int) 1 = (co a : Int) := by
  rw [bitXor_and]
  have e : Builtin.bitAnd (a : Int) 1 = ((a &&& 1 : Nat) : Int) := by
    unfold Builtin.bitAnd
    simp
  rw [e, Nat.and_one_is_mod]
  unfold co
  split <;> omega
theorem bitAnd_nat (a b : Nat) : Builtin.bitAnd (a : Int) (b : Int) = ((a &&& b : Nat) : Int) := by
  unfold Builtin.bitAnd
  simp
section
variable {X : Cx}
/-- e.f, the fragment named -/
theorem pe_fldK {e : Expr} {f : Str} {pos : Pos} {ta : TE} (K : PySem.W.Frag) (hK : X.K = K) (he : PE X e ta) (hb : attributeBase e f X.env (eval e X.env) = eval e X.env) : PE X (.Attribute e f pos) (tFld K ta f) := by
  subst hK
  exact pe_fld he hb
theorem pg_tupK {es : List Expr} {k : Nat} {t : TGs} {n : Nat} {pos : Pos} (K : PySem.W.Frag) (hK : X.K = K) (hc : X.calm = true) (h : PGs X es t) (hn : (assignEach es X.env).length = n) (hs : (assignEach es X.env).findIdx? (·.1) = none) : PG X (.Tuple es k pos) (gTup K n t) := by
  subst hK
  exact pg_tup hc h hn hs
theorem ix_tupK (K : PySem.W.Frag) (hK : X.K = K) : IxR X (rIxT K) := by subst hK; exact ix_tup
theorem ix_listK (K : PySem.W.Frag) (hK : X.K = K) : IxR X (rIxL K) := by subst hK; exact ix_list
theorem op_eqDK (K : PySem.W.Frag) (hK : X.K = K) (hu : X.A.units + 64 < cLine) : OpR X (compareOp .Eq) (rEqD K) := by subst hK; exact op_eqD hu
theorem op_neDK (K : PySem.W.Frag) (hK : X.K = K) (hu : X.A.units + 64 < cLine) : OpR X (compareOp .NotEq) (rNeD K) := by subst hK; exact op_neD hu
theorem call_lenK (K : PySem.W.Frag) (hK : X.K = K) : CallR X (.builtin "len") (fun xs H Q => ∃ p ys, xs = [.ref p] ∧ (SqL K H p ys ∨ SqT K H p ys) ∧ Q (.int ys.length) H) := by subst hK; exact call_len_seq
theorem op_inK (K : PySem.W.Frag) (hK : X.K = K) : OpR X (compareOp .In) (rIn K false) := by subst hK; exact op_in_seq
theorem op_niK (K : PySem.W.Frag) (hK : X.K = K) : OpR X (compareOp .NotIn) (rIn K true) := by subst hK; exact op_notIn_seq
theorem call_isiK (K : PySem.W.Frag) (hK : X.K = K) : CallR X (.builtin "isinstance") (rIsi K) := by subst hK; exact call_isi
theorem call_tupK (K : PySem.W.Frag) (hK : X.K = K) : CallR X (.type "tuple") (fun xs H Q => ∃ p ys, xs = [.ref p] ∧ ((SqL K H p ys ∧ ∀ l, H l = none → Q (.ref l) (upd H l (.tup ys))) ∨ (SqT K H p ys ∧ Q (.ref p) H))) := by subst hK; exact call_tuple_of
theorem op_catAK (K : PySem.W.Frag) (hK : X.K = K) : OpR X (binaryOp .Add) (rCatA K) := by subst hK; exact op_catA
theorem op_catLK (K : PySem.W.Frag) (hK : X.K = K) : OpR X (binaryOp .Add) (rCatL K) := by subst hK; exact op_catL
theorem sl_tupK (K : PySem.W.Frag) (hK : X.K = K) : SlR X (rSlA K) := by subst hK; exact sl_tupA
theorem sl_listK (K : PySem.W.Frag) (hK : X.K = K) : SlR X (rSlL K) := by subst hK; exact sl_list
theorem cr_sumK (K : PySem.W.Frag) (hK : X.K = K) (hc : X.calm = true) : CallR X (.builtin "sum") (rSum K) := by
  subst hK
  exact cr_sum hc
/-- xs[i] read where it is written anew -/
theorem get_list : PGet X (rIxL X.K) := by
  intro pins s σ H o i ov iv Q I ro ri h
  obtain ⟨p, xs, k, z, rfl, rfl, hq, he, q⟩ := h
  cases ro
  obtain ⟨t, rfl⟩ := ri
  obtain ⟨its, r, pl, hz⟩ := I.list hq
  obtain ⟨j, h1, h2, h3, h4, h5⟩ := atI_get he
  obtain ⟨w, ew, rw'⟩ := r.get h2
  have hl := r.length
  have hn := line63
  by_cases h0 : 0 ≤ k
  · have hj : k.toNat = j := by
      rw [seqIndex_of h0 h5] at h1
      exact Option.some.inj h1
    exact getItem_listL pl.isList h0 (by omega) (by rw [hj]; exact ew) ⟨z, H, I, rw', q⟩
  · have hj : (k + (its.toArray.size : Int)).toNat = j := by
      rw [seqIndex_neg (by omega) h4] at h1
      rw [List.size_toArray, ← hl]
      exact Option.some.inj h1
    exact wpAny_getItem_list_neg pl.isList (by omega) (by rw [List.size_toArray] <;> omega) (by omega) (by rw [hj]; simpa using ew) ⟨z, H, I, rw', q⟩
end
section
variable {K : PySem.W.Frag} {L : SH} {G : Gm} {ta tb te to ti : TE} {tr : TA} {d e : PyData} {g : GV} {gs : List GV}
theorem ig_range {m n : Nat} (hn : n < 1000000000) (h : AG K L G tr [.int (n : Nat)]) : IG K L G (iRng1 tr) (gName m) (List.range n) (fun i Γ => Γ.set m (some (.d (.int (i : Nat))))) [m] := fun σ N H n' ex R r =>
  h σ N H n' ex _ fun vs N1 H1 w1 k1 => by
    cases k1 with
    | cons a b =>
      cases b
      refine ⟨n, by rw [dp_int a], by omega, by omega, r _ N1 H1 _ _ w1 (show Walk (Itr 0 ((n : Int)).toNat) (List.range n).length _ _ from by rw [List.length_range, Int.toNat_natCast]; exact walk_range) (fun _ _ => trivial) fun i z x σ' L Γ N2 H2 H3 hz e1 e2 n2 y Q q => ?_⟩
      obtain ⟨rfl, rfl⟩ := y
      have hi : z = i := by
        have := (List.getElem?_eq_some_iff.mp hz)
        obtain ⟨h1, h2⟩ := this
        rw [List.getElem_range] at h2
        exact h2.symm
      subst hi
      refine name_told e2 n2 ?_ q
      show Dp K N2 (.int (0 + (z : Int))) (.int (z : Nat))
      rw [Int.zero_add]
      exact .int _
theorem dp_isN {N : Hp} {v : V} : ∀ {d : PyData}, Dp K N v d → decide (v = .non) = (match d with | .none => true | _ => false)
  | .none, h => by cases h; rfl
  | .bool _, h => by cases h; rfl
  | .int _, h => by cases h; rfl
  | .str _, h => by cases h; rfl
  | .list _, h => by cases h; rfl
  | .tuple _, h => by cases h; rfl
  | .dict _, h => by cases h
def isN : PyData → Bool
  | .none => true
  | _ => false
theorem dp_isN' {N : Hp} {v : V} {d : PyData} (h : Dp K N v d) : decide (v = .non) = isN d := by
  rw [dp_isN h]
  cases d <;> rfl
theorem rg_isN : RG K (fun x y H Q => y = .non ∧ Q (.bl (decide (x = .non))) H) d .none (.bool (isN d)) := rg_val (fun _ => .bl _) fun u v H N _ h1 h2 Q q => ⟨dp_none h2, by rw [dp_isN' h1]; exact q⟩
theorem rg_notN : RG K (fun x y H Q => y = .non ∧ Q (.bl (!decide (x = .non))) H) d .none (.bool (!isN d)) := rg_val (fun _ => .bl _) fun u v H N _ h1 h2 Q q => ⟨dp_none h2, by rw [dp_isN' h1]; exact q⟩
theorem rg_isB {a b : Bool} : RG K rIsB (.bool a) (.bool b) (.bool (decide (a = b))) := rg_val (fun _ => .bl _) fun u v H N _ h1 h2 Q q => ⟨a, b, dp_bool h1, dp_bool h2, q⟩
theorem rg_addI {i j : Int} : RG K rAdd (.int i) (.int j) (.int (i + j)) := rg_val (fun _ => .int _) fun u v H N _ h1 h2 Q q => ⟨i, j, dp_int h1, dp_int h2, q⟩
/-- min of a list of ints: the least one -/
theorem cg_minI {ns : List Int} {m : Int} (hm : m ∈ ns) (hl : ∀ y ∈ ns, m ≤ y) : CG K (rMin K) [.list (ns.map .int)] (.int m) := fun vs N H ex h Q q => by
  cases h with
  | cons a b =>
    cases b
    obtain ⟨p, ys, rfl, hq, hd⟩ := dp_lst a
    rw [dps_ints hd] at hq
    refine ⟨p, ns, rfl, ex_l ex hq, List.length_pos_of_mem hm, fun m' h1 h2 => ?_⟩
    have : m' = m := Int.le_antisymm (h2 m hm) (hl m' h1)
    subst this
    exact q _ N H (.refl ex) (.int _)
/-- xs[i] op= e, xs a list that changes -/
theorem sm_augS {p : Addr} {i j z : Int} {k : Nat} {f : Int → Int → Int} (ho : EV K L G to (.r p)) (hi : EG K L G ti (.int i)) (hm : (p, .lst gs) ∈ L) (hk : ixN gs.length i = some k) (hg : gs[k]? = some (.d (.int z))) (he : EG K L G te (.int j)) :
    SM K L G (tAugS to ti te (rIxL K) (ipI f) rSetL) (fun G' L' => G' = G ∧ L' = putL p (.lst (gs.set k (.d (.int (f z j))))) L) := fun σ N H D n ex q =>
  ho σ N H n ex _ fun x N1 H1 w1 k1 => hi σ N1 H1 (n.step w1) w1.b _ fun y N2 H2 w2 k2 => by
    obtain rfl : x = .ref p := k1
    have w := w1.trans w2
    obtain ⟨_, vs, e1, e2⟩ := (n.ms.step w).at_ _ _ hm
    have hat : atI gs i = some (.d (.int z)) := by
      unfold atI
      rw [hk]
      exact hg
    obtain ⟨v, e3, e4⟩ := wds_atI e2 hat
    refine ⟨p, vs, i, v, rfl, dp_int k2, SqL.of e1, e3, he σ N2 H2 (n.step w) w2.b _ fun u N3 H3 w3 k3 => ?_⟩
    have w' := w.trans w3
    have m3 := n.ms.step w'
    obtain ⟨_, vs', f1, f2⟩ := m3.at_ _ _ hm
    refine ⟨z, j, dp_int e4, dp_int k3, p, vs', i, k, rfl, dp_int k2, f1, by rw [wds_len f2]; exact hk, q σ G _ N3 _ ((Tr.of w').trans (Tr.put m3 w3.b hm)) ⟨(n.step w').nm, m3.put hm (mo_lst upd_same (wds_set k f2 (show Wd K N3 (.int (f z j)) (.d (.int (f z j))) from .int _)))⟩ ⟨rfl, rfl⟩⟩
theorem ixN_nat {n k : Nat} (h : k < n) : ixN n (k : Int) = some k := by
  unfold ixN
  rw [if_pos (by omega), if_pos (by omega)]
  simp
theorem atI_nat {α : Type} {xs : List α} {k : Nat} {x : α} (h : xs[k]? = some x) : atI xs (k : Int) = some x := by
  have hl := (List.getElem?_eq_some_iff.mp h).1
  unfold atI
  rw [ixN_nat hl]
  exact h
/-- a, b = e, f -/
theorem sm_par2 {m l : Nat} {R1 : GV → SH → Prop} {R2' : GV → GV → SH → Prop} (ha : EM K L G ta R1) (hb : ∀ g L1, R1 g L1 → EM K L1 G tb (R2' g)) : SM K L G (tPar m l (tCons ta (tCons tb tNil))) (fun G' L' => ∃ g g' L1, G' = (G.set m (some g)).set l (some g') ∧ R1 g L1 ∧ R2' g g' L') := fun σ N H D n ex q =>
  ha σ N H n ex _ fun x g L1 N1 H1 t1 m1 k1 r1 => hb g L1 r1 σ N1 H1 (n.trs t1 m1) t1.b _ fun y g' L2 N2 H2 t2 m2 k2 r2 =>
    ⟨x, y, rfl, q _ _ L2 N2 H2 (t1.trans t2) ((((n.trs t1 m1).trs t2 m2).setW (wd_mono t2.a _ k1)).setW k2) ⟨g, g', L1, rfl, r1, r2⟩⟩
theorem tm_imp {tt : TT} {R1 R2' : Bool → SH → Prop} (h : TM K L G tt R1) (k : ∀ b L', R1 b L' → R2' b L') : TM K L G tt R2' := fun σ N H n ex Q q => h σ N H n ex _ fun b L1 N1 H1 t1 m1 r => q b L1 N1 H1 t1 m1 (k _ _ r)
/-- [e, ..], the parts with changes -/
theorem em_lstM {Ra : List GV → SH → Prop} (h : AM K L G tr Ra) (hl : ∀ gs L1, Ra gs L1 → gs.length ≤ sizeLine) : EM K L G (tLst tr) (fun g L' => ∃ p gs L1, g = .r p ∧ Ra gs L1 ∧ L' = (p, .lst gs) :: L1) := fun σ N H n ex Q q =>
  h σ N H n ex _ fun xs gs L1 N1 H1 t1 m1 k1 r => ⟨by rw [wds_len k1]; exact hl gs L1 r, fun p hp => q _ (.r p) _ N1 _ (t1.trans (Tr.new t1.b hp)) (m1.new t1.b hp (mo_lst upd_same k1)) rfl ⟨p, gs, L1, rfl, r, rfl⟩⟩
/-- a, b = (e, f) by way of a tuple -/
theorem sm_tup2 {i j : Nat} {Ra : List GV → SH → Prop} (h : AM K L G tr Ra) (h2 : ∀ gs L1, Ra gs L1 → ∃ d e, gs = [.d d, .d e]) : SM K L G (tAsg (tTup tr) (gTup K 2 (gCons (gName i) (gCons (gName j) gNil)))) (fun G' L' => ∃ d e, G' = (G.set i (some (.d d))).set j (some (.d e)) ∧ Ra [.d d, .d e] L') := fun σ N H D n ex q =>
  h σ N H n ex _ fun xs gs L1 N1 H1 t1 m1 k1 r => by
    obtain ⟨d, e, rfl⟩ := h2 gs L1 r
    match xs, k1 with
    | [u, v], .cons a (.cons b .nil) =>
      refine ⟨Nat.le_of_ble_eq_true rfl, fun p hp => ?_⟩
      have w : Nw N1 H1 N1 (upd H1 p (.tup [u, v])) := ⟨Ex.refl _, t1.b.trans (Ex.new hp), Ex.new hp, fun _ _ h _ => h, fun _ _ h => h⟩
      exact ⟨p, [u, v], rfl, SqT.of upd_same, rfl, u, [v], rfl, v, [], rfl, rfl, q _ _ L1 N1 _ (t1.trans (.of w)) ((((n.trs t1 m1).step w).setW a).setW b) ⟨d, e, rfl, r⟩⟩
/-- [e for .. in data], e data, with changes -/
theorem em_lcD {β : Type} {wi : TI} {tg : L2.TG} {zs : List β} {Ta : β → Gm → Gm} {tgs ws : List Nat} {te : TE} {R : GV → SH → Prop} {W : Nat → List PyData → SH → Prop} (h : IG K L G wi tg zs Ta tgs) (hz : zs.length ≤ 1000000) (hm : ∀ j, j ∉ ws → j ∉ tgs) (h0 : W 0 [] L)
    (hs : ∀ i z ds L1, zs[i]? = some z → W i ds L1 → EM K L1 (Ta z (wipeG G ws)) te (fun g L2 => ∃ d, g = .d d ∧ W (i + 1) (ds ++ [d]) L2)) (hl : ∀ i ds L1, W i ds L1 → ds.length = i)
    (hR : ∀ ds L1, W zs.length ds L1 → R (.d (.list ds)) L1) : EM K L G (tLc wi tg tYes te ws) R := by
  refine em_freeze (em_lc (W := fun i gs L1 => ∃ ds, gs = ds.map .d ∧ W i ds L1) h hz hm ⟨[], rfl, h0⟩ ?_ ?_ ?_)
  · rintro i z gs L1 hi ⟨ds, rfl, w⟩
    refine em_imp (hs i z ds L1 hi w) ?_
    rintro g L2 ⟨d, rfl, w2⟩
    exact ⟨ds ++ [d], by simp, w2⟩
  · rintro i gs L1 ⟨ds, rfl, w⟩
    rw [List.length_map]
    exact hl i ds L1 w
  · rintro gs L1 p ⟨ds, rfl, w⟩
    exact ⟨p, ds, L1, rfl, rfl, hR ds L1 w⟩
end
theorem valG_put {κ : Type} [DecidableEq κ] (kvs : List (κ × GV)) (k k' : κ) (v : GV) : valG (putGK kvs k v) k' = if k' = k then some v else valG kvs k' := by
  unfold putGK
  induction kvs with
  | nil =>
    by_cases e : k' = k
    · subst e; simp [valG]
    · simp [valG, e, Ne.symm e]
  | cons p r ih =>
    obtain ⟨q, u⟩ := p
    by_cases c : q = k
    · subst c
      have h1 : (((q, u) :: r).any fun kv => decide (kv.1 = q)) = true := by simp
      rw [if_pos h1, List.map_cons, if_pos rfl]
      by_cases e : k' = q
      · subst e; simp [valG]
      · rw [if_neg e]
        have : ∀ l : List (κ × GV), valG (l.map fun kv => if kv.1 = q then (kv.1, v) else kv) k' = valG l k' := by
          intro l
          induction l with
          | nil => rfl
          | cons a b ih =>
            obtain ⟨x, y⟩ := a
            by_cases d : x = q
            · subst d
              simp only [List.map_cons, if_pos rfl]
              simpa [valG, Ne.symm e] using ih
            · simp only [List.map_cons, if_neg d]
              by_cases f : x = k'
              · subst f; simp [valG]
              · simpa [valG, f] using ih
        have h2 := this r
        simpa [valG, Ne.symm e] using h2
    · have h1 : (((q, u) :: r).any fun kv => decide (kv.1 = k)) = (r.any fun kv => decide (kv.1 = k)) := by simp [c]
      rw [h1]
      by_cases a : (r.any fun kv => decide (kv.1 = k)) = true
      · rw [if_pos a] at ih ⊢
        rw [List.map_cons, if_neg c]
        by_cases f : q = k'
        · subst f; simp [valG, c]
        · have e1 : ∀ l : List (κ × GV), valG ((q, u) :: l) k' = valG l k' := fun l => by simp [valG, f]
          rw [e1, e1, ih]
      · rw [if_neg a] at ih ⊢
        by_cases f : q = k'
        · subst f; simp [valG, c]
        · have e1 : ∀ l : List (κ × GV), valG ((q, u) :: l) k' = valG l k' := fun l => by simp [valG, f]
          rw [List.cons_append, e1, e1, ih]
end K13
namespace K13
open PySem PySem.Spec PyProof.Rows L2
open Evl (Ex fresh_back ex_l ex_t)
def top (i : Nat) : Stmt := PySem.Challenge.pw_behindtaps_k13_whole_one_kind_of_part_fo.main.body.getD i (.Pass ⟨0, 0, 0, 0⟩)
def gdef (x : Str) (i : Nat) : He.DefD := ⟨(x, none), x, x, defArgs (top i), defBody (top i), defScope (top i), [], []⟩
def mdef (c m q : Str) (i j : Nat) : He.DefD := ⟨(c, some m), m, q, defArgs (inClass (top i) j), defBody (inClass (top i) j), defScope (inClass (top i) j), [], []⟩
def fn0 : List He.DefD := [gdef "is_name" 14,
  gdef "are_names" 15,
  gdef "is_taps" 16,
  gdef "need_taps" 17,
  gdef "is_sort" 18,
  gdef "need_sort" 19,
  gdef "lots" 20,
  gdef "other_taps" 21,
  gdef "made_plain" 22,
  gdef "plain_lots" 23,
  gdef "is_whole" 25,
  gdef "is_number" 26,
  gdef "made" 27,
  gdef "top_of" 28,
  gdef "bottom_of" 29,
  gdef "over" 30,
  gdef "is_less" 31,
  gdef "common_bottom" 32,
  gdef "in_wholes" 33,
  gdef "is_width" 37,
  gdef "is_part" 38,
  gdef "ends" 39,
  gdef "named_places" 40,
  gdef "has_kind" 41,
  gdef "is_net" 42,
  gdef "need_net" 43,
  gdef "kind_of" 44,
  gdef "sort_of" 45,
  gdef "of_parts" 46,
  gdef "both_leads" 47]
def fn1 : List He.DefD := [gdef "as_leads" 48,
  gdef "as_hubs" 49,
  gdef "in_pipes" 50,
  gdef "as_pipes" 51,
  gdef "wall_of" 55,
  gdef "walls" 56,
  gdef "alike_nets" 57,
  gdef "_law_begun" 59,
  gdef "_law_blended" 60,
  gdef "_law_draw" 61,
  gdef "_law_pick" 62,
  gdef "_law_shuffled" 63,
  gdef "_law_caught" 64,
  gdef "_law_is_truth" 65,
  gdef "_law_ct_gcd" 66,
  gdef "_law_ct_made" 67,
  gdef "_law_ct_top" 68,
  gdef "_law_ct_low" 69,
  gdef "_law_ct_times" 70,
  gdef "_law_ct_number" 71,
  gdef "_law_ct_taps" 72,
  gdef "_law_ct_part" 73,
  gdef "_law_ct_net" 74,
  gdef "_law_ct_common" 75,
  gdef "_law_an_every" 76,
  gdef "_law_an_ends" 77,
  gdef "_law_an_kind" 78,
  gdef "_law_an_bits" 79,
  gdef "_law_an_mask" 80,
  gdef "_law_an_common" 81]
def fn2 : List He.DefD := [gdef "_law_an_load" 82,
  gdef "_law_an_costs" 83,
  gdef "_law_an_groups" 84,
  gdef "_law_an_fulls" 85,
  gdef "_law_an_small" 86,
  gdef "_law_an_in_leads" 87,
  gdef "_law_an_in_pipes" 88,
  gdef "_law_an_all_of" 89,
  gdef "_law_an_turned_right" 90,
  gdef "law" 91,
  mdef "Canals" "__init__" "Canals.__init__" 53 0,
  mdef "Canals" "dug" "Canals.dug" 53 1,
  mdef "Canals" "laid" "Canals.laid" 53 2,
  mdef "Canals" "reached" "Canals.reached" 53 3,
  mdef "Canals" "pushed" "Canals.pushed" 53 4,
  mdef "Filling" "__init__" "Filling.__init__" 54 0,
  mdef "Filling" "arcs_of" "Filling.arcs_of" 54 1,
  mdef "Filling" "fill" "Filling.fill" 54 2,
  mdef "Filling" "worth" "Filling.worth" 54 5]
def fn : List He.DefD := fn0 ++ fn1 ++ fn2
def fa0 : List He.Fa := [.glo "is_name",
  .glo "are_names",
  .glo "is_taps",
  .glo "need_taps",
  .glo "is_sort",
  .glo "need_sort",
  .glo "lots",
  .glo "other_taps",
  .glo "made_plain",
  .glo "plain_lots",
  .glo "is_whole",
  .glo "is_number",
  .glo "made",
  .glo "top_of",
  .glo "bottom_of",
  .glo "over",
  .glo "is_less",
  .glo "common_bottom",
  .glo "in_wholes",
  .glo "is_width",
  .glo "is_part",
  .glo "ends",
  .glo "named_places",
  .glo "has_kind",
  .glo "is_net",
  .glo "need_net",
  .glo "kind_of",
  .glo "sort_of",
  .glo "of_parts",
  .glo "both_leads"]
def fa1 : List He.Fa := [.glo "as_leads",
  .glo "as_hubs",
  .glo "in_pipes",
  .glo "as_pipes",
  .glo "wall_of",
  .glo "walls",
  .glo "alike_nets",
  .glo "_law_begun",
  .glo "_law_blended",
  .glo "_law_draw",
  .glo "_law_pick",
  .glo "_law_shuffled",
  .glo "_law_caught",
  .glo "_law_is_truth",
  .glo "_law_ct_gcd",
  .glo "_law_ct_made",
  .glo "_law_ct_top",
  .glo "_law_ct_low",
  .glo "_law_ct_times",
  .glo "_law_ct_number",
  .glo "_law_ct_taps",
  .glo "_law_ct_part",
  .glo "_law_ct_net",
  .glo "_law_ct_common",
  .glo "_law_an_every",
  .glo "_law_an_ends",
  .glo "_law_an_kind",
  .glo "_law_an_bits",
  .glo "_law_an_mask",
  .glo "_law_an_common"]
def fa2 : List He.Fa := [.glo "_law_an_load",
  .glo "_law_an_costs",
  .glo "_law_an_groups",
  .glo "_law_an_fulls",
  .glo "_law_an_small",
  .glo "_law_an_in_leads",
  .glo "_law_an_in_pipes",
  .glo "_law_an_all_of",
  .glo "_law_an_turned_right",
  .glo "law",
  .free "len",
  .free "isinstance",
  .free "str",
  .free "tuple",
  .free "int",
  .free "bool",
  .free "all",
  .free "any",
  .free "zip",
  .free "sorted",
  .free "list",
  .free "enumerate",
  .free "min",
  .free "max",
  .free "range",
  .free "sum",
  .free "abs",
  .free "super",
  .int "LEAST_TAPS" 2,
  .int "MOST_TAPS" 6]
def fa3 : List He.Fa := [.int "MOST_PARTS" 200,
  .int "MOST_PLACES" 40,
  .str "LETTERS" "abcdefghijklmnopqrstuvwxyz",
  .str "DIGITS" "0123456789",
  .glo "TapError",
  .glo "BadTaps",
  .glo "BadSort",
  .glo "BadNet",
  .glo "TooMany",
  .glo "Canals",
  .glo "Filling",
  .glo "SORTS",
  .cls "Canals",
  .mkr "Canals",
  .cls "Filling",
  .mkr "Filling",
  .noat "Canals" "heads",
  .noat "Canals" "rooms",
  .noat "Canals" "outs",
  .noat "Filling" "parts",
  .noat "Filling" "places",
  .noat "Filling" "numbered",
  .noat "Filling" "common",
  .noat "Filling" "canals",
  .noat "Filling" "arcs",
  .noat "Filling" "starts",
  .noat "Filling" "finish",
  .noat "Filling" "amount",
  .meth "Canals" "dug",
  .meth "Canals" "laid"]
def fa4 : List He.Fa := [.meth "Canals" "reached",
  .meth "Canals" "pushed",
  .meth "Filling" "arcs_of",
  .meth "Filling" "fill",
  .meth "Filling" "worth",
  .exc "BadNet",
  .exm "BadNet" "TapError" true,
  .exm "TooMany" "TapError" true]
def fa : List He.Fa := fa0 ++ fa1 ++ fa2 ++ fa3 ++ fa4

def tf : List He.Defn := [("law", none), ("_law_an_turned_right", none)]
def exB (K : PySem.W.Frag) : Bool := He.tupB K "SORTS" [.str "pipes", .str "leads", .str "hubs"] && He.eqO (PySem.W.nsIn K mainGlobals "gcd") (some (some (.builtin "math.gcd")))
/-- what is known of the text behind the top -/
structure Tx (w : World) (K : PySem.W.Frag) (mg : Str → Option Value) (base : Heap) : Prop where
  at_ : ∃ h, K.In h ∧ h.Ns mainGlobals mg ∧ He.SaysX fa fn [] tf exB w h K
  tb : ∀ p ∈ tf, LamX.TabB base mg (He.cT K p).1 (He.cT K p).2
section
variable {P : Program} {w : World} {K : PySem.W.Frag} {mg : Str → Option Value} {base : Heap}
theorem Tx.fact (T : Tx w K mg base) (i : Nat) {f : He.Fa} (h : fa[i]? = some f) : f.ok K = true := by
  obtain ⟨h0, _, _, c⟩ := T.at_
  exact c.t.d.fact i h
theorem Tx.g (T : Tx w K mg base) (i : Nat) {x : Str} (h : fa[i]? = some (.glo x)) : mg x = some (.ref (He.ga K x)) := by
  obtain ⟨h0, X, G, c⟩ := T.at_
  exact He.glo_ok X G (c.t.d.fact i h)
theorem Tx.n (T : Tx w K mg base) (i : Nat) {x : Str} (h : fa[i]? = some (.free x)) : mg x = none := by
  obtain ⟨h0, X, G, c⟩ := T.at_
  exact He.free_ok X G (c.t.d.fact i h)
theorem Tx.ci (T : Tx w K mg base) (i : Nat) {x : Str} {n : Int} (h : fa[i]? = some (.int x n)) : ∃ u, mg x = some u ∧ RelV (.int n) u := by
  obtain ⟨h0, X, G, c⟩ := T.at_
  obtain ⟨t, e⟩ := He.int_ok X G (c.t.d.fact i h)
  exact ⟨_, e, t, rfl⟩
theorem Tx.cs (T : Tx w K mg base) (i : Nat) {x z : Str} (h : fa[i]? = some (.str x z)) : ∃ u, mg x = some u ∧ RelV (.str z) u := by
  obtain ⟨h0, X, G, c⟩ := T.at_
  obtain ⟨t, e⟩ := He.str_ok X G (c.t.d.fact i h)
  exact ⟨_, e, t, rfl⟩
theorem Tx.d (T : Tx w K mg base) (i : Nat) {d : He.DefD} (h : fn[i]? = some d) : ∃ fd, FunD K d.name d.qual d.params d.body d.scope (d.dvs K) (d.kws K) (He.fAd K d.at_) fd := by
  obtain ⟨h0, X, G, c⟩ := T.at_
  exact c.t.d.def_ i h
theorem Tx.ex (T : Tx w K mg base) : He.tupB K "SORTS" [.str "pipes", .str "leads", .str "hubs"] = true ∧ He.eqO (PySem.W.nsIn K mainGlobals "gcd") (some (some (.builtin "math.gcd"))) = true := by
  obtain ⟨h0, X, G, c⟩ := T.at_
  exact He.ba c.more
theorem Tx.sorts (T : Tx w K mg base) (H : Hp) : SqT K H (He.ga K "SORTS") [.str "pipes", .str "leads", .str "hubs"] := He.tupB_ok T.ex.1 H
theorem Tx.g_gcd (T : Tx w K mg base) : mg "gcd" = some (.builtin "math.gcd") := by
  obtain ⟨h0, X, G, c⟩ := T.at_
  exact PySem.W.mg_of X G (He.eqO_ok T.ex.2)
theorem Tx.g_is_name (T : Tx w K mg base) : mg "is_name" = some (.ref (He.ga K "is_name")) := T.g 0 (by rfl)
theorem Tx.g_are_names (T : Tx w K mg base) : mg "are_names" = some (.ref (He.ga K "are_names")) := T.g 1 (by rfl)
theorem Tx.g_is_taps (T : Tx w K mg base) : mg "is_taps" = some (.ref (He.ga K "is_taps")) := T.g 2 (by rfl)
theorem Tx.g_need_taps (T : Tx w K mg base) : mg "need_taps" = some (.ref (He.ga K "need_taps")) := T.g 3 (by rfl)
theorem Tx.g_is_sort (T : Tx w K mg base) : mg "is_sort" = some (.ref (He.ga K "is_sort")) := T.g 4 (by rfl)
theorem Tx.g_need_sort (T : Tx w K mg base) : mg "need_sort" = some (.ref (He.ga K "need_sort")) := T.g 5 (by rfl)
theorem Tx.g_lots (T : Tx w K mg base) : mg "lots" = some (.ref (He.ga K "lots")) := T.g 6 (by rfl)
theorem Tx.g_other_taps (T : Tx w K mg base) : mg "other_taps" = some (.ref (He.ga K "other_taps")) := T.g 7 (by rfl)
theorem Tx.g_made_plain (T : Tx w K mg base) : mg "made_plain" = some (.ref (He.ga K "made_plain")) := T.g 8 (by rfl)
theorem Tx.g_plain_lots (T : Tx w K mg base) : mg "plain_lots" = some (.ref (He.ga K "plain_lots")) := T.g 9 (by rfl)
theorem Tx.g_is_whole (T : Tx w K mg base) : mg "is_whole" = some (.ref (He.ga K "is_whole")) := T.g 10 (by rfl)
theorem Tx.g_is_number (T : Tx w K mg base) : mg "is_number" = some (.ref (He.ga K "is_number")) := T.g 11 (by rfl)
theorem Tx.g_made (T : Tx w K mg base) : mg "made" = some (.ref (He.ga K "made")) := T.g 12 (by rfl)
theorem Tx.g_top_of (T : Tx w K mg base) : mg "top_of" = some (.ref (He.ga K "top_of")) := T.g 13 (by rfl)
theorem Tx.g_bottom_of (T : Tx w K mg base) : mg "bottom_of" = some (.ref (He.ga K "bottom_of")) := T.g 14 (by rfl)
theorem Tx.g_over (T : Tx w K mg base) : mg "over" = some (.ref (He.ga K "over")) := T.g 15 (by rfl)
theorem Tx.g_is_less (T : Tx w K mg base) : mg "is_less" = some (.ref (He.ga K "is_less")) := T.g 16 (by rfl)
theorem Tx.g_common_bottom (T : Tx w K mg base) : mg "common_bottom" = some (.ref (He.ga K "common_bottom")) := T.g 17 (by rfl)
theorem Tx.g_in_wholes (T : Tx w K mg base) : mg "in_wholes" = some (.ref (He.ga K "in_wholes")) := T.g 18 (by rfl)
theorem Tx.g_is_width (T : Tx w K mg base) : mg "is_width" = some (.ref (He.ga K "is_width")) := T.g 19 (by rfl)
theorem Tx.g_is_part (T : Tx w K mg base) : mg "is_part" = some (.ref (He.ga K "is_part")) := T.g 20 (by rfl)
theorem Tx.g_ends (T : Tx w K mg base) : mg "ends" = some (.ref (He.ga K "ends")) := T.g 21 (by rfl)
theorem Tx.g_named_places (T : Tx w K mg base) : mg "named_places" = some (.ref (He.ga K "named_places")) := T.g 22 (by rfl)
theorem Tx.g_has_kind (T : Tx w K mg base) : mg "has_kind" = some (.ref (He.ga K "has_kind")) := T.g 23 (by rfl)
theorem Tx.g_is_net (T : Tx w K mg base) : mg "is_net" = some (.ref (He.ga K "is_net")) := T.g 24 (by rfl)
theorem Tx.g_need_net (T : Tx w K mg base) : mg "need_net" = some (.ref (He.ga K "need_net")) := T.g 25 (by rfl)
theorem Tx.g_kind_of (T : Tx w K mg base) : mg "kind_of" = some (.ref (He.ga K "kind_of")) := T.g 26 (by rfl)
theorem Tx.g_sort_of (T : Tx w K mg base) : mg "sort_of" = some (.ref (He.ga K "sort_of")) := T.g 27 (by rfl)
theorem Tx.g_of_parts (T : Tx w K mg base) : mg "of_parts" = some (.ref (He.ga K "of_parts")) := T.g 28 (by rfl)
theorem Tx.g_both_leads (T : Tx w K mg base) : mg "both_leads" = some (.ref (He.ga K "both_leads")) := T.g 29 (by rfl)
theorem Tx.g_as_leads (T : Tx w K mg base) : mg "as_leads" = some (.ref (He.ga K "as_leads")) := T.g 30 (by rfl)
theorem Tx.g_as_hubs (T : Tx w K mg base) : mg "as_hubs" = some (.ref (He.ga K "as_hubs")) := T.g 31 (by rfl)
theorem Tx.g_in_pipes (T : Tx w K mg base) : mg "in_pipes" = some (.ref (He.ga K "in_pipes")) := T.g 32 (by rfl)
theorem Tx.g_as_pipes (T : Tx w K mg base) : mg "as_pipes" = some (.ref (He.ga K "as_pipes")) := T.g 33 (by rfl)
theorem Tx.g_wall_of (T : Tx w K mg base) : mg "wall_of" = some (.ref (He.ga K "wall_of")) := T.g 34 (by rfl)
theorem Tx.g_walls (T : Tx w K mg base) : mg "walls" = some (.ref (He.ga K "walls")) := T.g 35 (by rfl)
theorem Tx.g_alike_nets (T : Tx w K mg base) : mg "alike_nets" = some (.ref (He.ga K "alike_nets")) := T.g 36 (by rfl)
theorem Tx.g__law_begun (T : Tx w K mg base) : mg "_law_begun" = some (.ref (He.ga K "_law_begun")) := T.g 37 (by rfl)
theorem Tx.g__law_blended (T : Tx w K mg base) : mg "_law_blended" = some (.ref (He.ga K "_law_blended")) := T.g 38 (by rfl)
theorem Tx.g__law_draw (T : Tx w K mg base) : mg "_law_draw" = some (.ref (He.ga K "_law_draw")) := T.g 39 (by rfl)
theorem Tx.g__law_pick (T : Tx w K mg base) : mg "_law_pick" = some (.ref (He.ga K "_law_pick")) := T.g 40 (by rfl)
theorem Tx.g__law_shuffled (T : Tx w K mg base) : mg "_law_shuffled" = some (.ref (He.ga K "_law_shuffled")) := T.g 41 (by rfl)
theorem Tx.g__law_caught (T : Tx w K mg base) : mg "_law_caught" = some (.ref (He.ga K "_law_caught")) := T.g 42 (by rfl)
theorem Tx.g__law_is_truth (T : Tx w K mg base) : mg "_law_is_truth" = some (.ref (He.ga K "_law_is_truth")) := T.g 43 (by rfl)
theorem Tx.g__law_ct_gcd (T : Tx w K mg base) : mg "_law_ct_gcd" = some (.ref (He.ga K "_law_ct_gcd")) := T.g 44 (by rfl)
theorem Tx.g__law_ct_made (T : Tx w K mg base) : mg "_law_ct_made" = some (.ref (He.ga K "_law_ct_made")) := T.g 45 (by rfl)
theorem Tx.g__law_ct_top (T : Tx w K mg base) : mg "_law_ct_top" = some (.ref (He.ga K "_law_ct_top")) := T.g 46 (by rfl)
theorem Tx.g__law_ct_low (T : Tx w K mg base) : mg "_law_ct_low" = some (.ref (He.ga K "_law_ct_low")) := T.g 47 (by rfl)
theorem Tx.g__law_ct_times (T : Tx w K mg base) : mg "_law_ct_times" = some (.ref (He.ga K "_law_ct_times")) := T.g 48 (by rfl)
theorem Tx.g__law_ct_number (T : Tx w K mg base) : mg "_law_ct_number" = some (.ref (He.ga K "_law_ct_number")) := T.g 49 (by rfl)
theorem Tx.g__law_ct_taps (T : Tx w K mg base) : mg "_law_ct_taps" = some (.ref (He.ga K "_law_ct_taps")) := T.g 50 (by rfl)
theorem Tx.g__law_ct_part (T : Tx w K mg base) : mg "_law_ct_part" = some (.ref (He.ga K "_law_ct_part")) := T.g 51 (by rfl)
theorem Tx.g__law_ct_net (T : Tx w K mg base) : mg "_law_ct_net" = some (.ref (He.ga K "_law_ct_net")) := T.g 52 (by rfl)
theorem Tx.g__law_ct_common (T : Tx w K mg base) : mg "_law_ct_common" = some (.ref (He.ga K "_law_ct_common")) := T.g 53 (by rfl)
theorem Tx.g__law_an_every (T : Tx w K mg base) : mg "_law_an_every" = some (.ref (He.ga K "_law_an_every")) := T.g 54 (by rfl)
theorem Tx.g__law_an_ends (T : Tx w K mg base) : mg "_law_an_ends" = some (.ref (He.ga K "_law_an_ends")) := T.g 55 (by rfl)
theorem Tx.g__law_an_kind (T : Tx w K mg base) : mg "_law_an_kind" = some (.ref (He.ga K "_law_an_kind")) := T.g 56 (by rfl)
theorem Tx.g__law_an_bits (T : Tx w K mg base) : mg "_law_an_bits" = some (.ref (He.ga K "_law_an_bits")) := T.g 57 (by rfl)
theorem Tx.g__law_an_mask (T : Tx w K mg base) : mg "_law_an_mask" = some (.ref (He.ga K "_law_an_mask")) := T.g 58 (by rfl)
theorem Tx.g__law_an_common (T : Tx w K mg base) : mg "_law_an_common" = some (.ref (He.ga K "_law_an_common")) := T.g 59 (by rfl)
theorem Tx.g__law_an_load (T : Tx w K mg base) : mg "_law_an_load" = some (.ref (He.ga K "_law_an_load")) := T.g 60 (by rfl)
theorem Tx.g__law_an_costs (T : Tx w K mg base) : mg "_law_an_costs" = some (.ref (He.ga K "_law_an_costs")) := T.g 61 (by rfl)
theorem Tx.g__law_an_groups (T : Tx w K mg base) : mg "_law_an_groups" = some (.ref (He.ga K "_law_an_groups")) := T.g 62 (by rfl)
theorem Tx.g__law_an_fulls (T : Tx w K mg base) : mg "_law_an_fulls" = some (.ref (He.ga K "_law_an_fulls")) := T.g 63 (by rfl)
theorem Tx.g__law_an_small (T : Tx w K mg base) : mg "_law_an_small" = some (.ref (He.ga K "_law_an_small")) := T.g 64 (by rfl)
theorem Tx.g__law_an_in_leads (T : Tx w K mg base) : mg "_law_an_in_leads" = some (.ref (He.ga K "_law_an_in_leads")) := T.g 65 (by rfl)
theorem Tx.g__law_an_in_pipes (T : Tx w K mg base) : mg "_law_an_in_pipes" = some (.ref (He.ga K "_law_an_in_pipes")) := T.g 66 (by rfl)
theorem Tx.g__law_an_all_of (T : Tx w K mg base) : mg "_law_an_all_of" = some (.ref (He.ga K "_law_an_all_of")) := T.g 67 (by rfl)
theorem Tx.g__law_an_turned_right (T : Tx w K mg base) : mg "_law_an_turned_right" = some (.ref (He.ga K "_law_an_turned_right")) := T.g 68 (by rfl)
theorem Tx.g_law (T : Tx w K mg base) : mg "law" = some (.ref (He.ga K "law")) := T.g 69 (by rfl)
theorem Tx.n_len (T : Tx w K mg base) : mg "len" = none := T.n 70 (by rfl)
theorem Tx.n_isinstance (T : Tx w K mg base) : mg "isinstance" = none := T.n 71 (by rfl)
theorem Tx.n_str (T : Tx w K mg base) : mg "str" = none := T.n 72 (by rfl)
theorem Tx.n_tuple (T : Tx w K mg base) : mg "tuple" = none := T.n 73 (by rfl)
theorem Tx.n_int (T : Tx w K mg base) : mg "int" = none := T.n 74 (by rfl)
theorem Tx.n_bool (T : Tx w K mg base) : mg "bool" = none := T.n 75 (by rfl)
theorem Tx.n_all (T : Tx w K mg base) : mg "all" = none := T.n 76 (by rfl)
theorem Tx.n_any (T : Tx w K mg base) : mg "any" = none := T.n 77 (by rfl)
theorem Tx.n_zip (T : Tx w K mg base) : mg "zip" = none := T.n 78 (by rfl)
theorem Tx.n_sorted (T : Tx w K mg base) : mg "sorted" = none := T.n 79 (by rfl)
theorem Tx.n_list (T : Tx w K mg base) : mg "list" = none := T.n 80 (by rfl)
theorem Tx.n_enumerate (T : Tx w K mg base) : mg "enumerate" = none := T.n 81 (by rfl)
theorem Tx.n_min (T : Tx w K mg base) : mg "min" = none := T.n 82 (by rfl)
theorem Tx.n_max (T : Tx w K mg base) : mg "max" = none := T.n 83 (by rfl)
theorem Tx.n_range (T : Tx w K mg base) : mg "range" = none := T.n 84 (by rfl)
theorem Tx.n_sum (T : Tx w K mg base) : mg "sum" = none := T.n 85 (by rfl)
theorem Tx.n_abs (T : Tx w K mg base) : mg "abs" = none := T.n 86 (by rfl)
theorem Tx.n_super (T : Tx w K mg base) : mg "super" = none := T.n 87 (by rfl)
theorem Tx.c_LEAST_TAPS (T : Tx w K mg base) : ∃ u, mg "LEAST_TAPS" = some u ∧ RelV (.int 2) u := T.ci 88 (by rfl)
theorem Tx.c_MOST_TAPS (T : Tx w K mg base) : ∃ u, mg "MOST_TAPS" = some u ∧ RelV (.int 6) u := T.ci 89 (by rfl)
theorem Tx.c_MOST_PARTS (T : Tx w K mg base) : ∃ u, mg "MOST_PARTS" = some u ∧ RelV (.int 200) u := T.ci 90 (by rfl)
theorem Tx.c_MOST_PLACES (T : Tx w K mg base) : ∃ u, mg "MOST_PLACES" = some u ∧ RelV (.int 40) u := T.ci 91 (by rfl)
theorem Tx.c_LETTERS (T : Tx w K mg base) : ∃ u, mg "LETTERS" = some u ∧ RelV (.str "abcdefghijklmnopqrstuvwxyz") u := T.cs 92 (by rfl)
theorem Tx.c_DIGITS (T : Tx w K mg base) : ∃ u, mg "DIGITS" = some u ∧ RelV (.str "0123456789") u := T.cs 93 (by rfl)
theorem Tx.c_TapError (T : Tx w K mg base) : ∃ u, mg "TapError" = some u ∧ RelV (.ref (He.ga K "TapError")) u := ⟨_, T.g 94 (by rfl), rfl⟩
theorem Tx.c_BadNet (T : Tx w K mg base) : ∃ u, mg "BadNet" = some u ∧ RelV (.ref (He.ga K "BadNet")) u := ⟨_, T.g 97 (by rfl), rfl⟩
theorem Tx.c_TooMany (T : Tx w K mg base) : ∃ u, mg "TooMany" = some u ∧ RelV (.ref (He.ga K "TooMany")) u := ⟨_, T.g 98 (by rfl), rfl⟩
theorem Tx.c_SORTS (T : Tx w K mg base) : ∃ u, mg "SORTS" = some u ∧ RelV (.ref (He.ga K "SORTS")) u := ⟨_, T.g 101 (by rfl), rfl⟩
theorem Tx.c_BadTaps (T : Tx w K mg base) : ∃ u, mg "BadTaps" = some u ∧ RelV (.ref (He.ga K "BadTaps")) u := ⟨_, T.g 95 (by rfl), rfl⟩
theorem Tx.c_BadSort (T : Tx w K mg base) : ∃ u, mg "BadSort" = some u ∧ RelV (.ref (He.ga K "BadSort")) u := ⟨_, T.g 96 (by rfl), rfl⟩
theorem Tx.c_Canals (T : Tx w K mg base) : ∃ u, mg "Canals" = some u ∧ RelV (.ref (He.ga K "Canals")) u := ⟨_, T.g 99 (by rfl), rfl⟩
theorem Tx.c_Filling (T : Tx w K mg base) : ∃ u, mg "Filling" = some u ∧ RelV (.ref (He.ga K "Filling")) u := ⟨_, T.g 100 (by rfl), rfl⟩
theorem Tx.g_Canals (T : Tx w K mg base) : mg "Canals" = some (.ref (He.ga K "Canals")) := T.g 99 (by rfl)
theorem Tx.cls_Canals (T : Tx w K mg base) : Cls K (He.ga K "Canals") := He.cls_ok (T.fact 102 (f := .cls "Canals") (by rfl))
theorem Tx.mkr_Canals (T : Tx w K mg base) : Mk K (He.ga K "Canals") (He.ma K (He.ga K "Canals") "__init__") := He.mkr_ok (T.fact 103 (f := .mkr "Canals") (by rfl))
theorem Tx.g_Filling (T : Tx w K mg base) : mg "Filling" = some (.ref (He.ga K "Filling")) := T.g 100 (by rfl)
theorem Tx.cls_Filling (T : Tx w K mg base) : Cls K (He.ga K "Filling") := He.cls_ok (T.fact 104 (f := .cls "Filling") (by rfl))
theorem Tx.mkr_Filling (T : Tx w K mg base) : Mk K (He.ga K "Filling") (He.ma K (He.ga K "Filling") "__init__") := He.mkr_ok (T.fact 105 (f := .mkr "Filling") (by rfl))
theorem Tx.no_Canals_heads (T : Tx w K mg base) : NoAttr K (He.ga K "Canals") "heads" := He.noat_ok (T.fact 106 (f := .noat "Canals" "heads") (by rfl))
theorem Tx.no_Canals_rooms (T : Tx w K mg base) : NoAttr K (He.ga K "Canals") "rooms" := He.noat_ok (T.fact 107 (f := .noat "Canals" "rooms") (by rfl))
theorem Tx.no_Canals_outs (T : Tx w K mg base) : NoAttr K (He.ga K "Canals") "outs" := He.noat_ok (T.fact 108 (f := .noat "Canals" "outs") (by rfl))
theorem Tx.no_Filling_parts (T : Tx w K mg base) : NoAttr K (He.ga K "Filling") "parts" := He.noat_ok (T.fact 109 (f := .noat "Filling" "parts") (by rfl))
theorem Tx.no_Filling_places (T : Tx w K mg base) : NoAttr K (He.ga K "Filling") "places" := He.noat_ok (T.fact 110 (f := .noat "Filling" "places") (by rfl))
theorem Tx.no_Filling_numbered (T : Tx w K mg base) : NoAttr K (He.ga K "Filling") "numbered" := He.noat_ok (T.fact 111 (f := .noat "Filling" "numbered") (by rfl))
theorem Tx.no_Filling_common (T : Tx w K mg base) : NoAttr K (He.ga K "Filling") "common" := He.noat_ok (T.fact 112 (f := .noat "Filling" "common") (by rfl))
theorem Tx.no_Filling_canals (T : Tx w K mg base) : NoAttr K (He.ga K "Filling") "canals" := He.noat_ok (T.fact 113 (f := .noat "Filling" "canals") (by rfl))
theorem Tx.no_Filling_arcs (T : Tx w K mg base) : NoAttr K (He.ga K "Filling") "arcs" := He.noat_ok (T.fact 114 (f := .noat "Filling" "arcs") (by rfl))
theorem Tx.no_Filling_starts (T : Tx w K mg base) : NoAttr K (He.ga K "Filling") "starts" := He.noat_ok (T.fact 115 (f := .noat "Filling" "starts") (by rfl))
theorem Tx.no_Filling_finish (T : Tx w K mg base) : NoAttr K (He.ga K "Filling") "finish" := He.noat_ok (T.fact 116 (f := .noat "Filling" "finish") (by rfl))
theorem Tx.no_Filling_amount (T : Tx w K mg base) : NoAttr K (He.ga K "Filling") "amount" := He.noat_ok (T.fact 117 (f := .noat "Filling" "amount") (by rfl))
theorem Tx.m_Canals_dug (T : Tx w K mg base) : Meth K (He.ga K "Canals") "dug" (He.ma K (He.ga K "Canals") "dug") := He.meth_ok (T.fact 118 (f := .meth "Canals" "dug") (by rfl))
theorem Tx.m_Canals_laid (T : Tx w K mg base) : Meth K (He.ga K "Canals") "laid" (He.ma K (He.ga K "Canals") "laid") := He.meth_ok (T.fact 119 (f := .meth "Canals" "laid") (by rfl))
theorem Tx.m_Canals_reached (T : Tx w K mg base) : Meth K (He.ga K "Canals") "reached" (He.ma K (He.ga K "Canals") "reached") := He.meth_ok (T.fact 120 (f := .meth "Canals" "reached") (by rfl))
theorem Tx.m_Canals_pushed (T : Tx w K mg base) : Meth K (He.ga K "Canals") "pushed" (He.ma K (He.ga K "Canals") "pushed") := He.meth_ok (T.fact 121 (f := .meth "Canals" "pushed") (by rfl))
theorem Tx.m_Filling_arcs_of (T : Tx w K mg base) : Meth K (He.ga K "Filling") "arcs_of" (He.ma K (He.ga K "Filling") "arcs_of") := He.meth_ok (T.fact 122 (f := .meth "Filling" "arcs_of") (by rfl))
theorem Tx.m_Filling_fill (T : Tx w K mg base) : Meth K (He.ga K "Filling") "fill" (He.ma K (He.ga K "Filling") "fill") := He.meth_ok (T.fact 123 (f := .meth "Filling" "fill") (by rfl))
theorem Tx.m_Filling_worth (T : Tx w K mg base) : Meth K (He.ga K "Filling") "worth" (He.ma K (He.ga K "Filling") "worth") := He.meth_ok (T.fact 124 (f := .meth "Filling" "worth") (by rfl))
theorem Tx.exc_BadNet (T : Tx w K mg base) : PySem.W.excIn K (He.ga K "BadNet") He.veBase "ValueError.__new__" = true ∧ PySem.W.keepIn K (.ref (He.ga K "BadNet")) = true ∧ PySem.W.subIn K (.ref (He.ga K "BadNet")) (.type "BaseException") = some true ∧ PySem.W.typeIn K (.ref (He.ga K "BadNet")) = some (.type "type") := He.exc_ok (T.fact 125 (f := .exc "BadNet") (by rfl))
theorem Tx.exm_BadNet (T : Tx w K mg base) : PySem.W.exmOne K (.ref (He.ga K "BadNet")) (.ref (He.ga K "TapError")) = some true := He.exm_ok (T.fact 126 (f := .exm "BadNet" "TapError" true) (by rfl))
theorem Tx.exm_TooMany (T : Tx w K mg base) : PySem.W.exmOne K (.ref (He.ga K "TooMany")) (.ref (He.ga K "TapError")) = some true := He.exm_ok (T.fact 127 (f := .exm "TooMany" "TapError" true) (by rfl))
theorem Tx.d_is_name (T : Tx w K mg base) : ∃ fd, FunD K "is_name" "is_name" (defArgs (top 14)) (defBody (top 14)) (defScope (top 14)) [] [] (He.ga K "is_name") fd := T.d 0 (d := gdef "is_name" 14) (by rfl)
theorem Tx.d_are_names (T : Tx w K mg base) : ∃ fd, FunD K "are_names" "are_names" (defArgs (top 15)) (defBody (top 15)) (defScope (top 15)) [] [] (He.ga K "are_names") fd := T.d 1 (d := gdef "are_names" 15) (by rfl)
theorem Tx.d_is_taps (T : Tx w K mg base) : ∃ fd, FunD K "is_taps" "is_taps" (defArgs (top 16)) (defBody (top 16)) (defScope (top 16)) [] [] (He.ga K "is_taps") fd := T.d 2 (d := gdef "is_taps" 16) (by rfl)
theorem Tx.d_need_taps (T : Tx w K mg base) : ∃ fd, FunD K "need_taps" "need_taps" (defArgs (top 17)) (defBody (top 17)) (defScope (top 17)) [] [] (He.ga K "need_taps") fd := T.d 3 (d := gdef "need_taps" 17) (by rfl)
theorem Tx.d_is_sort (T : Tx w K mg base) : ∃ fd, FunD K "is_sort" "is_sort" (defArgs (top 18)) (defBody (top 18)) (defScope (top 18)) [] [] (He.ga K "is_sort") fd := T.d 4 (d := gdef "is_sort" 18) (by rfl)
theorem Tx.d_need_sort (T : Tx w K mg base) : ∃ fd, FunD K "need_sort" "need_sort" (defArgs (top 19)) (defBody (top 19)) (defScope (top 19)) [] [] (He.ga K "need_sort") fd := T.d 5 (d := gdef "need_sort" 19) (by rfl)
theorem Tx.d_lots (T : Tx w K mg base) : ∃ fd, FunD K "lots" "lots" (defArgs (top 20)) (defBody (top 20)) (defScope (top 20)) [] [] (He.ga K "lots") fd := T.d 6 (d := gdef "lots" 20) (by rfl)
theorem Tx.d_other_taps (T : Tx w K mg base) : ∃ fd, FunD K "other_taps" "other_taps" (defArgs (top 21)) (defBody (top 21)) (defScope (top 21)) [] [] (He.ga K "other_taps") fd := T.d 7 (d := gdef "other_taps" 21) (by rfl)
theorem Tx.d_made_plain (T : Tx w K mg base) : ∃ fd, FunD K "made_plain" "made_plain" (defArgs (top 22)) (defBody (top 22)) (defScope (top 22)) [] [] (He.ga K "made_plain") fd := T.d 8 (d := gdef "made_plain" 22) (by rfl)
theorem Tx.d_plain_lots (T : Tx w K mg base) : ∃ fd, FunD K "plain_lots" "plain_lots" (defArgs (top 23)) (defBody (top 23)) (defScope (top 23)) [] [] (He.ga K "plain_lots") fd := T.d 9 (d := gdef "plain_lots" 23) (by rfl)
theorem Tx.d_is_whole (T : Tx w K mg base) : ∃ fd, FunD K "is_whole" "is_whole" (defArgs (top 25)) (defBody (top 25)) (defScope (top 25)) [] [] (He.ga K "is_whole") fd := T.d 10 (d := gdef "is_whole" 25) (by rfl)
theorem Tx.d_is_number (T : Tx w K mg base) : ∃ fd, FunD K "is_number" "is_number" (defArgs (top 26)) (defBody (top 26)) (defScope (top 26)) [] [] (He.ga K "is_number") fd := T.d 11 (d := gdef "is_number" 26) (by rfl)
theorem Tx.d_made (T : Tx w K mg base) : ∃ fd, FunD K "made" "made" (defArgs (top 27)) (defBody (top 27)) (defScope (top 27)) [] [] (He.ga K "made") fd := T.d 12 (d := gdef "made" 27) (by rfl)
theorem Tx.d_top_of (T : Tx w K mg base) : ∃ fd, FunD K "top_of" "top_of" (defArgs (top 28)) (defBody (top 28)) (defScope (top 28)) [] [] (He.ga K "top_of") fd := T.d 13 (d := gdef "top_of" 28) (by rfl)
theorem Tx.d_bottom_of (T : Tx w K mg base) : ∃ fd, FunD K "bottom_of" "bottom_of" (defArgs (top 29)) (defBody (top 29)) (defScope (top 29)) [] [] (He.ga K "bottom_of") fd := T.d 14 (d := gdef "bottom_of" 29) (by rfl)
theorem Tx.d_over (T : Tx w K mg base) : ∃ fd, FunD K "over" "over" (defArgs (top 30)) (defBody (top 30)) (defScope (top 30)) [] [] (He.ga K "over") fd := T.d 15 (d := gdef "over" 30) (by rfl)
theorem Tx.d_is_less (T : Tx w K mg base) : ∃ fd, FunD K "is_less" "is_less" (defArgs (top 31)) (defBody (top 31)) (defScope (top 31)) [] [] (He.ga K "is_less") fd := T.d 16 (d := gdef "is_less" 31) (by rfl)
theorem Tx.d_common_bottom (T : Tx w K mg base) : ∃ fd, FunD K "common_bottom" "common_bottom" (defArgs (top 32)) (defBody (top 32)) (defScope (top 32)) [] [] (He.ga K "common_bottom") fd := T.d 17 (d := gdef "common_bottom" 32) (by rfl)
theorem Tx.d_in_wholes (T : Tx w K mg base) : ∃ fd, FunD K "in_wholes" "in_wholes" (defArgs (top 33)) (defBody (top 33)) (defScope (top 33)) [] [] (He.ga K "in_wholes") fd := T.d 18 (d := gdef "in_wholes" 33) (by rfl)
theorem Tx.d_is_width (T : Tx w K mg base) : ∃ fd, FunD K "is_width" "is_width" (defArgs (top 37)) (defBody (top 37)) (defScope (top 37)) [] [] (He.ga K "is_width") fd := T.d 19 (d := gdef "is_width" 37) (by rfl)
theorem Tx.d_is_part (T : Tx w K mg base) : ∃ fd, FunD K "is_part" "is_part" (defArgs (top 38)) (defBody (top 38)) (defScope (top 38)) [] [] (He.ga K "is_part") fd := T.d 20 (d := gdef "is_part" 38) (by rfl)
theorem Tx.d_ends (T : Tx w K mg base) : ∃ fd, FunD K "ends" "ends" (defArgs (top 39)) (defBody (top 39)) (defScope (top 39)) [] [] (He.ga K "ends") fd := T.d 21 (d := gdef "ends" 39) (by rfl)
theorem Tx.d_named_places (T : Tx w K mg base) : ∃ fd, FunD K "named_places" "named_places" (defArgs (top 40)) (defBody (top 40)) (defScope (top 40)) [] [] (He.ga K "named_places") fd := T.d 22 (d := gdef "named_places" 40) (by rfl)
theorem Tx.d_has_kind (T : Tx w K mg base) : ∃ fd, FunD K "has_kind" "has_kind" (defArgs (top 41)) (defBody (top 41)) (defScope (top 41)) [] [] (He.ga K "has_kind") fd := T.d 23 (d := gdef "has_kind" 41) (by rfl)
theorem Tx.d_is_net (T : Tx w K mg base) : ∃ fd, FunD K "is_net" "is_net" (defArgs (top 42)) (defBody (top 42)) (defScope (top 42)) [] [] (He.ga K "is_net") fd := T.d 24 (d := gdef "is_net" 42) (by rfl)
theorem Tx.d_need_net (T : Tx w K mg base) : ∃ fd, FunD K "need_net" "need_net" (defArgs (top 43)) (defBody (top 43)) (defScope (top 43)) [] [] (He.ga K "need_net") fd := T.d 25 (d := gdef "need_net" 43) (by rfl)
theorem Tx.d_kind_of (T : Tx w K mg base) : ∃ fd, FunD K "kind_of" "kind_of" (defArgs (top 44)) (defBody (top 44)) (defScope (top 44)) [] [] (He.ga K "kind_of") fd := T.d 26 (d := gdef "kind_of" 44) (by rfl)
theorem Tx.d_sort_of (T : Tx w K mg base) : ∃ fd, FunD K "sort_of" "sort_of" (defArgs (top 45)) (defBody (top 45)) (defScope (top 45)) [] [] (He.ga K "sort_of") fd := T.d 27 (d := gdef "sort_of" 45) (by rfl)
theorem Tx.d_of_parts (T : Tx w K mg base) : ∃ fd, FunD K "of_parts" "of_parts" (defArgs (top 46)) (defBody (top 46)) (defScope (top 46)) [] [] (He.ga K "of_parts") fd := T.d 28 (d := gdef "of_parts" 46) (by rfl)
theorem Tx.d_both_leads (T : Tx w K mg base) : ∃ fd, FunD K "both_leads" "both_leads" (defArgs (top 47)) (defBody (top 47)) (defScope (top 47)) [] [] (He.ga K "both_leads") fd := T.d 29 (d := gdef "both_leads" 47) (by rfl)
theorem Tx.d_as_leads (T : Tx w K mg base) : ∃ fd, FunD K "as_leads" "as_leads" (defArgs (top 48)) (defBody (top 48)) (defScope (top 48)) [] [] (He.ga K "as_leads") fd := T.d 30 (d := gdef "as_leads" 48) (by rfl)
theorem Tx.d_as_hubs (T : Tx w K mg base) : ∃ fd, FunD K "as_hubs" "as_hubs" (defArgs (top 49)) (defBody (top 49)) (defScope (top 49)) [] [] (He.ga K "as_hubs") fd := T.d 31 (d := gdef "as_hubs" 49) (by rfl)
theorem Tx.d_in_pipes (T : Tx w K mg base) : ∃ fd, FunD K "in_pipes" "in_pipes" (defArgs (top 50)) (defBody (top 50)) (defScope (top 50)) [] [] (He.ga K "in_pipes") fd := T.d 32 (d := gdef "in_pipes" 50) (by rfl)
theorem Tx.d_as_pipes (T : Tx w K mg base) : ∃ fd, FunD K "as_pipes" "as_pipes" (defArgs (top 51)) (defBody (top 51)) (defScope (top 51)) [] [] (He.ga K "as_pipes") fd := T.d 33 (d := gdef "as_pipes" 51) (by rfl)
theorem Tx.d_wall_of (T : Tx w K mg base) : ∃ fd, FunD K "wall_of" "wall_of" (defArgs (top 55)) (defBody (top 55)) (defScope (top 55)) [] [] (He.ga K "wall_of") fd := T.d 34 (d := gdef "wall_of" 55) (by rfl)
theorem Tx.d_walls (T : Tx w K mg base) : ∃ fd, FunD K "walls" "walls" (defArgs (top 56)) (defBody (top 56)) (defScope (top 56)) [] [] (He.ga K "walls") fd := T.d 35 (d := gdef "walls" 56) (by rfl)
theorem Tx.d_alike_nets (T : Tx w K mg base) : ∃ fd, FunD K "alike_nets" "alike_nets" (defArgs (top 57)) (defBody (top 57)) (defScope (top 57)) [] [] (He.ga K "alike_nets") fd := T.d 36 (d := gdef "alike_nets" 57) (by rfl)
theorem Tx.d__law_begun (T : Tx w K mg base) : ∃ fd, FunD K "_law_begun" "_law_begun" (defArgs (top 59)) (defBody (top 59)) (defScope (top 59)) [] [] (He.ga K "_law_begun") fd := T.d 37 (d := gdef "_law_begun" 59) (by rfl)
theorem Tx.d__law_blended (T : Tx w K mg base) : ∃ fd, FunD K "_law_blended" "_law_blended" (defArgs (top 60)) (defBody (top 60)) (defScope (top 60)) [] [] (He.ga K "_law_blended") fd := T.d 38 (d := gdef "_law_blended" 60) (by rfl)
theorem Tx.d__law_draw (T : Tx w K mg base) : ∃ fd, FunD K "_law_draw" "_law_draw" (defArgs (top 61)) (defBody (top 61)) (defScope (top 61)) [] [] (He.ga K "_law_draw") fd := T.d 39 (d := gdef "_law_draw" 61) (by rfl)
theorem Tx.d__law_pick (T : Tx w K mg base) : ∃ fd, FunD K "_law_pick" "_law_pick" (defArgs (top 62)) (defBody (top 62)) (defScope (top 62)) [] [] (He.ga K "_law_pick") fd := T.d 40 (d := gdef "_law_pick" 62) (by rfl)
theorem Tx.d__law_shuffled (T : Tx w K mg base) : ∃ fd, FunD K "_law_shuffled" "_law_shuffled" (defArgs (top 63)) (defBody (top 63)) (defScope (top 63)) [] [] (He.ga K "_law_shuffled") fd := T.d 41 (d := gdef "_law_shuffled" 63) (by rfl)
theorem Tx.d__law_caught (T : Tx w K mg base) : ∃ fd, FunD K "_law_caught" "_law_caught" (defArgs (top 64)) (defBody (top 64)) (defScope (top 64)) [] [] (He.ga K "_law_caught") fd := T.d 42 (d := gdef "_law_caught" 64) (by rfl)
theorem Tx.d__law_is_truth (T : Tx w K mg base) : ∃ fd, FunD K "_law_is_truth" "_law_is_truth" (defArgs (top 65)) (defBody (top 65)) (defScope (top 65)) [] [] (He.ga K "_law_is_truth") fd := T.d 43 (d := gdef "_law_is_truth" 65) (by rfl)
theorem Tx.d__law_ct_gcd (T : Tx w K mg base) : ∃ fd, FunD K "_law_ct_gcd" "_law_ct_gcd" (defArgs (top 66)) (defBody (top 66)) (defScope (top 66)) [] [] (He.ga K "_law_ct_gcd") fd := T.d 44 (d := gdef "_law_ct_gcd" 66) (by rfl)
theorem Tx.d__law_ct_made (T : Tx w K mg base) : ∃ fd, FunD K "_law_ct_made" "_law_ct_made" (defArgs (top 67)) (defBody (top 67)) (defScope (top 67)) [] [] (He.ga K "_law_ct_made") fd := T.d 45 (d := gdef "_law_ct_made" 67) (by rfl)
theorem Tx.d__law_ct_top (T : Tx w K mg base) : ∃ fd, FunD K "_law_ct_top" "_law_ct_top" (defArgs (top 68)) (defBody (top 68)) (defScope (top 68)) [] [] (He.ga K "_law_ct_top") fd := T.d 46 (d := gdef "_law_ct_top" 68) (by rfl)
theorem Tx.d__law_ct_low (T : Tx w K mg base) : ∃ fd, FunD K "_law_ct_low" "_law_ct_low" (defArgs (top 69)) (defBody (top 69)) (defScope (top 69)) [] [] (He.ga K "_law_ct_low") fd := T.d 47 (d := gdef "_law_ct_low" 69) (by rfl)
theorem Tx.d__law_ct_times (T : Tx w K mg base) : ∃ fd, FunD K "_law_ct_times" "_law_ct_times" (defArgs (top 70)) (defBody (top 70)) (defScope (top 70)) [] [] (He.ga K "_law_ct_times") fd := T.d 48 (d := gdef "_law_ct_times" 70) (by rfl)
theorem Tx.d__law_ct_number (T : Tx w K mg base) : ∃ fd, FunD K "_law_ct_number" "_law_ct_number" (defArgs (top 71)) (defBody (top 71)) (defScope (top 71)) [] [] (He.ga K "_law_ct_number") fd := T.d 49 (d := gdef "_law_ct_number" 71) (by rfl)
theorem Tx.d__law_ct_taps (T : Tx w K mg base) : ∃ fd, FunD K "_law_ct_taps" "_law_ct_taps" (defArgs (top 72)) (defBody (top 72)) (defScope (top 72)) [] [] (He.ga K "_law_ct_taps") fd := T.d 50 (d := gdef "_law_ct_taps" 72) (by rfl)
theorem Tx.d__law_ct_part (T : Tx w K mg base) : ∃ fd, FunD K "_law_ct_part" "_law_ct_part" (defArgs (top 73)) (defBody (top 73)) (defScope (top 73)) [] [] (He.ga K "_law_ct_part") fd := T.d 51 (d := gdef "_law_ct_part" 73) (by rfl)
theorem Tx.d__law_ct_net (T : Tx w K mg base) : ∃ fd, FunD K "_law_ct_net" "_law_ct_net" (defArgs (top 74)) (defBody (top 74)) (defScope (top 74)) [] [] (He.ga K "_law_ct_net") fd := T.d 52 (d := gdef "_law_ct_net" 74) (by rfl)
theorem Tx.d__law_ct_common (T : Tx w K mg base) : ∃ fd, FunD K "_law_ct_common" "_law_ct_common" (defArgs (top 75)) (defBody (top 75)) (defScope (top 75)) [] [] (He.ga K "_law_ct_common") fd := T.d 53 (d := gdef "_law_ct_common" 75) (by rfl)
theorem Tx.d__law_an_every (T : Tx w K mg base) : ∃ fd, FunD K "_law_an_every" "_law_an_every" (defArgs (top 76)) (defBody (top 76)) (defScope (top 76)) [] [] (He.ga K "_law_an_every") fd := T.d 54 (d := gdef "_law_an_every" 76) (by rfl)
theorem Tx.d__law_an_ends (T : Tx w K mg base) : ∃ fd, FunD K "_law_an_ends" "_law_an_ends" (defArgs (top 77)) (defBody (top 77)) (defScope (top 77)) [] [] (He.ga K "_law_an_ends") fd := T.d 55 (d := gdef "_law_an_ends" 77) (by rfl)
theorem Tx.d__law_an_kind (T : Tx w K mg base) : ∃ fd, FunD K "_law_an_kind" "_law_an_kind" (defArgs (top 78)) (defBody (top 78)) (defScope (top 78)) [] [] (He.ga K "_law_an_kind") fd := T.d 56 (d := gdef "_law_an_kind" 78) (by rfl)
theorem Tx.d__law_an_bits (T : Tx w K mg base) : ∃ fd, FunD K "_law_an_bits" "_law_an_bits" (defArgs (top 79)) (defBody (top 79)) (defScope (top 79)) [] [] (He.ga K "_law_an_bits") fd := T.d 57 (d := gdef "_law_an_bits" 79) (by rfl)
theorem Tx.d__law_an_mask (T : Tx w K mg base) : ∃ fd, FunD K "_law_an_mask" "_law_an_mask" (defArgs (top 80)) (defBody (top 80)) (defScope (top 80)) [] [] (He.ga K "_law_an_mask") fd := T.d 58 (d := gdef "_law_an_mask" 80) (by rfl)
theorem Tx.d__law_an_common (T : Tx w K mg base) : ∃ fd, FunD K "_law_an_common" "_law_an_common" (defArgs (top 81)) (defBody (top 81)) (defScope (top 81)) [] [] (He.ga K "_law_an_common") fd := T.d 59 (d := gdef "_law_an_common" 81) (by rfl)
theorem Tx.d__law_an_load (T : Tx w K mg base) : ∃ fd, FunD K "_law_an_load" "_law_an_load" (defArgs (top 82)) (defBody (top 82)) (defScope (top 82)) [] [] (He.ga K "_law_an_load") fd := T.d 60 (d := gdef "_law_an_load" 82) (by rfl)
theorem Tx.d__law_an_costs (T : Tx w K mg base) : ∃ fd, FunD K "_law_an_costs" "_law_an_costs" (defArgs (top 83)) (defBody (top 83)) (defScope (top 83)) [] [] (He.ga K "_law_an_costs") fd := T.d 61 (d := gdef "_law_an_costs" 83) (by rfl)
theorem Tx.d__law_an_groups (T : Tx w K mg base) : ∃ fd, FunD K "_law_an_groups" "_law_an_groups" (defArgs (top 84)) (defBody (top 84)) (defScope (top 84)) [] [] (He.ga K "_law_an_groups") fd := T.d 62 (d := gdef "_law_an_groups" 84) (by rfl)
theorem Tx.d__law_an_fulls (T : Tx w K mg base) : ∃ fd, FunD K "_law_an_fulls" "_law_an_fulls" (defArgs (top 85)) (defBody (top 85)) (defScope (top 85)) [] [] (He.ga K "_law_an_fulls") fd := T.d 63 (d := gdef "_law_an_fulls" 85) (by rfl)
theorem Tx.d__law_an_small (T : Tx w K mg base) : ∃ fd, FunD K "_law_an_small" "_law_an_small" (defArgs (top 86)) (defBody (top 86)) (defScope (top 86)) [] [] (He.ga K "_law_an_small") fd := T.d 64 (d := gdef "_law_an_small" 86) (by rfl)
theorem Tx.d__law_an_in_leads (T : Tx w K mg base) : ∃ fd, FunD K "_law_an_in_leads" "_law_an_in_leads" (defArgs (top 87)) (defBody (top 87)) (defScope (top 87)) [] [] (He.ga K "_law_an_in_leads") fd := T.d 65 (d := gdef "_law_an_in_leads" 87) (by rfl)
theorem Tx.d__law_an_in_pipes (T : Tx w K mg base) : ∃ fd, FunD K "_law_an_in_pipes" "_law_an_in_pipes" (defArgs (top 88)) (defBody (top 88)) (defScope (top 88)) [] [] (He.ga K "_law_an_in_pipes") fd := T.d 66 (d := gdef "_law_an_in_pipes" 88) (by rfl)
theorem Tx.d__law_an_all_of (T : Tx w K mg base) : ∃ fd, FunD K "_law_an_all_of" "_law_an_all_of" (defArgs (top 89)) (defBody (top 89)) (defScope (top 89)) [] [] (He.ga K "_law_an_all_of") fd := T.d 67 (d := gdef "_law_an_all_of" 89) (by rfl)
theorem Tx.d__law_an_turned_right (T : Tx w K mg base) : ∃ fd, FunD K "_law_an_turned_right" "_law_an_turned_right" (defArgs (top 90)) (defBody (top 90)) (defScope (top 90)) [] [] (He.ga K "_law_an_turned_right") fd := T.d 68 (d := gdef "_law_an_turned_right" 90) (by rfl)
theorem Tx.d_law (T : Tx w K mg base) : ∃ fd, FunD K "law" "law" (defArgs (top 91)) (defBody (top 91)) (defScope (top 91)) [] [] (He.ga K "law") fd := T.d 69 (d := gdef "law" 91) (by rfl)
theorem Tx.d_Canals___init__ (T : Tx w K mg base) : ∃ fd, FunD K "__init__" "Canals.__init__" (defArgs (inClass (top 53) 0)) (defBody (inClass (top 53) 0)) (defScope (inClass (top 53) 0)) [] [] (He.ma K (He.ga K "Canals") "__init__") fd := T.d 70 (d := mdef "Canals" "__init__" "Canals.__init__" 53 0) (by rfl)
theorem Tx.d_Canals_dug (T : Tx w K mg base) : ∃ fd, FunD K "dug" "Canals.dug" (defArgs (inClass (top 53) 1)) (defBody (inClass (top 53) 1)) (defScope (inClass (top 53) 1)) [] [] (He.ma K (He.ga K "Canals") "dug") fd := T.d 71 (d := mdef "Canals" "dug" "Canals.dug" 53 1) (by rfl)
theorem Tx.d_Canals_laid (T : Tx w K mg base) : ∃ fd, FunD K "laid" "Canals.laid" (defArgs (inClass (top 53) 2)) (defBody (inClass (top 53) 2)) (defScope (inClass (top 53) 2)) [] [] (He.ma K (He.ga K "Canals") "laid") fd := T.d 72 (d := mdef "Canals" "laid" "Canals.laid" 53 2) (by rfl)
theorem Tx.d_Canals_reached (T : Tx w K mg base) : ∃ fd, FunD K "reached" "Canals.reached" (defArgs (inClass (top 53) 3)) (defBody (inClass (top 53) 3)) (defScope (inClass (top 53) 3)) [] [] (He.ma K (He.ga K "Canals") "reached") fd := T.d 73 (d := mdef "Canals" "reached" "Canals.reached" 53 3) (by rfl)
theorem Tx.d_Canals_pushed (T : Tx w K mg base) : ∃ fd, FunD K "pushed" "Canals.pushed" (defArgs (inClass (top 53) 4)) (defBody (inClass (top 53) 4)) (defScope (inClass (top 53) 4)) [] [] (He.ma K (He.ga K "Canals") "pushed") fd := T.d 74 (d := mdef "Canals" "pushed" "Canals.pushed" 53 4) (by rfl)
theorem Tx.d_Filling___init__ (T : Tx w K mg base) : ∃ fd, FunD K "__init__" "Filling.__init__" (defArgs (inClass (top 54) 0)) (defBody (inClass (top 54) 0)) (defScope (inClass (top 54) 0)) [] [] (He.ma K (He.ga K "Filling") "__init__") fd := T.d 75 (d := mdef "Filling" "__init__" "Filling.__init__" 54 0) (by rfl)
theorem Tx.d_Filling_arcs_of (T : Tx w K mg base) : ∃ fd, FunD K "arcs_of" "Filling.arcs_of" (defArgs (inClass (top 54) 1)) (defBody (inClass (top 54) 1)) (defScope (inClass (top 54) 1)) [] [] (He.ma K (He.ga K "Filling") "arcs_of") fd := T.d 76 (d := mdef "Filling" "arcs_of" "Filling.arcs_of" 54 1) (by rfl)
theorem Tx.d_Filling_fill (T : Tx w K mg base) : ∃ fd, FunD K "fill" "Filling.fill" (defArgs (inClass (top 54) 2)) (defBody (inClass (top 54) 2)) (defScope (inClass (top 54) 2)) [] [] (He.ma K (He.ga K "Filling") "fill") fd := T.d 77 (d := mdef "Filling" "fill" "Filling.fill" 54 2) (by rfl)
theorem Tx.d_Filling_worth (T : Tx w K mg base) : ∃ fd, FunD K "worth" "Filling.worth" (defArgs (inClass (top 54) 5)) (defBody (inClass (top 54) 5)) (defScope (inClass (top 54) 5)) [] [] (He.ma K (He.ga K "Filling") "worth") fd := T.d 78 (d := mdef "Filling" "worth" "Filling.worth" 54 5) (by rfl)

end
theorem bt_len : bootBuiltins ("len" : Str) = some (.builtin "len") := by decide +kernel
theorem bt_isinstance : bootBuiltins ("isinstance" : Str) = some (.builtin "isinstance") := by decide +kernel
theorem bt_all : bootBuiltins ("all" : Str) = some (.builtin "all") := by decide +kernel
theorem bt_any : bootBuiltins ("any" : Str) = some (.builtin "any") := by decide +kernel
theorem bt_sorted : bootBuiltins ("sorted" : Str) = some (.builtin "sorted") := by decide +kernel
theorem bt_min : bootBuiltins ("min" : Str) = some (.builtin "min") := by decide +kernel
theorem bt_max : bootBuiltins ("max" : Str) = some (.builtin "max") := by decide +kernel
theorem bt_sum : bootBuiltins ("sum" : Str) = some (.builtin "sum") := by decide +kernel
theorem bt_abs : bootBuiltins ("abs" : Str) = some (.builtin "abs") := by decide +kernel
theorem bt_str : bootBuiltins ("str" : Str) = some (.type "str") := by decide +kernel
theorem bt_tuple : bootBuiltins ("tuple" : Str) = some (.type "tuple") := by decide +kernel
theorem bt_int : bootBuiltins ("int" : Str) = some (.type "int") := by decide +kernel
theorem bt_bool : bootBuiltins ("bool" : Str) = some (.type "bool") := by decide +kernel
theorem bt_list : bootBuiltins ("list" : Str) = some (.type "list") := by decide +kernel
structure Cl (P : Program) (w : World) (K : PySem.W.Frag) (mg : Str → Option Value) (base : Heap) (CX : CXT) (k : Nat) (x : Str) (sp : Sp) : Prop where
  ex : ∃ fd ps, FnOk P w K mg base CX k (He.ga K x) fd ps sp ∧ mg x = some (.ref (He.ga K x)) ∧ PySem.W.keepIn K (.ref (He.ga K x)) = true ∧ Binds K fd ps []
structure Mt (P : Program) (w : World) (K : PySem.W.Frag) (mg : Str → Option Value) (base : Heap) (CX : CXT) (k : Nat) (C : Addr) (m : Str) (sp : Sp) : Prop where
  ex : ∃ f fd ps, FnOk P w K mg base CX k f fd ps sp ∧ Cls K C ∧ Meth K C m f ∧ Binds K fd ps []
section
variable {X : Cx} {CX : CXT} {k j : Nat} {x m : Str} {C : Addr} {sp : Sp} {E : XK} {p pos apos : Pos} {e o : Expr} {es : List Expr} {ta : TE} {t : TA}
theorem pcl (c : Cl X.prog X.w X.K X.mg X.base CX k x sp) (hr : Room j X.A) (hk : k ≤ j) (hx : Passes CX X E) (hg : Gl X x) (ha : PA X (e :: es) t)
    (hdb : (x == ("__debug__" : Str)) = false := by decide) (he : starEach (e :: es) X.env = (false, eval e X.env) :: starEach es X.env := by rfl) (hpl : (backTo pos (starEach es X.env)).any (·.1) = false := by rfl) :
    PE X (.Call (.Name x p) (e :: es) [] pos) (tCall sp [] E t) := by
  obtain ⟨fd, ps, F, hm, kp, b⟩ := c.ex
  exact pe_call F (hr.mono hk) hg hm kp b .nil hx ha hdb he hpl
theorem pmt {pl : Sem Bool} (c : Mt X.prog X.w X.K X.mg X.base CX k C m sp) (hr : Room j X.A) (hk : k ≤ j) (hx : Passes CX X E) (he : PE X o ta) (ha : PA X (e :: es) t)
    (hst : starEach (e :: es) X.env = (false, eval e X.env) :: starEach es X.env := by rfl) (hpl : (backTo pos (starEach es X.env)).any (·.1) = false := by rfl)
    (ht : eval (.Call (.Attribute o m apos) (e :: es) [] pos) X.env = (do
      let ov ← eval o X.env
      standAt apos.atName
      let r ← holding [ov] (getMethod ov m pl)
      callWith pos r.1 r.2 (backTo pos (starEach (e :: es) X.env)) (backToKw pos (keywordEach [] X.env))) := by rfl) :
    PE X (.Call (.Attribute o m apos) (e :: es) [] pos) (tMeth C m sp [] E ta t) := by
  obtain ⟨f, fd, ps, F, hc, hm, b⟩ := c.ex
  exact pe_meth (pl := pl) he hc hm F (hr.mono hk) b .nil hx ha hst hpl ht
theorem pmt0 {pl : Sem Bool} (c : Mt X.prog X.w X.K X.mg X.base CX k C m sp) (hr : Room j X.A) (hk : k ≤ j) (hx : Passes CX X E) (he : PE X o ta)
    (ht : eval (.Call (.Attribute o m apos) [] [] pos) X.env = (do
      let ov ← eval o X.env
      standAt apos.atName
      let r ← holding [ov] (getMethod ov m pl)
      callWith pos r.1 r.2 (backTo pos (starEach [] X.env)) (backToKw pos (keywordEach [] X.env))) := by rfl) :
    PE X (.Call (.Attribute o m apos) [] [] pos) (tMeth C m sp [] E ta tNil) := by
  obtain ⟨f, fd, ps, F, hc, hm, b⟩ := c.ex
  exact pe_meth0 (pl := pl) he hc hm F (hr.mono hk) b .nil hx ht
end
section
variable {P : Program} {w : World} {K : PySem.W.Frag} {mg : Str → Option Value} {base : Heap} {x qual : Str} {st : Stmt} {N ps : List Str} {k : Nat} {f : Addr}
theorem Cl.mono {CX : CXT} {j : Nat} {sp : Sp} (c : Cl P w K mg base CX j x sp) (h : j ≤ k) : Cl P w K mg base CX k x sp := by
  obtain ⟨fd, ps, F, hm, kp, b⟩ := c.ex
  exact ⟨fd, ps, F.mono h, hm, kp, b⟩
theorem Cl.imp {CX : CXT} {sp sp' : Sp} (c : Cl P w K mg base CX k x sp) (h : ∀ vs H Q E, sp' vs H Q E → sp vs H Q E) : Cl P w K mg base CX k x sp' := by
  obtain ⟨fd, ps, F, hm, kp, b⟩ := c.ex
  exact ⟨fd, ps, F.imp h, hm, kp, b⟩
/-- a def by its body -/
theorem cl_of {sp : Sp} (d : ∃ fd, FunD K x x (defArgs st) (defBody st) (defScope st) [] [] (He.ga K x) fd) (hm : mg x = some (.ref (He.ga K x))) (S : FnScope N ps (defScope st)) (len : ∀ vs H Q E, sp vs H Q E → vs.length = ps.length)
    (hb : ∀ (kV doc pm : Value) (an : Option Addr) (cdv ct : Value) (us : List Value), us.length = ps.length → bindArgs (PySem.W.fnOf x x (defArgs st) (defBody st) (defScope st) .none kV doc pm an cdv ct) ⟨us, []⟩ = pure (ps.zip us))
    (hbody : ∀ (cdv : Value) (A : Around) (outer : List Env) (s : Shared) (H : Hp) (vs : List V) (Q : VK) (E : XK), Room k (A.deeper (envOfC x (defScope st) s.heap.objs.size (He.ga K x) cdv)) → sp vs H Q E →
      ∃ t, PSs (cxOf CX0 P w K mg base N x (defScope st) (He.ga K x) cdv A outer s H E).nox (defBody st) t ∧ t { nx := fun _ H' => Q .non H', rt := Q } (start N vs) H) : Cl P w K mg base CX0 (k + 1) x sp := by
  obtain ⟨fd, F⟩ := d
  exact ⟨fd, ps, F.ok S len (fun cdv A outer s H vs Q E hr h => by
    obtain ⟨t, h1, h2⟩ := hbody cdv A outer s H vs Q E hr h
    exact ⟨t, h1.nox, h2⟩), hm, F.kp, F.bindsN hb⟩
/-- a def from data to data -/
theorem cl_pure {R : List PyData → PyData → Prop} (d : ∃ fd, FunD K x x (defArgs st) (defBody st) (defScope st) [] [] (He.ga K x) fd) (hm : mg x = some (.ref (He.ga K x))) (S : FnScope N ps (defScope st)) (len : ∀ ds d, R ds d → ds.length = ps.length)
    (hb : ∀ (kV doc pm : Value) (an : Option Addr) (cdv ct : Value) (us : List Value), us.length = ps.length → bindArgs (PySem.W.fnOf x x (defArgs st) (defBody st) (defScope st) .none kV doc pm an cdv ct) ⟨us, []⟩ = pure (ps.zip us))
    (hbody : ∀ (cdv : Value) (A : Around) (outer : List Env) (s : Shared) (H : Hp) (E : XK) (ds : List PyData) (d : PyData), Room k (A.deeper (envOfC x (defScope st) s.heap.objs.size (He.ga K x) cdv)) → R ds d →
      ∃ t, PSs (cxOf CX0 P w K mg base N x (defScope st) (He.ga K x) cdv A outer s H E).nox (defBody st) t ∧ BG K [] (ds.map (fun d => some (GV.d d)) ++ List.replicate (N.length - ds.length) none) t d) : Cl P w K mg base CX0 (k + 1) x (spD K R) := by
  refine cl_of d hm S (fun vs H Q E h => ?_) hb fun cdv A outer s H vs Q E hr h => ?_
  · obtain ⟨ds, d, N1, _, h1, h2, _⟩ := h
    rw [dps_len h1]
    exact len _ _ h2
  · obtain ⟨ds, d, N1, ex, h1, h2, k⟩ := h
    obtain ⟨t, p1, p2⟩ := hbody cdv A outer s H E ds d hr h2
    have hl : ds.length ≤ N.length := by
      rw [len _ _ h2]
      have := congrArg List.length S.pre
      rw [List.length_take] at this
      omega
    exact ⟨t, p1, p2 (start N vs) N1 H _ ⟨En0.start h1 hl, .nil⟩ ex k fun σ' N' H' w' e => by
      subst e
      exact k .non N' H' w' .non⟩
/-- a method by its body -/
theorem mt_of {C : Addr} {m : Str} {sp : Sp} (d : ∃ fd, FunD K m qual (defArgs st) (defBody st) (defScope st) [] [] f fd) (c : Cls K C) (hm : Meth K C m f) (S : FnScope N ps (defScope st)) (len : ∀ vs H Q E, sp vs H Q E → vs.length = ps.length)
    (hb : ∀ (kV doc pm : Value) (an : Option Addr) (cdv ct : Value) (us : List Value), us.length = ps.length → bindArgs (PySem.W.fnOf m qual (defArgs st) (defBody st) (defScope st) .none kV doc pm an cdv ct) ⟨us, []⟩ = pure (ps.zip us))
    (hbody : ∀ (cdv : Value) (A : Around) (outer : List Env) (s : Shared) (H : Hp) (vs : List V) (Q : VK) (E : XK), Room k (A.deeper (envOfC qual (defScope st) s.heap.objs.size f cdv)) → sp vs H Q E →
      ∃ t, PSs (cxOf CX0 P w K mg base N qual (defScope st) f cdv A outer s H E).nox (defBody st) t ∧ t { nx := fun _ H' => Q .non H', rt := Q } (start N vs) H) : Mt P w K mg base CX0 (k + 1) C m sp := by
  obtain ⟨fd, F⟩ := d
  exact ⟨f, fd, ps, F.ok S len (fun cdv A outer s H vs Q E hr h => by
    obtain ⟨t, h1, h2⟩ := hbody cdv A outer s H vs Q E hr h
    exact ⟨t, h1.nox, h2⟩), c, hm, F.bindsN hb⟩
/-- a def that changes objects -/
theorem cl_mut {R : List GV → SH → (GV → SH → Prop) → Prop} (d : ∃ fd, FunD K x x (defArgs st) (defBody st) (defScope st) [] [] (He.ga K x) fd) (hm : mg x = some (.ref (He.ga K x))) (S : FnScope N ps (defScope st)) (len : ∀ gs L Z, R gs L Z → gs.length = ps.length)
    (hb : ∀ (kV doc pm : Value) (an : Option Addr) (cdv ct : Value) (us : List Value), us.length = ps.length → bindArgs (PySem.W.fnOf x x (defArgs st) (defBody st) (defScope st) .none kV doc pm an cdv ct) ⟨us, []⟩ = pure (ps.zip us))
    (hbody : ∀ (cdv : Value) (A : Around) (outer : List Env) (s : Shared) (H : Hp) (E : XK) (gs : List GV) (L : SH) (Z : GV → SH → Prop), Room k (A.deeper (envOfC x (defScope st) s.heap.objs.size (He.ga K x) cdv)) → R gs L Z →
      ∃ t, PSs (cxOf CX0 P w K mg base N x (defScope st) (He.ga K x) cdv A outer s H E).nox (defBody st) t ∧ BM K L (gs.map some ++ List.replicate (N.length - gs.length) none) t Z) : Cl P w K mg base CX0 (k + 1) x (spM K R) := by
  refine cl_of d hm S (fun vs H Q E h => ?_) hb fun cdv A outer s H vs Q E hr h => ?_
  · obtain ⟨gs, L, N1, Z, _, h1, _, h2, _⟩ := h
    rw [wds_len h1]
    exact len _ _ _ h2
  · obtain ⟨gs, L, N1, Z, ex, h1, ms, h2, k⟩ := h
    obtain ⟨t, p1, p2⟩ := hbody cdv A outer s H E gs L Z hr h2
    have hl : gs.length ≤ N.length := by
      rw [len _ _ _ h2]
      have := congrArg List.length S.pre
      rw [List.length_take] at this
      omega
    exact ⟨t, p1, p2 (start N vs) N1 H _ ⟨En0.startW h1 hl, ms⟩ ex k fun σ' L' N' H' t' m' r => k .non (.d .none) L' N' H' t' m' .non r⟩
theorem mt_mut {R : List GV → SH → (GV → SH → Prop) → Prop} {C : Addr} {m : Str} (d : ∃ fd, FunD K m qual (defArgs st) (defBody st) (defScope st) [] [] f fd) (c : Cls K C) (hm : Meth K C m f) (S : FnScope N ps (defScope st)) (len : ∀ gs L Z, R gs L Z → gs.length = ps.length)
    (hb : ∀ (kV doc pm : Value) (an : Option Addr) (cdv ct : Value) (us : List Value), us.length = ps.length → bindArgs (PySem.W.fnOf m qual (defArgs st) (defBody st) (defScope st) .none kV doc pm an cdv ct) ⟨us, []⟩ = pure (ps.zip us))
    (hbody : ∀ (cdv : Value) (A : Around) (outer : List Env) (s : Shared) (H : Hp) (E : XK) (gs : List GV) (L : SH) (Z : GV → SH → Prop), Room k (A.deeper (envOfC qual (defScope st) s.heap.objs.size f cdv)) → R gs L Z →
      ∃ t, PSs (cxOf CX0 P w K mg base N qual (defScope st) f cdv A outer s H E).nox (defBody st) t ∧ BM K L (gs.map some ++ List.replicate (N.length - gs.length) none) t Z) : Mt P w K mg base CX0 (k + 1) C m (spM K R) := by
  refine mt_of d c hm S (fun vs H Q E h => ?_) hb fun cdv A outer s H vs Q E hr h => ?_
  · obtain ⟨gs, L, N1, Z, _, h1, _, h2, _⟩ := h
    rw [wds_len h1]
    exact len _ _ _ h2
  · obtain ⟨gs, L, N1, Z, ex, h1, ms, h2, k⟩ := h
    obtain ⟨t, p1, p2⟩ := hbody cdv A outer s H E gs L Z hr h2
    have hl : gs.length ≤ N.length := by
      rw [len _ _ _ h2]
      have := congrArg List.length S.pre
      rw [List.length_take] at this
      omega
    exact ⟨t, p1, p2 (start N vs) N1 H _ ⟨En0.startW h1 hl, ms⟩ ex k fun σ' L' N' H' t' m' r => k .non (.d .none) L' N' H' t' m' .non r⟩
/-- what C(..) runs -/
structure Ini (P : Program) (w : World) (K : PySem.W.Frag) (mg : Str → Option Value) (base : Heap) (CX : CXT) (k : Nat) (x : Str) (sp : Sp) : Prop where
  ex : ∃ fd ps, FnOk P w K mg base CX k (He.ma K (He.ga K x) "__init__") fd ps sp ∧ Binds K fd ps [] ∧ Mk K (He.ga K x) (He.ma K (He.ga K x) "__init__") ∧ mg x = some (.ref (He.ga K x))
theorem in_mut {R : List GV → SH → (GV → SH → Prop) → Prop} (d : ∃ fd, FunD K "__init__" qual (defArgs st) (defBody st) (defScope st) [] [] (He.ma K (He.ga K x) "__init__") fd) (c : Mk K (He.ga K x) (He.ma K (He.ga K x) "__init__")) (hm : mg x = some (.ref (He.ga K x))) (S : FnScope N ps (defScope st)) (len : ∀ gs L Z, R gs L Z → gs.length = ps.length)
    (hb : ∀ (kV doc pm : Value) (an : Option Addr) (cdv ct : Value) (us : List Value), us.length = ps.length → bindArgs (PySem.W.fnOf "__init__" qual (defArgs st) (defBody st) (defScope st) .none kV doc pm an cdv ct) ⟨us, []⟩ = pure (ps.zip us))
    (hbody : ∀ (cdv : Value) (A : Around) (outer : List Env) (s : Shared) (H : Hp) (E : XK) (gs : List GV) (L : SH) (Z : GV → SH → Prop), Room k (A.deeper (envOfC qual (defScope st) s.heap.objs.size (He.ma K (He.ga K x) "__init__") cdv)) → R gs L Z →
      ∃ t, PSs (cxOf CX0 P w K mg base N qual (defScope st) (He.ma K (He.ga K x) "__init__") cdv A outer s H E).nox (defBody st) t ∧ BM K L (gs.map some ++ List.replicate (N.length - gs.length) none) t Z) : Ini P w K mg base CX0 (k + 1) x (spM K R) := by
  obtain ⟨fd, F⟩ := d
  refine ⟨fd, ps, F.ok S (fun vs H Q E h => ?_) (fun cdv A outer s H vs Q E hr h => ?_), F.bindsN hb, c, hm⟩
  · obtain ⟨gs, L, N1, Z, _, h1, _, h2, _⟩ := h
    rw [wds_len h1]
    exact len _ _ _ h2
  · obtain ⟨gs, L, N1, Z, ex, h1, ms, h2, k⟩ := h
    obtain ⟨t, p1, p2⟩ := hbody cdv A outer s H E gs L Z hr h2
    have hl : gs.length ≤ N.length := by
      rw [len _ _ _ h2]
      have := congrArg List.length S.pre
      rw [List.length_take] at this
      omega
    exact ⟨t, p1.nox, p2 (start N vs) N1 H _ ⟨En0.startW h1 hl, ms⟩ ex k fun σ' L' N' H' t' m' r => k .non (.d .none) L' N' H' t' m' .non r⟩
/-- a pure def whose own objects change: nothing of them is told -/
theorem cl_pureM {R : List PyData → PyData → Prop} (d : ∃ fd, FunD K x x (defArgs st) (defBody st) (defScope st) [] [] (He.ga K x) fd) (hm : mg x = some (.ref (He.ga K x))) (S : FnScope N ps (defScope st)) (len : ∀ ds d, R ds d → ds.length = ps.length)
    (hb : ∀ (kV doc pm : Value) (an : Option Addr) (cdv ct : Value) (us : List Value), us.length = ps.length → bindArgs (PySem.W.fnOf x x (defArgs st) (defBody st) (defScope st) .none kV doc pm an cdv ct) ⟨us, []⟩ = pure (ps.zip us))
    (hbody : ∀ (cdv : Value) (A : Around) (outer : List Env) (s : Shared) (H : Hp) (E : XK) (ds : List PyData) (d : PyData), Room k (A.deeper (envOfC x (defScope st) s.heap.objs.size (He.ga K x) cdv)) → R ds d →
      ∃ t, PSs (cxOf CX0 P w K mg base N x (defScope st) (He.ga K x) cdv A outer s H E).nox (defBody st) t ∧ BM K [] (ds.map (fun d => some (GV.d d)) ++ List.replicate (N.length - ds.length) none) t (fun g _ => g = .d d)) : Cl P w K mg base CX0 (k + 1) x (spD K R) := by
  refine cl_pure d hm S len hb fun cdv A outer s H E ds d hr h => ?_
  obtain ⟨t, p1, p2⟩ := hbody cdv A outer s H E ds d hr h
  have nw : ∀ {N H L' N' H'}, Tr [] N H L' N' H' → Nw N H N' H' := fun t => ⟨t.a, t.b, fun x o h => t.c x o (by simp [keysH]) h, fun x o h1 h2 => t.d x o (by simp [keysH]) h1 h2, t.n⟩
  refine ⟨t, p1, fun σ N H D n ex q1 q2 => p2 σ N H D n ex (fun v g L' N' H' t' m' k' r => ?_) fun σ' L' N' H' t' m' r => q2 σ' N' H' (nw t') ?_⟩
  · subst r
    exact q1 v N' H' (nw t') k'
  · cases r; rfl
end
section
variable {X : Cx} {CX : CXT} {k j : Nat} {x : Str} {sp : Sp} {E : XK} {p pos : Pos} {e : Expr} {es : List Expr} {t : TA}
theorem pini (c : Ini X.prog X.w X.K X.mg X.base CX k x sp) (hr : Room j X.A) (hk : k + 1 ≤ j) (hx : Passes CX X E) (hg : Gl X x) (ha : PA X (e :: es) t)
    (hdb : (x == ("__debug__" : Str)) = false := by decide) (he : starEach (e :: es) X.env = (false, eval e X.env) :: starEach es X.env := by rfl) (hpl : (backTo pos (starEach es X.env)).any (·.1) = false := by rfl) :
    PE X (.Call (.Name x p) (e :: es) [] pos) (tMake (He.ga X.K x) sp [] E t) := by
  obtain ⟨fd, ps, F, b, m, g⟩ := c.ex
  exact pe_make m F (hr.mono hk) hg g b .nil hx ha hdb he hpl
end
end K13
namespace K13
open PySem PySem.Spec PyProof.Rows L2
abbrev s_TM : Stmt := inClass (top 7) 0
def tabA (K : PySem.W.Frag) (x : Str) : Addr := (He.cT K (x, none)).2
abbrev Rw : PySem.W.OpenRow := PySem.W.OpenLaw.row PySem.Challenge.rw_behindtaps_k13_whole_one_kind_of_part_fo
abbrev cBad (K : PySem.W.Frag) : Addr := He.ga K "BadNet"
abbrev cMany (K : PySem.W.Frag) : Addr := He.ga K "TooMany"
def fIx (K : PySem.W.Frag) : Addr := He.fAd K ("TooMany", some "__init__")
abbrev FnN : Type := Option (Str × Str × Arguments × FuncBody × Scope × Addr × List Str × Addr)
def fnN (K : PySem.W.Frag) : FnN := match K.lookup (fIx K) with
  | some ⟨_, _, .func fd, _⟩ => some (fd.name, fd.qualname, fd.params, fd.body, fd.scope, fd.globals, fd.closure.map (·.1), fd.builtins)
  | _ => none
def valN : FnN := some ("__init__", "TooMany.__init__", defArgs s_TM, .stmts (defBody s_TM), defScope s_TM, mainGlobals, ["__class__"], builtinsNs)
def fileB (K : PySem.W.Frag) (c : Addr) : Bool := match K.lookup c with
  | some ⟨_, _, .fields vs, _⟩ => (match (vs[2]? : Option Value) with
    | some (.str file _) => (Rw.prog.main.file : Str) == file
    | _ => false)
  | _ => false
def cellB (K : PySem.W.Frag) (cc C : Addr) : Bool := match K.lookup cc with
  | some ⟨_, _, .cell (some (.ref D)), _⟩ => decide (D = C)
  | _ => false
def initB (K : PySem.W.Frag) : Bool := match K.lookup (fIx K) with
  | some ⟨_, _, .func fd, _⟩ => (match fd.code, fd.closure with
    | .ref c, [(_, cc)] => decide (fd.defaults = .none) && (PySem.W.codeIn K (.ref c) "TooMany.__init__" && (fileB K c && cellB K cc (cMany K)))
    | _, _ => false)
  | _ => false
def oexB (K : PySem.W.Frag) (C : Addr) : Bool := match K.lookup C with
  | some ⟨.type "type", _, .cls cd, sl⟩ => (match cd.mro, sl.toList with
    | .ref C' :: bm, [_, _, _, _, some (.builtin n), _] => decide (C' = C) && (decide (n = "ValueError.__new__") && (!cd.hasDel && (cd.hasDict && PySem.HandSPX.refsVE bm)))
    | _, _ => false)
  | _ => false
def ecB (K : PySem.W.Frag) (D : Addr) : Bool := decide (PySem.W.findIn K (.ref D) "__getattribute__" = some (some (.builtin "BaseException.__getattribute__"))) && (decide (PySem.W.findIn K (.ref D) "__getattr__" = some none) &&
  (decide (PySem.W.subIn K (.ref D) (.type "BaseException") = some true) && (PySem.W.hasDictIn K D && (decide (PySem.W.findIn K (.ref D) "__class__" = some (some (.builtin "object.__class__"))) &&
  (decide (PySem.W.specialIn K (.builtin "object.__class__") "__get__" = some (some (.builtin "getset_descriptor.__get__"))) && (decide (PySem.W.takesIn K (.builtin "object.__class__") = some true) && (decide (PySem.W.mroIn K D (.type "object") = some true) &&
  decide (PySem.W.kitOne K (.ref D) (.ref D) = some true))))))))
def manyB (K : PySem.W.Frag) : Bool := oexB K (cMany K) && (decide (PySem.W.findIn K (.ref (cMany K)) "__setattr__" = some (some (.builtin "object.__setattr__"))) && (decide (PySem.W.typeIn K (.ref (cMany K)) = some (.type "type")) && (PySem.W.keepIn K (.ref (cMany K)) &&
  (decide (PySem.W.findIn K (.ref (cMany K)) "most" = some none) && (decide (PySem.W.findIn K (.ref (cMany K)) "__init__" = some (some (.ref (fIx K)))) && (decide (PySem.W.typeIn K (.ref (fIx K)) = some (.type "function")) &&
  (decide (PySem.W.ks_superIn K (cMany K) (cMany K) "__init__" = some (some (.builtin "ValueError.__init__"))) && (decide (PySem.W.nsIn K cStatics "thirdparty.any" = some none) && (decide (PySem.W.subIn K (.ref (cMany K)) (.type "ValueError") = some true) &&
  decide (PySem.W.mroIn K (cMany K) (.ref (cMany K)) = some true))))))))))
def exX (K : PySem.W.Frag) : Bool := ecB K (cBad K) && (ecB K (cMany K) && (manyB K && (initB K && !decide (tabA K "law" = tabA K "_law_an_turned_right"))))
end K13
namespace K13
open PySem PySem.Spec PyProof.Rows L2
def qv : Program := PySem.W.view Rw.prog [0, 91]
def loose : List Str := (Rw.prog.main.scope.names.map (·.1)).filter fun x => !(decide (x = "gcd") || decide (x = "law"))
/-- one more address, unless its bit is set -/
def pushA (st : List Addr × Nat) (a : Addr) : List Addr × Nat := bif Nat.testBit st.2 a then st else (a :: st.1, st.2 ||| (1 <<< a))
def refsA (g : Addr → Option Obj) (a : Addr) : List Addr := match g a with
  | some o => He.refsD o
  | none => []
/-- what the front names and was not seen: behind it all, and what is seen then -/
def growA (g : Addr → Option Obj) : Nat → List Addr → List Addr × Nat → List Addr
  | 0, _, st => st.1
  | n + 1, front, st =>
    match (front.flatMap (refsA g)).foldl pushA ([], st.2) with
    | (new, seen) => growA g n new (new ++ st.1, seen)
def asA (g : Addr → Option Obj) (n : Nat) : List Addr := growA g n [mainGlobals] ([mainGlobals, cStatics], (1 <<< mainGlobals) ||| (1 <<< cStatics))
/-- what the module's names reach in four steps, and the statics -/
def frE (g : Addr → Option Obj) : PySem.W.Frag := He.frT g (asA g 4)
/-- the whole top, run at w: ob gives v -/
def RunP {α : Type} (ob : PySem.W.Frag → (Addr → Option Obj) → α) (v : α) (w : World) : Prop :=
  (HandSHeadRun.wholeF (fun p => HandSHeadRun.stepQ (HandSHeadRun.denQ HandSHeadRun.tabQ) p w) HandSHeadRun.fenceQ 6000 Rw.prog).map (fun x => (HandSHeadRun.looksF Rw.prog x.1.heap x.2.abs,
    HandSHeadRun.seenQ qv loose (importedModules Rw.prog.main.body) (fun s => PySem.W.xlAt qv [] s && PySem.W.recOk Rw.toRowW.records s) x.2.abs, ob (frE (HandSHeadRun.getT x.2)) (HandSHeadRun.getT x.2))) = some (true, PySem.W.openGood qv loose, v)
end K13
namespace K13
open PySem PySem.Spec PyProof.Rows L2
open Evl (Ex fresh_back ex_l ex_t)
open LamX (TabB)
theorem dec_and {p : Prop} [Decidable p] {b : Bool} (h : (decide p && b) = true) : p ∧ b = true := ⟨of_decide_eq_true (Bool.and_eq_true_iff.mp h).1, (Bool.and_eq_true_iff.mp h).2⟩
theorem b_and {a b : Bool} (h : (a && b) = true) : a = true ∧ b = true := Bool.and_eq_true_iff.mp h
def exAll (K : PySem.W.Frag) : Bool := exB K && exX K
abbrev AlF : Type := (He.AlT × Bool) × FnN
def obsF (K : PySem.W.Frag) (g : Addr → Option Obj) : AlF := ((He.obsT fa fn [] K, exAll K && He.tabsB g tf K), fnN K)
def valF (w : World) : AlF := ((He.valT fn [] w, true), valN)
theorem saysF {as : List Addr} {h : Heap} {w : World} (e : obsF (He.frT h.get? as) h.get? = valF w) : He.SaysX fa fn [] tf exAll w h (He.frT h.get? as) ∧ fnN (He.frT h.get? as) = valN := by
  have e1 : He.obsT fa fn [] (He.frT h.get? as) = He.valT fn [] w := congrArg (fun z : AlF => z.1.1) e
  have e2 : (exAll (He.frT h.get? as) && He.tabsB h.get? tf (He.frT h.get? as)) = true := congrArg (fun z : AlF => z.1.2) e
  have e3 : fnN (He.frT h.get? as) = valN := congrArg (fun z : AlF => z.2) e
  obtain ⟨h1, h2⟩ := b_and e2
  have tab : ∀ p ∈ tf, PySem.W.codeHdIn (He.frT h.get? as) (He.cT (He.frT h.get? as) p).1 (He.cT (He.frT h.get? as) p).2 = true ∧ ∃ o, h.get? (He.cT (He.frT h.get? as) p).2 = some o ∧ He.emptyTab o = true := fun p hp => by
    obtain ⟨a, b⟩ := b_and (List.all_eq_true.mp h2 p hp)
    refine ⟨a, ?_⟩
    split at b
    · rename_i o ho
      exact ⟨o, ho, b⟩
    · cases b
  refine ⟨⟨e1, h1, fun p hp => (tab p hp).1, fun p hp => ?_, fun p hp => ?_⟩, e3⟩
  · obtain ⟨_, o, q, z⟩ := tab p hp
    exact He.frT_none q z
  · obtain ⟨_, o, q, z⟩ := tab p hp
    rw [q, He.emptyTab_eq z]
def hkF : PySem.W.Hook where
  α := AlF
  obs := fun s => obsF (frE s.heap.get?) s.heap.get?
  val := valF
  says := fun w h => ∃ K : PySem.W.Frag, K.In h ∧ He.SaysX fa fn [] tf exAll w h K ∧ fnN K = valN
  of := fun _ s e => ⟨frE s.heap.get?, He.frT_in, saysF (as := asA s.heap.get? 4) e⟩
  keeps := fun _ _ _ ⟨K, hK, c, f⟩ k => ⟨K, PySem.W.Frag.In.keeps hK k, ⟨c.t, c.more, c.hd, c.out, fun p hp => k _ _ (c.empty p hp)⟩, f⟩
def obF (s : PySem.W.SharedT) : hkF.α := obsF (frE (HandSHeadRun.getT s)) (HandSHeadRun.getT s)
theorem obF_eq (s : PySem.W.SharedT) : obF s = hkF.obs s.abs := by
  have e : HandSHeadRun.getT s = s.abs.heap.get? := funext (HandSHeadRun.getT_eq s)
  unfold obF
  rw [e]
  rfl
end K13
set_option maxHeartbeats 0
namespace K13
open PySem PySem.Spec PyProof.Rows L2
theorem runI (w : World) : HandSHeadRun.RunEqI Rw qv hkF obF 6000 loose w := by
  unfold HandSHeadRun.RunEqI
  kernel_rfl
end K13
set_option maxHeartbeats 4000000
namespace K13
open PySem PySem.Spec PyProof.Rows L2
open Evl (Ex fresh_back ex_l ex_t)
section
variable {X : Cx}
/-- the new dict takes an entry under a tuple -/
theorem put_tupKey {pins : List (Addr × Obj)} {σ : L2.St} {H : Hp} {s : Shared} {E : Value → Shared → Prop} {D b : Addr} {kvs : List (List Key × V)} {ks : List Key} {v : V} {r : Value} {Q : Unit → Shared → Prop}
    (room : X.A.units < cLine) (I : Inv X pins σ H s) (hD : H D = some (.dT kvs)) (hb : H b = some (.tup (ks.map kV))) (small : kvs.length < sizeLine) (rv : RelV v r) (k : ∀ s', Inv X pins σ (upd H D (.dT (putK kvs ks v))) s' → Q () s') :
    wpAny (model X.prog X.w) X.A (dictSet D (.ref b) r) Q E s := by
  obtain ⟨c1, c2, es, c3, c4⟩ := dt_of I.hok hD
  have n1 : es.length ≤ sizeLine := Paired.length c3 ▸ c1
  have n2 : (putK kvs ks v).length ≤ sizeLine := Nat.le_trans (length_putK kvs ks v) small
  apply wpAny_dictSet_heap (knd := tupleKind (mixKind X.prog X.w)) (hsz := n1) room (key_of I.hok hb) c4
  intro h2 new same
  apply k
  obtain ⟨o, as, ps, z1, z2, z3, z4, _, z5⟩ := new
  have other : ∀ c ys, H c = some (.tup ys) → upd H D (.dT (putK kvs ks v)) c = some (.tup ys) := fun c ys ec => (upd_ne (ne_of ec hD nofun)).trans ec
  exact d_write I (by rw [hD]; trivial) same ⟨o, z1⟩ ⟨n2, c2, _, (c3.put ks hb rv).keeps other, o, as, ps, z1, z2, z3, z4, z5⟩
/-- one turn of the block -/
def StpT (g : L2.TG) (tk tv : TE) (σ : L2.St) (ws : List Nat) (D : Addr) (Nx : Hp → Prop) (x : V) (H : Hp) : Prop :=
  g x (wipe σ ws) H fun σ2 H2 => wipe σ2 ws = wipe σ ws ∧ tk σ2 H2 fun y H3 => tv σ2 H3 fun z H4 =>
    ∃ kvs ks b, y = .ref b ∧ H4 b = some (.tup (ks.map kV)) ∧ H4 D = some (.dT kvs) ∧ kvs.length < sizeLine ∧ Nx (upd H4 D (.dT (putK kvs ks z)))
/-- {tuple: v for target in iter} -/
def tDcT (wi : TI) (g : L2.TG) (tk tv : TE) (ws : List Nat) : TE := fun σ H Q => wi σ H fun J H1 => ∀ D, H1 D = none → ∃ (n : Nat) (P : Nat → Hp → Prop),
  P 0 (upd H1 D (.dT [])) ∧ (∀ H', P n H' → J.stop n H' ∧ Q (.ref D) H') ∧ ∀ i H', i < n → P i H' → J.go i H' ∧ ∀ x H'', J.yld i H' x H'' → StpT g tk tv σ ws D (P (i + 1)) x H''
abbrev InBlk (X : Cx) (sc : Scope) (φ : Cx → Prop) : Prop := ∀ (s : Shared) (H : Hp) (C : Addr) (cl : List (Str × Addr)) (fp : List Addr), φ (X.blk s H sc (compEnvC sc cl C X.env) fp)
/-- the block's loop -/
theorem blk_loopT {Y : Cx} {kx vx tg it0 : Expr} {sc : Scope} {pos : Pos} {g : L2.TG} {tk tv : TE} {it D : Addr} {fp : List Addr} {tn : Nat → Heap → Prop} {J : It} {σ : L2.St} {ws : List Nat} {n : Nat} {P : Nat → Hp → Prop} {R : Result → Shared → Prop} {s : Shared} {H0 : Hp}
    (calm : Y.calm = true) (room : Y.A.units < cLine) (pg : PG Y tg g) (pk : PE Y kx tk) (pv : PE Y vx tv) (T : Turn Y.prog Y.w Y.K tg J fp it tn)
    (keep : ∀ {pins : List (Addr × Obj)} {σ' H' s'}, Inv Y pins σ' H' s' → pins = [] → (∀ b ∈ fp, H' b = none) → ∀ b ∈ fp, FpOk Y pins H' b)
    (I0 : Inv Y [] (wipe σ ws) H0 s) (t0 : tn 0 s.heap) (f0 : ∀ b ∈ fp, H0 b = none) (p0 : P 0 H0)
    (last : ∀ H', P n H' → J.stop n H') (step : ∀ i H', i < n → P i H' → J.go i H' ∧ ∀ x H'', J.yld i H' x H'' → StpT g tk tv σ ws D (P (i + 1)) x H'')
    (fin : ∀ H' s', Inv Y [] (wipe σ ws) H' s' → P n H' → R (.ok .next) s')
    (quiet : Y.xe = fun _ _ => False) :
    codeAny (model Y.prog Y.w) Y.A (.compLoop (.DictComp kx vx [⟨tg, it0, [], 0⟩] sc pos) 0 (.ref it) (.ref D) Y.env) R s := by
  apply compLoop_anyD (n := n) (fun m s' => ∃ i H', m = n - i ∧ i ≤ n ∧ Inv Y [] (wipe σ ws) H' s' ∧ tn i s'.heap ∧ (∀ b ∈ fp, H' b = none) ∧ P i H')
  rotate_left
  · exact ⟨0, H0, rfl, Nat.zero_le _, I0, t0, f0, p0⟩
  rintro _ s1 ⟨i, H1, rfl, le, I1, t1, f1, p1⟩
  rcases Nat.lt_or_eq_of_le le with lt | rfl
  · obtain ⟨go, more⟩ := step i H1 lt p1
    refine thnF (T.item Y rfl rfl rfl calm i [] s1 _ H1 _ I1 (keep I1 rfl f1) t1 go) fun _ s2 ⟨u, e, rest⟩ => ?_
    cases e
    refine thnF rest fun _ s3 ⟨x, H3, I3, rx, yx, t3, f3⟩ => ?_
    have I4 := I3.pinned (keep I3 rfl f3) (T.obj _ _ t3)
    refine thnF (quiet ▸ pg.run _ s3 _ H3 x u _ I4 rx (more x H3 yx)) fun _ s5 ⟨σ5, H5, I5, wp, q5⟩ => ?_
    refine wpAny_pure ?_
    simp only [if_true]
    refine thnF (quiet ▸ pk.run _ s5 σ5 H5 _ I5 q5) fun _ s6 ⟨y, H6, I6, ry, q6⟩ => ?_
    refine thnF (quiet ▸ pv.run _ s6 σ5 H6 _ I6 q6) fun _ s7 ⟨z, H7, I7, rz, kvs, ks, b, ey, hb, hD, hz, nx⟩ => ?_
    subst ey
    cases ry
    refine put_tupKey room I7 hD hb hz rz fun s8 I8 => ?_
    have pin : ∀ c ∈ fp, ∀ o, s3.heap.get? c = some o → s8.heap.get? c = some o ∧ (upd H7 D (.dT (putK kvs ks z))) c = none := fun c hc o e =>
      have w := I8.pin (c, o) (List.mem_append_right _ (List.mem_append_right _ (mem_pinsAt hc e)))
      ⟨w.1, w.2.1⟩
    have len : (wipe σ ws).length = σ5.length := by rw [← wp]; exact wipe_length _ _
    have I9 : Inv Y [] (wipe σ ws) (upd H7 D (.dT (putK kvs ks z))) s8 := (Inv.unpinned (pins := []) I8).weak len fun j v e => (wipe_some (wp ▸ e)).1
    refine ⟨n - (i + 1), by omega, i + 1, _, rfl, lt, I9, T.keep _ _ _ t3 fun c hc o e => (pin c hc o e).1, fun c hc => ?_, nx⟩
    obtain ⟨o, e, _⟩ := T.obj _ _ t3 c hc
    exact (pin c hc o e).2
  · refine thnF (T.done Y rfl rfl rfl calm _ [] s1 _ H1 (fun _ _ => False) I1 (keep I1 rfl f1) t1 (last H1 p1)) fun _ s2 ⟨e, I2⟩ => ?_
    cases e
    exact fin H1 s2 I2 p1
/-- the dict of a comprehension over any iterator, its keys tuples -/
theorem pe_dcT {kx vx tg iter : Expr} {sc : Scope} {own : List (Str × Nat)} {pos : Pos} {wi : TI} {g : L2.TG} {tk tv : TE} (calm : X.calm = true) (nd : X.N.Nodup) (room : X.A.units < cLine) (hi : PI X tg iter wi) (bk : BlkOk X.N X.env.scope sc own)
    (hg : InBlk X sc fun Y => PG Y tg g) (hk : InBlk X sc fun Y => PE Y kx tk) (hv : InBlk X sc fun Y => PE Y vx tv) (plain : ∀ x, foldedSetIterable iter X.env x = pure x := by intro _; rfl) :
    PE X (.DictComp kx vx [⟨tg, iter, [], 0⟩] sc pos) (tDcT wi g tk tv (own.map (·.2))) := by
  constructor
  intro pins s σ H Q I h
  rw [arm_eval_DictComp]
  have cellOf : ∀ y ∈ sc.names, y.2 = .free → ∃ c, X.env.cells.lookup y.1 = some c := fun y hy e =>
    (bk.free y hy e).elim (fun z => I.ok.has _ (.inl z)) fun z => I.ok.has _ (.inr z)
  apply wpAny_comprehension_free rfl plain (closure_ok cellOf) bk.kind (fun y hy e => by rw [bk.uniq y hy, e])
  refine thn (hi.run pins s σ H _ I h) fun v0 s1 h1 => thn h1 fun itv s2 ⟨it, fp, tn, J, H2, e, I2, T, t2, f2, q⟩ => ?_
  cases e
  refine wpAny_newObj_type (newEnv_comp ?_)
  have base0 : H2 s2.heap.objs.size = none := I2.hok.fresh (Nat.le_refl _)
  obtain ⟨n, P, p0, last, step⟩ := q _ base0
  -- the dict is there
  have I3 : Inv X pins σ (upd H2 s2.heap.objs.size (.dT [])) { s2 with heap := s2.heap.push { cls := .type "dict", data := .dict #[] } } :=
    I2.laid (t' := s2.toks) (fun _ _ e => Heap.get?_push_of_some _ e) (Nat.le_refl _) (dt_empty s2.heap I2.big)
  have old : ∀ c ∈ fp, c < s2.heap.objs.size := fun c hc => (T.obj _ _ t2 c hc).elim fun _ e => Heap.lt_size e.1
  have f3 : ∀ c ∈ fp, FpOk X pins (upd H2 s2.heap.objs.size (.dT [])) c ∧ c < (s2.heap.push { cls := .type "dict", data := .dict #[] }).objs.size := fun c hc => by
    refine ⟨⟨?_, (f2 c hc).2⟩, by rw [Heap.size_push]; exact Nat.lt_succ_of_lt (old c hc)⟩
    rw [upd_ne (Nat.ne_of_lt (old c hc))]
    exact (f2 c hc).1
  have t3 : tn 0 (s2.heap.push { cls := .type "dict", data := .dict #[] }) := T.keep _ _ _ t2 fun _ _ _ e => Heap.get?_push_of_some _ e
  generalize hs : ({ s2 with heap := s2.heap.push { cls := .type "dict", data := .dict #[] } } : Shared) = s3 at I3
  have e3 : s3.heap = s2.heap.push { cls := .type "dict", data := .dict #[] } := by rw [← hs]
  rw [← e3] at f3 t3
  have I4 := block_start I3 bk nd f3
  have gp := hg s3 (upd H2 s2.heap.objs.size (.dT [])) s3.heap.objs.size (cellsFrom (s3.heap.objs.size + 1) sc.names (cloFrom X.env.cells sc.names [])) fp
  have kp := hk s3 (upd H2 s2.heap.objs.size (.dT [])) s3.heap.objs.size (cellsFrom (s3.heap.objs.size + 1) sc.names (cloFrom X.env.cells sc.names [])) fp
  have vp := hv s3 (upd H2 s2.heap.objs.size (.dT [])) s3.heap.objs.size (cellsFrom (s3.heap.objs.size + 1) sc.names (cloFrom X.env.cells sc.names [])) fp
  have empty : ∀ c ∈ fp, (upd H2 s2.heap.objs.size (.dT [])) c = none := fun c hc => (f3 c hc).1.1
  have whole := blk_loopT (Y := X.blk s3 (upd H2 s2.heap.objs.size (.dT [])) sc (compEnvC sc (cellsFrom (s3.heap.objs.size + 1) sc.names (cloFrom X.env.cells sc.names [])) s3.heap.objs.size X.env) fp) (kx := kx) (vx := vx) (tg := tg) (it0 := iter) (sc := sc) (pos := pos) (ws := own.map (·.2)) (it := it) (D := s2.heap.objs.size) (n := n) (P := P) (R := compPost (model X.prog X.w) X.A X.xe none (fun v s' => ∃ x H', Inv X pins σ H' s' ∧ RelV x v ∧ Q x H') (.ref s2.heap.objs.size) s3.heap.objs.size)
    calm room gp kp vp T (fun {pins' σ' H' s'} J0 e z b hb => by
      subst e
      exact ⟨z b hb, (J0.ok.exf b hb).1, J0.ok.exfs b hb, .inl hb, fun x c e => (J0.ok.exf b hb).2 x c e, fun p hp => nomatch (show p ∈ ([] : List (Addr × Obj)) from hp)⟩) I4 (T.keep _ _ _ t3 fun b _ o e => pushCells_keeps _ _ _ _ (Heap.get?_push_of_some _ e)) empty p0 (fun H' z => (last H' z).1) step
    (fun H' s' J0 z => by
      have back : Inv X pins σ H' s' := I3.call' (ch := fp) J0.os J0.base J0.hok J0.bare fun b hb => ⟨(f3 b hb).1.2.2.2.1, (f3 b hb).1.2.1, (f3 b hb).1.2.2.2.2.1, (f3 b hb).1.2.2.2.2.2⟩
      obtain ⟨m, ns, _⟩ := J0.loc
      have gone : H' s3.heap.objs.size = none := J0.free
      obtain ⟨g0, g1, _, g3, g4, g5⟩ := I3.fpOk (Nat.le_refl _) gone
      exact ⟨m, ns, fun h'' same => ⟨.ref s2.heap.objs.size, H', back.turned (t' := s'.toks) (fun b o ne e => (same.2 b ne).trans e) g0 g1 g3 g4 g5, rfl, (last H' z).2⟩⟩) rfl
  exact codeAny_compStart_dict whole (T.self X.A 0 _ _ _ (T.keep _ _ _ t3 fun b _ o e => pushCells_keeps _ _ _ _ (Heap.get?_push_of_some _ e)) whole)
/-- the same, in the order in which the printed rows give it -/
theorem pe_dcTn {kx vx tg iter : Expr} {sc : Scope} {own : List (Str × Nat)} {pos : Pos} {wi : TI} {g : L2.TG} {tk tv : TE} (calm : X.calm = true) (nd : X.N.Nodup) (hi : PI X tg iter wi) (bk : BlkOk X.N X.env.scope sc own)
    (hg : InBlk X sc fun Y => PG Y tg g) (_ht : InBlk X sc fun Y => PTs Y [] tYes) (hk : InBlk X sc fun Y => PE Y kx tk) (hv : InBlk X sc fun Y => PE Y vx tv) (room : X.A.units < cLine) (plain : ∀ x, foldedSetIterable iter X.env x = pure x := by intro _; rfl) :
    PE X (.DictComp kx vx [⟨tg, iter, [], 0⟩] sc pos) (tDcT wi g tk tv (own.map (·.2))) := pe_dcT calm nd room hi bk hg hk hv plain
end
section
variable {K : PySem.W.Frag} {L : List (Addr × MO)} {G : List (Option GV)} {wi : TI} {tg : L2.TG} {tv : TE} {zs : List β} {Ta : β → List (Option GV) → List (Option GV)} {tgs : List Nat}
theorem putGK_le [DecidableEq κ] (a : List (κ × GV)) (k : κ) (g : GV) : (putGK a k g).length ≤ a.length + 1 := by
  unfold putGK
  split <;> simp
theorem foldGK_le [DecidableEq κ] {kf : β → κ} {vf : β → GV} (l : List β) : ∀ a : List (κ × GV), (l.foldl (fun acc z => putGK acc (kf z) (vf z)) a).length ≤ a.length + l.length := by
  induction l with
  | nil => intro a; exact Nat.le_refl _
  | cons x r ih => intro a; exact Nat.le_trans (ih _) (by have := putGK_le a (kf x) (vf x); simp; omega)
/-- {tuple: v for .. in data}, v data -/
theorem em_dcT {ws : List Nat} {kf : β → List Key} {vf : β → GV} {tk : TE} (h : IG K L G wi tg zs Ta tgs) (hz : zs.length ≤ 1000000) (hm : ∀ j, j ∉ ws → j ∉ tgs)
    (hk : ∀ z ∈ zs, EG K L (Ta z (wipeG G ws)) tk (.tuple ((kf z).map kD))) (hv : ∀ z ∈ zs, EV K L (Ta z (wipeG G ws)) tv (vf z)) :
    EM K L G (tDcT wi tg tk tv ws) (fun g L' => ∃ p, g = .r p ∧ L' = (p, .dT (zs.foldl (fun acc z => putGK acc (kf z) (vf z)) [])) :: L) := fun σ N H n ex Q q =>
  h σ N H n ex _ fun J N1 H1 Gd Y w1 wk gd ty D hD => by
    let acc := fun i => (zs.take i).foldl (fun acc z => putGK acc (kf z) (vf z)) []
    have ok : ∀ i H', (∃ N', Tr L N H ((D, .dT (acc i)) :: L) N' H' ∧ En K ((D, .dT (acc i)) :: L) G σ N' H' ∧ Ex N1 N') → Gd H' := fun i H' ⟨_, p1, _, e⟩ => gd H' (e.trans p1.b)
    refine ⟨zs.length, fun i H' => ∃ N', Tr L N H ((D, .dT (acc i)) :: L) N' H' ∧ En K ((D, .dT (acc i)) :: L) G σ N' H' ∧ Ex N1 N', ?_, ?_, ?_⟩
    · exact ⟨N1, (Tr.of w1).trans (Tr.new w1.b hD), ⟨(n.step w1).nm, (n.ms.step w1).new w1.b hD (mo_dT upd_same .nil)⟩, Ex.refl _⟩
    · intro H' p
      refine ⟨wk.stops H' (ok _ _ p), ?_⟩
      obtain ⟨N', p1, p2, _⟩ := p
      have e : acc zs.length = zs.foldl (fun acc z => putGK acc (kf z) (vf z)) [] := by simp only [acc, List.take_length]
      rw [e] at p1 p2
      exact q _ (.r D) _ N' H' p1 p2.ms rfl ⟨D, rfl, rfl⟩
    · intro i H' hi p
      refine ⟨wk.goes i H' hi (ok _ _ p), fun x H2 y => ?_⟩
      replace y := wk.yields i H' x H2 hi (ok _ _ p) y
      obtain ⟨N', p1, p2, p4⟩ := p
      have hz' : zs[i]? = some zs[i] := List.getElem?_eq_getElem hi
      have mem := List.mem_of_getElem? hz'
      refine ty i zs[i] x (wipe σ ws) _ (wipeG G ws) N' H' H2 hz' p4 p1.b (p2.wipe ws) y _ fun σ2 N3 w3 n3 o3 l3 => ?_
      refine ⟨wipe_again (by rw [l3, wipe_length]) fun j hj => by rw [o3 j (hm j hj), wipe_at, if_neg hj], ?_⟩
      have n4 : En K L (Ta zs[i] (wipeG G ws)) σ2 N3 H2 := ⟨n3.nm, n3.ms.sub (List.sublist_cons_self _ _)⟩
      refine hk _ mem σ2 N3 H2 n4 w3.b _ fun y N4 H4 w4 k4 => hv _ mem σ2 N4 H4 (n4.step w4) w4.b _ fun u N5 H5 w5 k5 => ?_
      have m5 := (n3.ms.step w4).step w5
      obtain ⟨_, vs, e1, e2⟩ := m5.at_ D _ List.mem_cons_self
      obtain ⟨b, us, eb, hb, hd⟩ := dp_tupH k4
      rw [dps_key hd] at hb
      refine ⟨vs, kf zs[i], b, eb, w5.b _ _ (w5.a _ _ hb), e1, ?_, N5, ?_⟩
      · have h3 := foldGK_le (kf := kf) (vf := vf) (zs.take i) []
        rw [List.length_take] at h3
        rw [kvs_len e2]
        simp only [List.length_nil, Nat.zero_add] at h3
        exact Nat.lt_of_lt_of_le (show _ < 1000001 from by have : (acc i).length ≤ min i zs.length := h3; omega) (by decide)
      · have e : acc (i + 1) = putGK (acc i) (kf zs[i]) (vf zs[i]) := fold_step hz'
        rw [e]
        have w := (w3.trans w4).trans w5
        exact ⟨((p1.trans (.of w)).trans (Tr.head m5 w5.b)), ⟨p2.nm.mono w.a, m5.head (mo_dT upd_same (kv_putK e2 k5))⟩, p4.trans w.a⟩
end
end K13
namespace K13
open PySem PySem.Spec PyProof.Rows L2
open Evl (Ex fresh_back ex_l ex_t)
section
variable {K : PySem.W.Frag} {N H N' H' : Hp} {p : Addr} {kvs : List (Key × GV)} {Lr L1 : SH}
theorem lock_open {X : HO} (m : Ms K ((p, .dK kvs) :: Lr) N H) (e : Ex N H) : N p = none ∧ (∃ vs, H p = some (.dK vs) ∧ KvAll K N vs kvs) ∧ Ms K Lr N (upd H p X) ∧ Ex N (upd H p X) := by
  obtain ⟨np, h⟩ := m.at_ p _ List.mem_cons_self
  have keep : ∀ x o, x ≠ p → H x = some o → upd H p X x = some o := fun x o ne h => (upd_ne ne).trans h
  refine ⟨np, h, ⟨(List.nodup_cons.mp (show (p :: keysH Lr).Nodup from m.nd)).2, fun a o ha => ?_⟩, fun x o q => ?_⟩
  · obtain ⟨n1, k1⟩ := m.at_ a o (List.mem_cons_of_mem _ ha)
    exact ⟨n1, mo_mono (Ex.refl N) (fun u hu => keep a u (not_eq_key m ha) hu) k1⟩
  · exact keep x o (fun z => by rw [z, np] at q; cases q) (e x o q)
theorem lock_close {X : HO} {vs : List (Key × V)} (m : Ms K ((p, .dK kvs) :: Lr) N H) (kv : KvAll K N vs kvs) (t : Tr Lr N (upd H p X) L1 N' H') (m1 : Ms K L1 N' H') :
    H' p = some X ∧ Tr ((p, .dK kvs) :: Lr) N H ((p, .dK kvs) :: L1) N' (upd H' p (.dK vs)) ∧ Ms K ((p, .dK kvs) :: L1) N' (upd H' p (.dK vs)) := by
  obtain ⟨np, _⟩ := m.at_ p _ List.mem_cons_self
  have pk : p ∉ keysH Lr := (List.nodup_cons.mp (show (p :: keysH Lr).Nodup from m.nd)).1
  have np' : N' p = none := t.d p X pk np upd_same
  have pk1 : p ∉ keysH L1 := fun z => (t.e p z).elim pk fun w => by rw [upd_same] at w; cases w
  have ne : ∀ x o, N' x = some o → x ≠ p := fun x o q z => by rw [z, np'] at q; cases q
  refine ⟨t.c p X pk upd_same, ⟨t.a, fun x o q => (upd_ne (ne x o q)).trans (t.b x o q), fun x o hx q => ?_, fun x o hx hn q => ?_, fun x hx => ?_, fun x o q => ?_, t.n⟩, ⟨?_, fun a o ha => ?_⟩⟩
  · obtain ⟨h1, h2⟩ : x ≠ p ∧ x ∉ keysH Lr := by simpa [keysH] using hx
    exact (upd_ne h1).trans (t.c x o h2 ((upd_ne h1).trans q))
  · obtain ⟨h1, h2⟩ : x ≠ p ∧ x ∉ keysH Lr := by simpa [keysH] using hx
    exact t.d x o h2 hn ((upd_ne h1).trans q)
  · rcases List.mem_cons.mp (show x ∈ p :: keysH L1 from hx) with z | z
    · exact .inl (z ▸ List.mem_cons_self)
    · rcases t.e x z with y | y
      · exact .inl (List.mem_cons_of_mem _ y)
      · have h1 : x ≠ p := fun w => pk1 (w ▸ z)
        exact .inr ((upd_ne h1).symm.trans y)
  · by_cases h1 : x = p
    · exact ⟨.dK vs, by rw [h1]; exact upd_same⟩
    · obtain ⟨o', q'⟩ := t.f x o ((upd_ne h1).trans q)
      exact ⟨o', (upd_ne h1).trans q'⟩
  · exact List.nodup_cons.mpr ⟨pk1, m1.nd⟩
  · rcases List.mem_cons.mp ha with z | z
    · cases z
      exact ⟨np', mo_dK upd_same (kvs_mono t.a kv)⟩
    · obtain ⟨n1, k1⟩ := m1.at_ a o z
      have h1 : a ≠ p := fun w => pk1 (w ▸ mem_keys z)
      exact ⟨n1, mo_mono (Ex.refl N') (fun u hu => (upd_ne h1).trans hu) k1⟩
end
section
variable {K : PySem.W.Frag} {L : SH} {G : Gm} {te : TE} {ts tu : TS}
/-- for k in d: the body does not touch d -/
theorem sm_lockFor {p : Addr} {m : Nat} {kvs : List (Key × GV)} {Lr : SH} {W : Nat → Gm → SH → Prop} (ho : ∀ {L1 : SH}, EV K L1 G te (.r p)) (h0 : W 0 G Lr)
    (hs : ∀ i kv G1 L1, kvs[i]? = some kv → W i G1 L1 → SM K L1 (G1.set m (some (.d (kD kv.1)))) tu (W (i + 1))) :
    SM K ((p, .dK kvs) :: Lr) G (tLock (tFor (iKeys te) (gName m) tu)) (fun G' L' => ∃ L1, L' = (p, .dK kvs) :: L1 ∧ W kvs.length G' L1) := fun σ N H D n ex q => by
  obtain ⟨np, ⟨vs, hp, kv⟩, _⟩ := lock_open (X := .dK []) n.ms ex
  refine ⟨p, .dK vs, hp, True.intro, fun od => ?_⟩
  obtain ⟨_, _, m0, e0⟩ := lock_open (X := .frz od (.dK vs)) n.ms ex
  refine ho (L1 := Lr) σ N (upd H p (.frz od (.dK vs))) ⟨n.nm, m0⟩ e0 _ fun x N1 H1 w1 k1 => ?_
  obtain rfl : x = .ref p := k1
  refine ⟨p, od, rfl, .inl ⟨vs, w1.c p _ upd_same, ?_⟩⟩
  have len : vs.length = kvs.length := kvs_len kv
  refine for_it (walk_keys (kvs := vs)) (fun i σ' H' => ∃ G1 L1 N', Tr Lr N (upd H p (.frz od (.dK vs))) L1 N' H' ∧ En K L1 G1 σ' N' H' ∧ W i G1 L1) ⟨G, Lr, N1, .of w1, ⟨n.nm.mono w1.a, m0.step w1⟩, h0⟩ (fun i σ' H' _ ⟨G1, L1, N', t, n1, _⟩ => (lock_close n.ms kv t n1.ms).1) ?_ ?_
  · rintro i x σ' H' H2 hi ⟨G1, L1, N', t, n1, w⟩ ⟨rfl, k, v, hk, rfl⟩
    have hkv : ∃ g, kvs[i]? = some (k, g) := by
      have e := congrArg (fun l => l[i]?) (kv_keys kv)
      simp only [List.getElem?_map, hk, Option.map_some] at e
      cases hq : kvs[i]? with
      | none => rw [hq] at e; cases e
      | some kg =>
        rw [hq] at e
        simp only [Option.map_some, Option.some.injEq] at e
        exact ⟨kg.2, by rw [e]⟩
    obtain ⟨g, hg⟩ := hkv
    have kd : Dp K N' (kV k) (kD k) := by cases k <;> constructor
    refine name_told t.b n1 kd fun σ2 N3 w3 n3 _ _ => ?_
    exact hs i (k, g) G1 L1 hg w σ2 N3 H2 _ n3 w3.b fun σ4 G4 L4 N4 H4 t4 n4 r4 => ⟨G4, L4, N4, (t.trans (.of w3)).trans t4, n4, r4⟩
  · rintro σ' H' ⟨G1, L1, N', t, n1, w⟩
    obtain ⟨h1, h2, h3⟩ := lock_close n.ms kv t n1.ms
    exact ⟨h1, q σ' G1 _ N' _ h2 ⟨n1.nm, h3⟩ ⟨L1, rfl, len ▸ w⟩⟩
end
end K13
namespace K13
open PySem PySem.Spec PyProof.Rows L2
open Evl (Ex fresh_back ex_l ex_t)
section
variable {X : Cx} {a : Expr} {ta : TE}
theorem pt_truthK (K : PySem.W.Frag) (hK : X.K = K) (ha : PE X a ta) (he : ∀ whole, isTrue a X.env whole = (do let v ← whole; standAt a.pos; holding [v] (truthy v))) :
    PT X a (fun σ H Q => ta σ H fun x H' => ∃ k, TruV K x H' k ∧ Q k H') := by subst hK; exact pt_truth ha he
end
section
variable {K : PySem.W.Frag} {L : SH} {G : Gm} {ta tb te to ti : TE} {tr : TA} {tt uu : TT} {ts tu tw tz : TS} {d e : PyData} {g : GV} {gs : List GV} {R : GV → SH → Prop}
theorem tg_truI {i : Int} (h : EG K L G te (.int i)) : TG K L G (fun σ H Q => te σ H fun x H' => ∃ k, TruV K x H' k ∧ Q k H') (i != 0) := fun σ N H n ex Q q => h σ N H n ex _ fun v N1 H1 w1 k1 => by
  rw [dp_int k1]
  exact ⟨_, rfl, q N1 H1 w1⟩
theorem inV_int {x : Int} : ∀ {xs : List Int}, inV (.int x) (xs.map V.int) = decide (x ∈ xs)
  | [] => rfl
  | y :: ys => by
    have ih := inV_int (x := x) (xs := ys)
    unfold inV at ih ⊢
    rw [List.map_cons, List.any_cons, ih]
    by_cases e : x = y
    · subst e; simp [eqV]
    · simp [eqV, e, Ne.symm e]
theorem flat_ints {xs : List Int} : (xs.map V.int).all flatV = true := List.all_eq_true.mpr fun v hv => by
  obtain ⟨x, _, rfl⟩ := List.mem_map.mp hv
  rfl
theorem rg_inTI {x : Int} {xs : List Int} : RG K (rIn K false) (.int x) (.tuple (xs.map .int)) (.bool (decide (x ∈ xs))) := rg_val (fun _ => .bl _) fun u v H N ex h1 h2 Q q => by
  obtain ⟨p, ys, rfl, hq, hd⟩ := dp_tup h2
  rw [dps_ints hd] at hq
  rw [dp_int h1]
  refine ⟨p, _, rfl, .inr (ex_t ex hq), rfl, flat_ints, ?_⟩
  rw [if_neg Bool.false_ne_true, inV_int]
  exact q
/-- tests with changes -/
theorem tm_and {R1 R2 : Bool → SH → Prop} (h : TM K L G tt R1) (h2 : ∀ L1, R1 true L1 → TM K L1 G uu R2) (h3 : ∀ L1, R1 false L1 → R2 false L1) : TM K L G (tAnd tt uu) R2 := fun σ N H n ex Q q => h σ N H n ex _ fun b L1 N1 H1 t1 m1 r => by
  cases b with
  | true => exact h2 L1 r σ N1 H1 (n.trs t1 m1) t1.b Q fun b L2 N2 H2 t2 => q b L2 N2 H2 (t1.trans t2)
  | false => exact q false L1 N1 H1 t1 m1 (h3 L1 r)
theorem tm_not {R1 : Bool → SH → Prop} (h : TM K L G tt R1) : TM K L G (tNot tt) (fun b L' => R1 (!b) L') := fun σ N H n ex Q q => h σ N H n ex _ fun b L1 N1 H1 t1 m1 r => q (!b) L1 N1 H1 t1 m1 (by simpa using r)
theorem tm_or {R1 R2 : Bool → SH → Prop} (h : TM K L G tt R1) (h2 : ∀ L1, R1 false L1 → TM K L1 G uu R2) (h3 : ∀ L1, R1 true L1 → R2 true L1) : TM K L G (tOr tt uu) R2 := fun σ N H n ex Q q => h σ N H n ex _ fun b L1 N1 H1 t1 m1 r => by
  cases b with
  | false => exact h2 L1 r σ N1 H1 (n.trs t1 m1) t1.b Q fun b L2 N2 H2 t2 => q b L2 N2 H2 (t1.trans t2)
  | true => exact q true L1 N1 H1 t1 m1 (h3 L1 r)
theorem tm_val {Rt : Bool → SH → Prop} (h : EM K L G te R) (k : ∀ g L', R g L' → ∃ b, g = .d (.bool b) ∧ Rt b L') : TM K L G (tTest te) Rt := fun σ N H n ex Q q => h σ N H n ex _ fun v g L1 N1 H1 t1 m1 k1 r => by
  obtain ⟨b, rfl, r'⟩ := k g L1 r
  exact ⟨b, dp_bool k1, q b L1 N1 H1 t1 m1 r'⟩
/-- if c: return ..; the rest; c with changes -/
theorem bm_whenM {Rt : Bool → SH → Prop} (h : TM K L G tt Rt) (h1 : ∀ L1, Rt true L1 → BM K L1 G tu R) (h0 : ∀ L1, Rt true L1 → ∀ L', ¬ R (.d .none) L') (h2 : ∀ L1, Rt false L1 → BM K L1 G tz R) : BM K L G (tSeq (tIfS tt tu tNext) tz) R := fun σ N H D n ex q1 q2 => h σ N H n ex _ fun b L1 N1 H1 t1 m1 r => by
  cases b with
  | true => exact h1 L1 r σ N1 H1 _ (n.trs t1 m1) t1.b (fun v g L2 N2 H2 t2 => q1 v g L2 N2 H2 (t1.trans t2)) fun σ2 L2 N2 H2 t2 m2 r2 => absurd r2 (h0 L1 r L2)
  | false => exact h2 L1 r σ N1 H1 D (n.trs t1 m1) t1.b (fun v g L2 N2 H2 t2 => q1 v g L2 N2 H2 (t1.trans t2)) fun σ2 L2 N2 H2 t2 => q2 σ2 L2 N2 H2 (t1.trans t2)
theorem sm_ifM {Rt : Bool → SH → Prop} {Rs : Gm → SH → Prop} (h : TM K L G tt Rt) (h1 : ∀ L1, Rt true L1 → SM K L1 G tu Rs) (h2 : ∀ L1, Rt false L1 → SM K L1 G tw Rs) : SM K L G (tIfS tt tu tw) Rs := fun σ N H D n ex q => h σ N H n ex _ fun b L1 N1 H1 t1 m1 r => by
  cases b with
  | true => exact h1 L1 r σ N1 H1 D (n.trs t1 m1) t1.b fun σ2 G2 L2 N2 H2 t2 => q σ2 G2 L2 N2 H2 (t1.trans t2)
  | false => exact h2 L1 r σ N1 H1 D (n.trs t1 m1) t1.b fun σ2 G2 L2 N2 H2 t2 => q σ2 G2 L2 N2 H2 (t1.trans t2)
theorem em_ifM {Rt : Bool → SH → Prop} (h : TM K L G tt Rt) (h1 : ∀ L1, Rt true L1 → EM K L1 G ta R) (h2 : ∀ L1, Rt false L1 → EM K L1 G tb R) : EM K L G (tIf tt ta tb) R := fun σ N H n ex Q q => h σ N H n ex _ fun b L1 N1 H1 t1 m1 r => by
  cases b with
  | true => exact h1 L1 r σ N1 H1 (n.trs t1 m1) t1.b Q fun v g L2 N2 H2 t2 => q v g L2 N2 H2 (t1.trans t2)
  | false => exact h2 L1 r σ N1 H1 (n.trs t1 m1) t1.b Q fun v g L2 N2 H2 t2 => q v g L2 N2 H2 (t1.trans t2)
/-- (e, f, ..), the parts with changes, data -/
theorem em_tupM {Ra : List GV → SH → Prop} (h : AM K L G tr Ra) (hl : ∀ gs L1, Ra gs L1 → gs.length ≤ sizeLine ∧ ∃ ds, gs = ds.map .d ∧ R (.d (.tuple ds)) L1) : EM K L G (tTup tr) R := fun σ N H n ex Q q =>
  h σ N H n ex _ fun xs gs L1 N1 H1 t1 m1 k1 r => by
    obtain ⟨hz, ds, rfl, r2⟩ := hl gs L1 r
    refine ⟨by rw [wds_len k1]; exact hz, fun p hp => ?_⟩
    have w : Nw N1 H1 (upd N1 p (.tup xs)) (upd H1 p (.tup xs)) := .new t1.b hp
    exact q _ (.d (.tuple ds)) L1 _ _ (t1.trans (.of w)) (m1.step w) (.tup upd_same (dps_mono (Ex.new (fresh_back t1.b hp)) _ _ (dps_of_wds k1))) r2
/-- an expression with changes by a pure one behind it: xs[:n] with n's changes -/
def OM (K : PySem.W.Frag) (L : SH) (G : Gm) (to : TO) (R : Option Int → SH → Prop) : Prop := ∀ σ N H, En K L G σ N H → Ex N H → ∀ Q : Option Int → Hp → Prop, (∀ o L' N' H', Tr L N H L' N' H' → Ms K L' N' H' → R o L' → Q o H') → to σ H Q
theorem om_og {o : Option Int} {to : TO} (h : OG K L G to o) : OM K L G to (fun o' L' => o' = o ∧ L' = L) := fun σ N H n ex Q q => h σ N H n ex _ fun N1 H1 w1 => q o L N1 H1 (.of w1) (n.ms.step w1) ⟨rfl, rfl⟩
theorem om_some (h : EM K L G te R) {Ro : Option Int → SH → Prop} (k : ∀ g L', R g L' → ∃ i, g = .d (.int i) ∧ Ro (some i) L') : OM K L G (tPart te) Ro := fun σ N H n ex Q q => h σ N H n ex _ fun v g L1 N1 H1 t1 m1 k1 r => by
  obtain ⟨i, rfl, r'⟩ := k g L1 r
  exact ⟨i, dp_int k1, q (some i) L1 N1 H1 t1 m1 r'⟩
theorem om_imp {to : TO} {R1 R2 : Option Int → SH → Prop} (h : OM K L G to R1) (k : ∀ o L1, R1 o L1 → R2 o L1) : OM K L G to R2 := fun σ N H n ex Q q => h σ N H n ex _ fun o L1 N1 H1 t1 m1 r => q o L1 N1 H1 t1 m1 (k _ _ r)
theorem em_slL {tlo thi : TO} {R1 : GV → SH → Prop} {lo : Option Int} (h : EM K L G te R1) (h1 : ∀ g L1, R1 g L1 → OG K L1 G tlo lo) (h2 : ∀ g L1, R1 g L1 → OM K L1 G thi (fun o L2 => ∃ ds, g = .d (.list ds) ∧ R (.d (.list (cutD ds lo o))) L2)) : EM K L G (tSl (rSlL K) te tlo thi) R := fun σ N H n ex Q q =>
  h σ N H n ex _ fun x g L1 N1 H1 t1 m1 k1 r1 => h1 g L1 r1 σ N1 H1 (n.trs t1 m1) t1.b _ fun N2 H2 w2 => h2 g L1 r1 σ N2 H2 ((n.trs t1 m1).step w2) w2.b _ fun o L3 N3 H3 t3 m3 ⟨ds, e, r3⟩ => by
    subst e
    obtain ⟨p, xs, rfl, hs, hd⟩ := dp_lst (dp_mono (w2.a.trans t3.a) _ _ k1)
    refine ⟨p, xs, rfl, ex_l t3.b hs, fun t ht => ?_⟩
    have w : Nw N3 H3 (upd N3 t (.lst (cutV xs lo o))) (upd H3 t (.lst (cutV xs lo o))) := .new t3.b ht
    exact q _ (.d (.list (cutD ds lo o))) L3 _ _ (((t1.trans (.of w2)).trans t3).trans (.of w)) (m3.step w) (.lst upd_same (dps_cut lo o (dps_mono (Ex.new (fresh_back t3.b ht)) _ _ hd))) r3
end
end K13
namespace K13
open PySem PySem.Spec PyProof.Rows L2
open Evl (Ex fresh_back ex_l ex_t)
/-- what is walked, its making with changes: R0 tells the items and the objects then -/
def IM (K : PySem.W.Frag) (L : SH) (G : Gm) (wi : TI) (g : L2.TG) {β : Type} (R0 : List β → SH → Prop) (Ta : β → Gm → Gm) (ts : List Nat) : Prop :=
  ∀ σ N H, En K L G σ N H → Ex N H → ∀ R : It → Hp → Prop,
    (∀ zs L0 J N1 H1 Gd Y, R0 zs L0 → Tr L N H L0 N1 H1 → Ms K L0 N1 H1 → Walk J zs.length Gd Y → (∀ H', Ex N1 H' → Gd H') →
      (∀ i z x σ' L Γ N2 H2 H3, zs[i]? = some z → Ex N1 N2 → Ex N2 H2 → En K L Γ σ' N2 H2 → Y i H2 x H3 → ∀ Q : L2.St → Hp → Prop,
        (∀ σ2 N3, Nw N2 H2 N3 H3 → En K L (Ta z Γ) σ2 N3 H3 → (∀ j, j ∉ ts → σ2[j]? = σ'[j]?) → σ2.length = σ'.length → Q σ2 H3) → g x σ' H3 Q) → R J H1) → wi σ H R
section
variable {K : PySem.W.Frag} {L : SH} {G : Gm} {te ta tb to ti tx : TE} {tr : TA} {tu : TS} {d : PyData} {gs : List GV} {α β : Type} {g : α → PyData} {wi : TI} {tg : L2.TG} {R0 : List β → SH → Prop} {Ta : β → Gm → Gm} {tgs ws : List Nat} {Ra : List GV → SH → Prop} {R : GV → SH → Prop}
theorem im_enum {m1 m2 : Nat} {R0 : List (α × Nat) → SH → Prop} (ha : AM K L G tr Ra) (hR : ∀ gs L0, Ra gs L0 → ∃ xs : List α, gs = [.d (.list (xs.map g))] ∧ R0 xs.zipIdx L0) :
    IM K L G (iEnum K tr) (gTup K 2 (gCons (gName m1) (gCons (gName m2) gNil))) R0 (fun z Γ => (Γ.set m1 (some (.d (.int (z.2 : Nat))))).set m2 (some (.d (g z.1)))) [m1, m2] := fun σ N H n ex R r =>
  ha σ N H n ex _ fun vs gs L1 N1 H1 t1 ms1 k1 r1 => by
    obtain ⟨xs, rfl, r2⟩ := hR gs L1 r1
    cases k1 with
    | cons a1 a2 =>
    cases a2
    obtain ⟨a, us, rfl, hq, hd⟩ := dp_lst (show Dp K N1 _ (.list (xs.map g)) from a1)
    have l : us.length = xs.length := by simpa using dps_len hd
    refine ⟨a, us, rfl, ex_l t1.b hq, r xs.zipIdx L1 _ N1 H1 _ _ r2 t1 ms1 (show Walk (Ite K a) xs.zipIdx.length _ _ from by rw [List.length_zipIdx, ← l]; exact walk_enum) (fun H' e => ex_l e hq) fun i z x σ' L Γ N2 H2 H3 hz e1 e2 n2 y Q q => ?_⟩
    obtain ⟨T, p, p', rfl, hT, rfl, h4, h5⟩ := y
    cases h4
    obtain ⟨x2, hx2, kx2⟩ := dps_at' hd h5
    obtain ⟨z2, hz2, rfl⟩ := map_at hx2
    have hz' : xs.zipIdx[i]? = some (z2, i) := by rw [List.getElem?_zipIdx, hz2]; simp
    rw [hz] at hz'
    cases hz'
    exact pair_told e2 n2 hT (.int _) (dp_mono e1 _ _ kx2) q
theorem im_range {m : Nat} {R0 : List Nat → SH → Prop} (h : AM K L G tr Ra) (hR : ∀ gs L0, Ra gs L0 → ∃ n : Nat, n < 1000000000 ∧ gs = [.d (.int (n : Nat))] ∧ R0 (List.range n) L0) :
    IM K L G (iRng1 tr) (gName m) R0 (fun i Γ => Γ.set m (some (.d (.int (i : Nat))))) [m] := fun σ N H n' ex R r =>
  h σ N H n' ex _ fun vs gs L1 N1 H1 t1 ms1 k1 r1 => by
    obtain ⟨n, hn, rfl, r2⟩ := hR gs L1 r1
    cases k1 with
    | cons a b =>
      cases b
      refine ⟨n, by rw [dp_int (show Dp K N1 _ (.int (n : Nat)) from a)], by omega, by omega, r (List.range n) L1 _ N1 H1 _ _ r2 t1 ms1 (show Walk (Itr 0 ((n : Int)).toNat) (List.range n).length _ _ from by rw [List.length_range, Int.toNat_natCast]; exact walk_range) (fun _ _ => trivial) fun i z x σ' L Γ N2 H2 H3 hz e1 e2 n2 y Q q => ?_⟩
      obtain ⟨rfl, rfl⟩ := y
      have hi : z = i := by
        obtain ⟨h1, h2⟩ := List.getElem?_eq_some_iff.mp hz
        rw [List.getElem_range] at h2
        exact h2.symm
      subst hi
      refine name_told e2 n2 ?_ q
      show Dp K N2 (.int (0 + (z : Int))) (.int (z : Nat))
      rw [Int.zero_add]
      exact .int _
theorem sm_forM {W : List β → Nat → Gm → SH → Prop} (h : IM K L G wi tg R0 Ta tgs) (h0 : ∀ zs L0, R0 zs L0 → W zs 0 G L0) (hs : ∀ zs i z G1 L1, zs[i]? = some z → W zs i G1 L1 → SM K L1 (Ta z G1) tu (W zs (i + 1))) :
    SM K L G (tFor wi tg tu) (fun G' L' => ∃ zs, W zs zs.length G' L') := fun σ N H D n ex q =>
  h σ N H n ex _ fun zs L0 J N1 H1 Gd Y r0 t0 m0 wk gd ty => for_it wk (fun i σ' H' => ∃ G1 L1 N', Tr L N H L1 N' H' ∧ En K L1 G1 σ' N' H' ∧ W zs i G1 L1 ∧ Ex N1 N') ⟨G, L0, N1, t0, n.trs t0 m0, h0 zs L0 r0, Ex.refl _⟩ (fun i σ' H' _ ⟨G1, L1, N', p, _, _, e⟩ => gd H' (e.trans p.b))
    (fun i x σ' H' H2 hi ⟨G1, L1, N', p1, p2, p3, p4⟩ y => ty i zs[i] x σ' L1 G1 N' H' H2 (List.getElem?_eq_getElem hi) p4 p1.b p2 y _ fun σ2 N3 w3 n3 _ _ =>
      hs zs i zs[i] G1 L1 (List.getElem?_eq_getElem hi) p3 σ2 N3 H2 _ n3 w3.b fun σ4 G4 L4 N4 H4 t4 n4 r4 => ⟨G4, L4, N4, (p1.trans (.of w3)).trans t4, n4, r4, (p4.trans w3.a).trans t4.a⟩) fun σ' H' ⟨G1, L1, N', p1, p2, p3, _⟩ => q σ' G1 L1 N' H' p1 p2 ⟨zs, p3⟩
/-- [e for .. in ..], e and what is walked with changes -/
theorem em_lcM {te : TE} {W : List β → Nat → List GV → SH → Prop} (h : IM K L G wi tg R0 Ta tgs) (hz : ∀ zs L0, R0 zs L0 → zs.length ≤ 1000000) (hm : ∀ j, j ∉ ws → j ∉ tgs) (h0 : ∀ zs L0, R0 zs L0 → W zs 0 [] L0)
    (hs : ∀ zs i z gs L1, zs[i]? = some z → W zs i gs L1 → EM K L1 (Ta z (wipeG G ws)) te (fun g L2 => W zs (i + 1) (gs ++ [g]) L2)) (hl : ∀ zs i gs L1, W zs i gs L1 → gs.length = i)
    (hR : ∀ zs gs L1 p, W zs zs.length gs L1 → R (.r p) ((p, .lst gs) :: L1)) : EM K L G (tLc wi tg tYes te ws) R := fun σ N H n ex Q q =>
  h σ N H n ex _ fun zs L0 J N1 H1 Gd Y r0 t0 m0 wk gd ty D hD => lc_it wk (fun i H' => ∃ gs L1 N', i ≤ zs.length ∧ Tr L N H ((D, .lst gs) :: L1) N' H' ∧ En K ((D, .lst gs) :: L1) G σ N' H' ∧ W zs i gs L1 ∧ Ex N1 N')
    ⟨[], L0, N1, Nat.zero_le _, t0.trans (Tr.new t0.b hD), ⟨(n.trs t0 m0).nm, m0.new t0.b hD (mo_lst upd_same .nil)⟩, h0 zs L0 r0, Ex.refl _⟩ (fun i H' _ ⟨gs, L1, N', _, p, _, _, e⟩ => gd H' (e.trans p.b))
    (fun i x H' H2 hi ⟨gs, L1, N', _, p1, p2, p3, p4⟩ y => ty i zs[i] x (wipe σ ws) ((D, .lst gs) :: L1) (wipeG G ws) N' H' H2 (List.getElem?_eq_getElem hi) p4 p1.b (p2.wipe ws) y _ fun σ2 N3 w3 n3 o3 l3 => by
      refine ⟨wipe_again (by rw [l3, wipe_length]) fun j hj => ?_, ?_⟩
      · rw [o3 j (hm j hj), wipe_at, if_neg hj]
      · have hp : ((D, MO.lst gs) :: L1).Perm (L1 ++ [(D, .lst gs)]) := (List.perm_append_comm (l₁ := [(D, MO.lst gs)]) (l₂ := L1))
        refine em_frame (hs zs i zs[i] gs L1 (List.getElem?_eq_getElem hi) p3) hp σ2 N3 H2 n3 w3.b _ fun v g L4 N4 H4 t4 m4 k4 r4 => ?_
        obtain ⟨L5, rfl, r5⟩ := r4
        have hp' : (L5 ++ [(D, MO.lst gs)]).Perm ((D, .lst gs) :: L5) := (List.perm_append_comm (l₁ := [(D, MO.lst gs)]) (l₂ := L5)).symm
        have m5 := m4.perm hp'
        have t5 := t4.perm hp'
        obtain ⟨_, vs, e1, e2⟩ := m5.at_ D _ List.mem_cons_self
        have mo : MoAt K N4 (upd H4 D (.lst (vs ++ [v]))) D (.lst (gs ++ [g])) := mo_lst upd_same (wds_app e2 (.cons k4 .nil))
        refine ⟨vs, e1, ?_, gs ++ [g], L5, N4, hi, (((p1.trans (.of w3)).trans t5).trans (Tr.head m5 t5.b)), ⟨(p2.nm.mono w3.a).mono t4.a, m5.head mo⟩, r5, (p4.trans w3.a).trans t4.a⟩
        have hz := hz zs L0 r0
        rw [wds_len e2, hl zs i gs L1 p3]
        exact Nat.lt_of_lt_of_le (show i < 1000001 by omega) (by decide))
    fun H' ⟨gs, L1, N', _, p1, p2, p3, _⟩ => q _ (.r D) _ N' H' p1 p2.ms rfl (hR zs gs L1 D p3)
/-- d.get(k, x) -/
theorem ev_dget2 {p : Addr} {k : Key} {kvs : List (Key × GV)} (ho : EV K L G to (.r p)) (hi : EG K L G ti (kD k)) (hx : EG K L G tx d) (hm : (p, .dK kvs) ∈ L) : EV K L G (tDGet2 to ti tx) ((valG kvs k).getD (.d d)) := fun σ N H n ex Q q =>
  ho σ N H n ex _ fun x N1 H1 w1 k1 => by
    obtain rfl : x = .ref p := k1
    obtain ⟨_, vs1, f1, _⟩ := (n.ms.step w1).at_ _ _ hm
    refine ⟨p, rfl, .inl ⟨vs1, .inl f1⟩, hi σ N1 H1 (n.step w1) w1.b _ fun y N2 H2 w2 k2 => hx σ N2 H2 (n.step (w1.trans w2)) w2.b _ fun z N3 H3 w3 k3 => ?_⟩
    have w := (w1.trans w2).trans w3
    obtain ⟨_, vs, e1, e2⟩ := (n.ms.step w).at_ _ _ hm
    refine ⟨valV vs k, by rw [dp_key k2]; exact DGet.k e1, q _ N3 H3 w ?_⟩
    cases hk : valG kvs k with
    | none =>
      rw [(kv_val e2).2 hk]
      exact k3
    | some g =>
      obtain ⟨v, e3, e4⟩ := (kv_val e2).1 g hk
      rw [e3]
      exact e4
/-- d[k], k with changes -/
theorem em_dget {p : Addr} {R1 : GV → SH → Prop} (ho : EV K L G to (.r p)) (hi : EM K L G ti R1) (hk : ∀ g L1, R1 g L1 → ∃ k g' kvs, g = .d (kD k) ∧ (p, .dK kvs) ∈ L1 ∧ valG kvs k = some g' ∧ R g' L1) : EM K L G (tDGet to ti) R := fun σ N H n ex Q q =>
  ho σ N H n ex _ fun x N1 H1 w1 k1 => hi σ N1 H1 (n.step w1) w1.b _ fun y g L2 N2 H2 t2 m2 k2 r => by
    obtain ⟨k, g', kvs, rfl, hm, hv, r2⟩ := hk g L2 r
    obtain ⟨_, vs, e1, e2⟩ := m2.at_ _ _ hm
    obtain ⟨v, e3, e4⟩ := (kv_val e2).1 g' hv
    exact ⟨p, v, k1, by rw [dp_key k2, ← e3]; exact DGet.k e1, q v g' L2 N2 H2 ((Tr.of w1).trans t2) m2 e4 r2⟩
/-- min, max of two ints -/
theorem cg_min2 {i j : Int} : CG K (fun xs H Q => ∃ i j, xs = [V.int i, .int j] ∧ Q (.int (if j < i then j else i)) H) [.int i, .int j] (.int (if j < i then j else i)) := cg_val (fun _ => .int _) fun vs H N ex h Q q => by
  cases h with
  | cons a b =>
    cases b with
    | cons c e =>
      cases e
      rw [dp_int a, dp_int c]
      exact ⟨i, j, rfl, q⟩
/-- a, b, c = .. -/
theorem sm_par3 {i j l : Nat} (h : AM K L G tr Ra) (h3 : ∀ gs L1, Ra gs L1 → gs.length = 3) : SM K L G (tPar3 i j l tr) (fun G' L' => ∃ g1 g2 g3, G' = ((G.set i (some g1)).set j (some g2)).set l (some g3) ∧ Ra [g1, g2, g3] L') := fun σ N H D n ex q =>
  h σ N H n ex _ fun xs gs L1 N1 H1 t1 m1 k1 r => by
    have hl := h3 gs L1 r
    match gs, hl, k1 with
    | [g1, g2, g3], _, .cons a (.cons b (.cons c .nil)) =>
      exact ⟨_, _, _, rfl, q _ _ L1 N1 H1 t1 ((((n.trs t1 m1).setW a).setW b).setW c) ⟨g1, g2, g3, rfl, r⟩⟩
end
end K13
namespace K13
open PySem PySem.Spec PyProof.Rows L2
open Evl (Ex fresh_back ex_l ex_t)
section
variable {K : PySem.W.Frag} {L : SH} {G : Gm} {te tl tk tv : TE} {tt : TT} {α β : Type} {g : GV} {wi : TI} {tg : L2.TG} {zs : List β} {Ta : β → Gm → Gm} {ts : List Nat}
/-- [e for target in what is walked if t], a list that may change -/
theorem em_lcO {ws : List Nat} {p : β → Bool} {f : β → PyData} (h : IG K L G wi tg zs Ta ts) (hz : zs.length ≤ 1000000) (hm : ∀ j, j ∉ ws → j ∉ ts)
    (ht : ∀ z ∈ zs, TG K L (Ta z (wipeG G ws)) tt (p z)) (he : ∀ z ∈ zs, p z = true → EG K L (Ta z (wipeG G ws)) te (f z)) : EM K L G (tLc wi tg tt te ws) (fun g L' => ∃ q, g = .r q ∧ L' = (q, .lst (((zs.filter p).map f).map .d)) :: L) := fun σ N H n ex Q q =>
  h σ N H n ex _ fun J N1 H1 Gd Y w1 wk gd ty D hD => lc_it wk (fun i H' => ∃ N', Cw K N1 H1 D (kept p f zs i) N' H') ⟨N1, cw_start w1.b hD⟩ (fun i H' _ ⟨N', p⟩ => gd H' (p.1.a.trans p.1.b))
    (fun i x H' H2 hi ⟨N', p'⟩ y => ty i zs[i] x (wipe σ ws) L (wipeG G ws) N' H' H2 (List.getElem?_eq_getElem hi) p'.1.a p'.1.b (((n.step w1).step p'.1).wipe ws) y _ fun σ2 N3 w3 n3 o3 l3 => by
      refine ⟨wipe_again (by rw [l3, wipe_length]) fun j hj => ?_, cw_turn hD (p'.step w3) hz (List.getElem?_eq_getElem hi) n3 (ht _ (List.getElem_mem hi)) (he _ (List.getElem_mem hi))⟩
      rw [o3 j (hm j hj), wipe_at, if_neg hj])
    fun H' ⟨N', p'⟩ => by
      rw [kept_all] at p'
      obtain ⟨w2, nD, vs, hDv, hd⟩ := p'
      have w := w1.trans w2
      have hN : N1 D = none := fresh_back w1.b hD
      have hH : H D = none := by
        cases e : H D with
        | none => rfl
        | some o => rw [w1.c D o e] at hD; cases hD
      have m := n.ms.step w
      refine q _ (.r D) _ N' H' ⟨w.a, w.b, fun x o _ => w.c x o, fun x o _ => w.d x o, fun x hx => ?_, fun x o e => ⟨o, w.c x o e⟩, w.n⟩ ⟨?_, fun x o hx => ?_⟩ rfl ⟨D, rfl, rfl⟩
      · rcases List.mem_cons.mp hx with z | z
        · exact .inr (z ▸ hH)
        · exact .inl z
      · show (D :: keysH L).Nodup
        refine List.nodup_cons.mpr ⟨fun z => ?_, m.nd⟩
        obtain ⟨⟨x, v⟩, hx, rfl⟩ := List.mem_map.mp z
        obtain ⟨u, hu⟩ := mo_some (n.ms.at_ _ _ hx).2
        rw [hH] at hu
        cases hu
      · rcases List.mem_cons.mp hx with z | z
        · cases z
          exact ⟨nD, vs, hDv, wds_of hd⟩
        · exact m.at_ x o z
/-- the pairs of a display -/
def PV (K : PySem.W.Frag) (L : SH) (G : Gm) (trs : List (TE × TE)) (kgs : List (Key × GV)) : Prop := ∀ σ N H, En K L G σ N H → Ex N H → ∀ Q : List (V × V) → Hp → Prop,
  (∀ kvs N' H', Nw N H N' H' → KvAll K N' kvs kgs → Q (kvs.map fun kv => (kV kv.1, kv.2)) H') → tPairs trs σ H Q
theorem pv_nil : PV K L G [] [] := fun σ N H n ex Q q => q [] N H (.refl ex) .nil
theorem pv_cons {k : Key} {trs : List (TE × TE)} {kgs : List (Key × GV)} (hk : EG K L G tk (kD k)) (hv : EV K L G tv g) (hr : PV K L G trs kgs) : PV K L G ((tk, tv) :: trs) ((k, g) :: kgs) := fun σ N H n ex Q q =>
  hk σ N H n ex _ fun x N1 H1 w1 k1 => hv σ N1 H1 (n.step w1) w1.b _ fun y N2 H2 w2 k2 => hr σ N2 H2 (n.step (w1.trans w2)) w2.b _ fun kvs N3 H3 w3 k3 => by
    have e : x = kV k := by
      cases k with
      | inl i => exact dp_int k1
      | inr z => exact dp_str k1
    subst e
    exact q ((k, y) :: kvs) N3 H3 ((w1.trans w2).trans w3) (.cons (wd_mono w3.a _ k2) k3)
theorem kv_merge {N : Hp} : ∀ {more : List (Key × GV)} {mv : List (Key × V)} {gs : List (Key × GV)} {vs : List (Key × V)}, KvAll K N mv more → KvAll K N vs gs → KvAll K N (mergeK vs mv) (more.foldl (fun acc kg => putGK acc kg.1 kg.2) gs)
  | [], _, _, _, h, k => by cases h; exact k
  | (x, u) :: more, _, gs, vs, h, k => by
    cases h with
    | cons h1 h2 =>
      rename_i v mv
      exact kv_merge (more := more) (mv := mv) h2 (kv_putK k h1)
/-- {k: v, ..} -/
theorem em_disp {trs : List (TE × TE)} {kgs : List (Key × GV)} (h : PV K L G trs kgs) (hl : kgs.length ≤ 15) : EM K L G (tDisp trs) (fun g L' => ∃ p, g = .r p ∧ L' = (p, .dK (kgs.foldl (fun acc kg => putGK acc kg.1 kg.2) [])) :: L) := fun σ N H n ex Q q p hp => by
  have wd : Nw N H N (upd H p (.dK [])) := ⟨Ex.refl _, ex.trans (Ex.new hp), Ex.new hp, fun _ _ h _ => h, fun _ _ h => h⟩
  refine h σ N _ (n.step wd) wd.b _ fun kvs N1 H1 w1 k1 => ⟨w1.c _ _ upd_same, kvs, rfl, ?_, ?_⟩
  · have : ∀ {gs : List (Key × GV)} {vs : List (Key × V)}, KvAll K N1 vs gs → vs.length = gs.length := kvs_len
    rw [this k1]
    exact hl
  have w := wd.trans w1
  have np : N1 p = none := w1.d p _ (fresh_back ex hp) upd_same
  have m := n.ms.step w
  have hne : ∀ x o, H x = some o → x ≠ p := fun x o e => ne_of_none e hp
  have hne1 : ∀ x o, N1 x = some o → x ≠ p := fun x o e => ne_of_none e np
  refine q _ (.r p) _ N1 _ ⟨w.a, fun x o e => ?_, fun x o _ e => ?_, fun x o _ => w.d x o, fun x hx => ?_, fun x o e => ⟨o, ?_⟩, w.n⟩ ⟨?_, fun x o hx => ?_⟩ rfl ⟨p, rfl, rfl⟩
  · rw [upd_ne (hne1 x o e)]
    exact w.b x o e
  · rw [upd_ne (hne x o e)]
    exact w.c x o e
  · rcases List.mem_cons.mp hx with z | z
    · exact .inr (z ▸ hp)
    · exact .inl z
  · rw [upd_ne (hne x o e)]
    exact w.c x o e
  · show (p :: keysH L).Nodup
    refine List.nodup_cons.mpr ⟨fun z => ?_, m.nd⟩
    obtain ⟨⟨x, v⟩, hx, rfl⟩ := List.mem_map.mp z
    obtain ⟨u, hu⟩ := mo_some (n.ms.at_ _ _ hx).2
    rw [hp] at hu
    cases hu
  · rcases List.mem_cons.mp hx with z | z
    · cases z
      exact ⟨np, _, upd_same, kv_merge k1 .nil⟩
    · obtain ⟨a, b⟩ := m.at_ x o z
      obtain ⟨u, hu⟩ := mo_some (n.ms.at_ x o z).2
      exact ⟨a, mo_mono (Ex.refl N1) (fun v hv => by rw [upd_ne (hne x u hu)]; exact hv) b⟩
/-- a list of ints that may lie in the text itself -/
def scr (ns : List Int) : GV := .k (fun K N v => ∃ a, v = .ref a ∧ SqL K N a (ns.map .int)) fun K H H' v e h => by
  obtain ⟨a, rfl, q⟩ := h
  exact ⟨a, rfl, ex_l e q⟩
theorem ig_scr {m : Nat} {ns : List Int} (h : EV K L G tl (scr ns)) : IG K L G (iList K tl) (gName m) ns (fun n Γ => Γ.set m (some (.d (.int n)))) [m] := fun σ N H n ex R r =>
  h σ N H n ex _ fun v N1 H1 w1 k1 => by
    obtain ⟨a, rfl, hq⟩ := k1
    have l : (ns.map V.int).length = ns.length := List.length_map ..
    refine ⟨a, rfl, ⟨_, ex_l w1.b hq⟩, r _ N1 H1 _ _ w1 (l ▸ walk_list (xs := ns.map V.int)) (fun H' e => ex_l e hq) fun i z x σ' L Γ N2 H2 H3 hz e1 e2 n2 y Q q => ?_⟩
    obtain ⟨rfl, hx⟩ := y
    rw [List.getElem?_map, hz] at hx
    cases hx
    exact name_told e2 n2 (.int _) q
end
end K13
namespace K13
open PySem PySem.Spec PyProof.Rows L2
open Evl (Ex fresh_back ex_l ex_t)
section
variable {X : Cx} {e : Expr} {es : List Expr} {t1 t2 te : TE} {st : List Stmt} {x y : Str} {i k : Nat} {f : Addr} {fd : FuncData} {ps : List Str} {sp : Sp} {E : XK} {CX : CXT} {p pos kpos : Pos}
theorem one_arg {σ : L2.St} {H1 : Hp} {Q : VK} {te : TE} {sp : Sp} {E : XK} (ht : te σ H1 fun v H2 => sp [v] H2 Q E) : (tCons te tNil) σ H1 (fun vs H2 => ∃ w, vs = [w] ∧ sp [w] H2 Q E) := by
  show te σ H1 fun v H2 => ∃ w, [v] = [w] ∧ sp [w] H2 Q E
  have e : (fun v H2 => sp [v] H2 Q E) = fun v H2 => ∃ w, [v] = [w] ∧ sp [w] H2 Q E := by
    funext v H2
    exact propext ⟨fun h => ⟨v, rfl, h⟩, fun ⟨w, ew, h⟩ => by cases ew; exact h⟩
  rw [← e]
  exact ht
theorem pe_nev : PE X e (fun _ _ _ => False) := ⟨fun _ _ _ _ _ _ h => h.elim⟩
theorem pss_nev : PSs X st (fun _ _ _ => False) := ⟨fun _ _ _ _ _ _ h => h.elim⟩
/-- either reading will do -/
theorem pe_alt (h1 : PE X e t1) (h2 : PE X e t2) : PE X e (fun σ H Q => t1 σ H Q ∨ t2 σ H Q) := ⟨fun pins s σ H Q I h => h.elim (h1.run pins s σ H Q I) (h2.run pins s σ H Q I)⟩
/-- x(y = e), x a name that holds the def at f -/
def tCallLK (i : Nat) (f : Addr) (sp : Sp) (E : XK) (te : TE) : TE := fun σ H Q => σ[i]? = some (some (.ref f)) ∧ te σ H fun v H1 => sp [v] H1 Q E
theorem pe_callLK (F : FnOk X.prog X.w X.K X.mg X.base CX k f fd [y] sp) (hr : Room k X.A) (hN : X.N[i]? = some x) (hv : Vis X.env.scope x) (hk : PySem.W.keepIn X.K (.ref f) = true) (hb : ∀ (s : Shared) (u : Value), X.K.In s.heap → BindsTo s fd ⟨[], [(y, u)]⟩ [(y, u)]) (hx : Passes CX X E) (he : PE X e te)
    (hdb : (x == ("__debug__" : Str)) = false := by decide) (hcd : (x == ("__classdict__" : Str)) = false := by decide)
    (hall : (backToKw pos (keywordEach [⟨some y, e, kpos⟩] X.env)).all (·.1.isSome) = true := by rfl) (hks : (backToKw pos (keywordEach [⟨some y, e, kpos⟩] X.env)).filterMap (·.1) = [y] := by rfl)
    (hpl : ((backTo pos (starEach [] X.env)).any (·.1) || (backToKw pos (keywordEach [⟨some y, e, kpos⟩] X.env)).any (·.1.isNone)) = false := by rfl) :
    PE X (.Call (.Name x p) [] [⟨some y, e, kpos⟩] pos) (tCallLK i f sp E te) := by
  refine ⟨fun pins s σ H Q I h => ?_⟩
  obtain ⟨hs, ht⟩ := h
  refine wpAny_Call_Name_kw (thn ((pe_var (pos := p) hN hv hdb hcd).run pins s σ H (fun v H1 => v = .ref f ∧ H1 = H) I ⟨.ref f, hs, rfl, rfl⟩) fun u s1 ⟨v, H1, I1, r1, q1⟩ => ?_)
  obtain ⟨rfl, rfl⟩ := q1
  obtain rfl : u = Value.ref f := r1
  refine PySem.W.callWith_KW0 (h₀ := X.base) I.ok.mod.kin hk hall (thn ((pk_cons he pk_nil : PK X _ (tCons te tNil)).run pos pins s1 σ H1 (fun vs H2 => ∃ w, vs = [w] ∧ sp [w] H2 Q E) I1 (one_arg ht)) fun us s2 ⟨vs, H2, I2, r, w, ew, q⟩ => ⟨I2.kIn, ?_⟩) hpl
  subst ew
  rw [hks]
  cases r with
  | @cons _ u1 _ us1 ru rn =>
    cases rn
    refine wpAny_call (codeAny_mono (F.run X.A X.stack s2 H2 ⟨[], [(y, u1)]⟩ [u1] [w] Q E hr I2.env0 (hb s2 u1 I2.kIn) (.cons ru .nil) q) fun r s' hq => ?_)
    match r, hq with
    | .error e, hq => exact hx pins σ H2 s2 e s' I2 hq
    | .ok (.ret u), hq => exact I2.after hq
    | .ok .next, hq => exact False.elim hq
    | .ok .brk, hq => exact False.elim hq
    | .ok .cont, hq => exact False.elim hq
end
section
variable {K : PySem.W.Frag} {L : SH} {G : Gm} {te ta tb : TE} {tr : TA} {R : GV → SH → Prop}
theorem ev_ref {a : Addr} : EV K L G (tC (.ref a)) (.r a) := fun _ N H _ e _ q => q _ N H (.refl e) rfl
/-- a, b = .., .. of any two -/
theorem sm_two {m1 m2 : Nat} {Ra : List GV → SH → Prop} (h : AM K L G tr Ra) (h2 : ∀ gs L', Ra gs L' → gs.length = 2) : SM K L G (tAsg (tTup tr) (gTup K 2 (gCons (gName m1) (gCons (gName m2) gNil)))) (fun G' L' => ∃ g g', G' = (G.set m1 (some g)).set m2 (some g') ∧ Ra [g, g'] L') := fun σ N H D n ex q =>
  h σ N H n ex _ fun vs gs L1 N1 H1 t1 m1' k1 r => by
    have l := h2 _ _ r
    match gs, l, k1 with
    | [g, g'], _, .cons a1 (.cons b1 .nil) =>
      rename_i u v
      refine ⟨show 2 ≤ sizeLine by rw [sizeLine_eq]; decide, fun p hp => ?_⟩
      have w : Nw N1 H1 N1 (upd H1 p (.tup [u, v])) := ⟨Ex.refl _, t1.b.trans (Ex.new hp), Ex.new hp, fun _ _ h _ => h, fun _ _ h => h⟩
      exact ⟨p, [u, v], rfl, SqT.of upd_same, rfl, u, [v], rfl, v, [], rfl, rfl, q _ _ L1 N1 _ (t1.trans (.of w)) ((((n.trs t1 m1').step w).setW a1).setW b1) ⟨g, g', rfl, r⟩⟩
theorem eg_lenDT {p : Addr} {kvs : List (List Key × GV)} (ha : EV K L G ta (.r p)) (hm : (p, .dT kvs) ∈ L) : EG K L G (tCB rLenT (tCons ta tNil)) (.int (kvs.length : Nat)) := fun σ N H n ex Q q =>
  ha σ N H n ex _ fun x N1 H1 w1 k1 => by
    obtain ⟨_, vs, e1, e2⟩ := (n.ms.step w1).at_ _ _ hm
    have e : vs.length = kvs.length := kvs_len e2
    subst k1
    exact (⟨p, vs, rfl, e1, by rw [e]; exact q _ N1 H1 w1 (.int _)⟩ : rLenT [.ref p] H1 Q)
/-- [e for k in d if d[k] != d2[k]], where none differs; d is locked meanwhile -/
theorem eg_keysNone {a b i : Nat} {p p2 : Addr} {kvs kvs2 : List (List Key × GV)} {ws : List Nat} {Lr : SH} (ha : G[a]? = some (some (.r p))) (hb : G[b]? = some (some (.r p2))) (hp2 : (p2, .dT kvs2) ∈ Lr) (hi : i ∈ ws) (hil : i < G.length) (haw : a ∉ ws) (hbw : b ∉ ws)
    (hs : ∀ kg ∈ kvs, ∃ d, valG kvs kg.1 = some (.d d) ∧ valG kvs2 kg.1 = some (.d d) ∧ SeqAt.shaped d = true ∧ PyData.eqv d d = true) :
    EG K ((p, .dT kvs) :: Lr) G (tLockE (tLc (iKeys (tVar a)) (gName i) (tTest (tOp (rNeD K) (tDGet (tVar a) (tVar i)) (tDGet (tVar b) (tVar i)))) te ws)) (.list []) := fun σ N H n ex Q q => by
  obtain ⟨np, vs, hH, kv⟩ := n.ms.at_ _ _ List.mem_cons_self
  obtain ⟨np2, vs2, hH2, kv2⟩ := n.ms.at_ _ _ (List.mem_cons_of_mem _ hp2)
  have hne : p2 ≠ p := not_eq_key n.ms hp2
  obtain ⟨va, sa, ka⟩ := n.nm.2 _ _ ha
  obtain ⟨vb, sb, kb⟩ := n.nm.2 _ _ hb
  obtain rfl : va = V.ref p := ka
  obtain rfl : vb = V.ref p2 := kb
  refine ⟨p, .dT vs, hH, True.intro, fun od => ?_⟩
  refine ⟨.ref p, sa, p, od, rfl, .inr ⟨vs, upd_same, fun D hD => ?_⟩⟩
  have hDp : D ≠ p := fun z => by rw [z, upd_same] at hD; cases hD
  have hDH : H D = none := by rw [upd_ne hDp] at hD; exact hD
  have nD : N D = none := fresh_back ex hDH
  let H' : Hp := upd (upd H p (.frz od (.dT vs))) D (.lst [])
  have eN : Ex N H' := fun x o e => by
    have h1 : x ≠ D := ne_of_none e nD
    have h2 : x ≠ p := ne_of_none e np
    show upd (upd H p _) D _ x = some o
    rw [upd_ne h1, upd_ne h2]
    exact ex x o e
  have fz : H' p = some (.frz od (.dT vs)) := (upd_ne (Ne.symm hDp)).trans upd_same
  have d2 : H' p2 = some (.dT vs2) := by
    show upd (upd H p _) D _ p2 = _
    rw [upd_ne (ne_of_none hH2 hDH), upd_ne hne]
    exact hH2
  refine lc_it (walk_keysT (kvs := vs)) (fun _ H1 => H1 = H') rfl (fun _ H1 _ e => e ▸ fz) (fun j x H1 H2 _ e y => ?_) fun H1 e => ?_
  · subst e
    obtain ⟨rfl, k, v, c, hk, rfl, hc⟩ := y
    refine ⟨wipe_set hi, ?_⟩
    have at_ : ∀ {j : Nat} {u : V}, j ∉ ws → σ[j]? = some (some u) → ((wipe σ ws).set i (some (.ref c)))[j]? = some (some u) := fun {j u} hj hu => by
      have ne : i ≠ j := fun z => hj (by rw [← z]; exact hi)
      rw [List.getElem?_set_ne ne, wipe_at, if_neg hj]
      exact hu
    have ai : ((wipe σ ws).set i (some (.ref c)))[i]? = some (some (.ref c)) := List.getElem?_set_self (by rw [wipe_length, ← n.nm.1]; exact hil)
    have hkv : ∃ g, kvs[j]? = some (k, g) := by
      have e := congrArg (fun l => l[j]?) (kv_keys kv)
      simp only [List.getElem?_map, hk, Option.map_some] at e
      cases hq : kvs[j]? with
      | none => rw [hq] at e; cases e
      | some kg =>
        rw [hq] at e
        simp only [Option.map_some, Option.some.injEq] at e
        exact ⟨kg.2, by rw [e]⟩
    obtain ⟨g, hg⟩ := hkv
    obtain ⟨d, v1, v2, sh, er⟩ := hs _ (List.mem_of_getElem? hg)
    obtain ⟨u1, e1, k1⟩ := (kv_val kv).1 _ v1
    obtain ⟨u2, e2, k2⟩ := (kv_val kv2).1 _ v2
    have d1 : L2.Dp K H' u1 d := dp_to _ _ (dp_mono eN _ _ k1)
    have d3 : L2.Dp K H' u2 d := dp_to _ _ (dp_mono eN _ _ k2)
    refine ⟨.ref p, at_ haw sa, .ref c, ai, p, u1, rfl, .inr ⟨vs, k, c, .inr ⟨od, fz⟩, rfl, hc, e1.symm⟩, .ref p2, at_ hbw sb, .ref c, ai, p2, u2, rfl, .inr ⟨vs2, k, c, .inl d2, rfl, hc, e2.symm⟩, d, d, d1, d3, sh, sh, _, rfl, ?_⟩
    rw [er]
    exact (rfl : H' = H')
  · subst e
    refine ⟨fz, ?_⟩
    have eH : upd H' p (.dT vs) = upd H D (.lst []) := by
      funext x
      by_cases h1 : x = p
      · subst h1
        rw [upd_same, upd_ne (Ne.symm hDp)]
        exact hH.symm
      · rw [upd_ne h1]
        by_cases h2 : x = D
        · subst h2
          show upd _ x _ x = upd _ x _ x
          rw [upd_same, upd_same]
        · show upd (upd H p _) D _ x = _
          rw [upd_ne h2, upd_ne h2, upd_ne h1]
    rw [eH]
    exact q _ _ _ (.new ex hDH) (.lst upd_same .nil)
end
end K13
namespace PySem.W
open PySem.Calls PyProof.Rows
section
variable {prog : Program} {w : World} {A : Around} {E : Value → Shared → Prop} {s : Shared} {κ : PyProof.Rows.KeyKind} {l : Addr} {o : Obj} {vs : List Value} {n : Nat}
/-- the items of a tuple, gathered in a new list -/
theorem k13_gather {Q : List Value → Shared → Prop} (ho : s.heap.get? l = some o) (hc : o.cls = .type "tuple") (hd : o.data = .seq vs.toArray n) (hz : vs.length ≤ sizeLine)
    (h : Q vs { s with heap := (s.heap.push (seqObj "list" #[] 0)).update s.heap.objs.size (Obj.mapSeq (· ++ vs.toArray)) }) : wpAny (model prog w) A (collect (.ref l)) Q E s := by
  have new0 : (s.heap.push (seqObj "list" #[] 0)).get? s.heap.objs.size = some (seqObj "list" #[] 0) := Heap.get?_push_size _ rfl
  have old : (s.heap.push (seqObj "list" #[] 0)).get? l = some o := Heap.get?_push_of_some _ ho
  have fit : ((#[] : Array Value) ++ vs.toArray).size ≤ sizeLine + 1 := by
    rw [Array.size_append, List.size_toArray]
    show 0 + vs.length ≤ _
    omega
  unfold collect
  refine wpAny_bind (wpAny_runValue (codeAny_builtin entry_proto_collect' (wpAny_bind (wpAny_newList (wpAny_pure ⟨Code.quiet_builtin _ (by decide +kernel), codeAny_builtin entry_list_iadd' ?_⟩) (by show 0 ≤ sizeLine; omega)))))
  show wpAny _ _ (Builtin.List.listExtendWith (.ref s.heap.objs.size) (.ref l) (.ref s.heap.objs.size)) _ _ _
  unfold Builtin.List.listExtendWith
  refine wpAny_bind (wpAny_typeOf (T := "tuple") ⟨o, old, hc⟩ ?_)
  rw [if_pos (by simp)]
  refine wpAny_bind (listItems_at old hd (wpAny_bind (listItems_at (n := 0) new0 rfl ?_)))
  rw [if_neg (by simp)]
  refine wpAny_bind (listUpdate_at (n := 0) new0 rfl (wpAny_pure ?_) (Nat.zero_le _) fit)
  refine wpAny_bind (wpAny_load (get?_update_seq new0 _) (wpAny_pure ?_))
  have e : ((#[] : Array Value) ++ vs.toArray).toList = vs := by simp
  rw [e]
  exact h
theorem k13_sorted {Q : Value → Shared → Prop} (ho : s.heap.get? l = some o) (hc : o.cls = .type "tuple") (hd : o.data = .seq vs.toArray n) (hz : vs.length ≤ sizeLine) (S : SortsAt prog w A.in1.in1 { s with heap := sortingHeap (copyHeap s.heap vs) (s.heap.objs.size + 1) vs } κ vs)
    (h : Q (.ref (s.heap.objs.size + 1)) { s with heap := sortedAll s.heap vs (sortVals κ false vs vs).toArray }) : wpAny (model prog w) A (call (.builtin "sorted") [.ref l]) Q E s := by
  have sz : ((s.heap.push (seqObj "list" #[] 0)).update s.heap.objs.size (Obj.mapSeq (· ++ vs.toArray))).objs.size = s.heap.objs.size + 1 := by rw [Heap.size_update, size_push']
  refine call_function_entry_kw kind_sorted plain_sorted entry_sorted (args_sorted1 _) ?_
  unfold Builtin.«sorted»
  refine wpAny_bind (m := checkCount "sorted" 1 1 _) (wpAny_pure (wpAny_bind (k13_gather ho hc hd hz (wpAny_bind (wpAny_newList ?_ hz)))))
  rw [sz]
  refine wpAny_bind (wpAny_holding (wpAny_call_entry_kw slot_list_sort ⟨_, copyHeap_at s.heap vs, rfl⟩ entry_list_sort (list_sort_vals (s := { s with heap := copyHeap s.heap vs }) (copyHeap_at s.heap vs) S hz ⟨.none, rfl, wpAny_pure ⟨_, rfl, h⟩⟩) (args_list_sort _)))
end
end PySem.W
namespace K13
open PySem PySem.Spec PyProof.Rows L2
open Evl (Ex fresh_back ex_l ex_t)
section
variable {X : Cx}
/-- sorted(xs), xs a tuple of data that can be compared -/
def rSortT (K : PySem.W.Frag) : List V → Hp → VK → Prop := fun vs H Q => ∃ (a : Addr) (xs : List V) (ds : List PyData) (N : Hp), vs = [V.ref a] ∧ SqT K H a xs ∧ Ex N H ∧ DpAll K N xs ds ∧ PySem.W.AllAlike ds ∧ PySem.W.Sortable ds ∧ (∀ d ∈ ds, d.depth ≤ 8) ∧
  ∀ (ys : List V) (p : Addr), DpAll K N ys (ds.mergeSort (PySem.W.dataLe false id)) → H p = none → Q (.ref p) (upd H p (.lst ys))
theorem cr_sortedTup (hu : X.A.units + 64 < cLine) : CallR X (.builtin "sorted") (rSortT X.K) := by
  intro pins s σ H vs us Q I r h
  obtain ⟨a, xs, ds, N, rfl, hs, ex, hd, ha, hk, hdp, q⟩ := h
  obtain ⟨its, rv, ⟨o, ho, hc, n, hdt⟩, hz⟩ := I.tuple hs
  rw [Vals.ref1 r]
  have e := each_of rv hd
  have el := e.length
  have lo : its.length ≤ sizeLine := by rw [← Paired.length rv]; exact hz
  have er : PySem.W.EachIs (fun v b => ∃ as, Reads (PySem.W.sortingHeap (PySem.W.copyHeap s.heap its) (s.heap.objs.size + 1) its) v (id b) as) its ds :=
    (each_reads I (each_of rv (dps_mono ex _ _ hd))).mono fun _ _ ⟨as, r⟩ => ⟨as, PyProof.Rows.Reads.keeps (fun _ _ => PySem.W.sorting_copy_old) r⟩
  have S := PySem.W.SortsAt.data (prog := X.prog) (w := X.w) (A := X.A.in1.in1) (s := { s with heap := PySem.W.sortingHeap (PySem.W.copyHeap s.heap its) (s.heap.objs.size + 1) its }) er ha hk fun d hd' => by
    have := hdp d hd'
    show X.A.units + 2 + d.depth < cLine
    omega
  refine PySem.W.k13_sorted ho hc hdt lo S ?_
  obtain ⟨ys, r1, d1⟩ := of_each (PySem.W.sortVals_data (enc := id) false e er (by rw [List.map_id]; exact ha))
  obtain ⟨ep, at2⟩ := PyProof.Rows.sortedAll_at s.heap its (PySem.W.sortVals (PySem.W.dataKind (PySem.W.sortingHeap (PySem.W.copyHeap s.heap its) (s.heap.objs.size + 1) its) ds) false its its).toArray
  have lz : ys.length ≤ sizeLine := by
    rw [Paired.length r1, PySem.W.sortVals_length false rfl]
    exact lo
  exact ⟨.ref _, _, I.laid (t' := s.toks) (a := s.heap.objs.size + 1) (o := .lst ys) (fun _ _ => PyProof.Rows.sortedAll_old) (Nat.le_succ _) ⟨lz, _, ep, by simpa using r1, at2⟩, rfl, q ys _ d1 (I.hok.fresh (Nat.le_succ _))⟩
theorem cg_sortTup {K : PySem.W.Frag} {ds : List PyData} (h1 : PySem.W.AllAlike ds) (h2 : PySem.W.Sortable ds) (h3 : ∀ d ∈ ds, d.depth ≤ 8) : CG K (rSortT K) [.tuple ds] (.list (ds.mergeSort (PySem.W.dataLe false id))) := fun vs N H ex h Q q => by
  cases h with
  | cons a b =>
    cases b
    obtain ⟨p, xs, rfl, hs, hd⟩ := dp_tup a
    exact ⟨p, xs, ds, N, rfl, ex_t ex hs, ex, hd, h1, h2, h3, fun ys l hy hl => q _ _ _ (.new ex hl) (.lst upd_same (dps_mono (Ex.new (fresh_back ex hl)) _ _ hy))⟩
end
/-- xs * k -/
theorem dps_rep {K : PySem.W.Frag} {H : Hp} {xs : List V} {ds : List PyData} (h : DpAll K H xs ds) : ∀ n : Nat, DpAll K H (List.replicate n xs).flatten (List.replicate n ds).flatten
  | 0 => .nil
  | n + 1 => by
    rw [List.replicate_succ, List.replicate_succ, List.flatten_cons, List.flatten_cons]
    exact dps_app h (dps_rep h n)
theorem rg_repT {K : PySem.W.Frag} {ds : List PyData} {k : Int} (hne : ds ≠ []) (h2 : 2 ≤ k) (hk : k ≤ 1000) (hz : ds.length ≤ 1000) : RG K (rRepT K) (.tuple ds) (.int k) (.tuple (List.replicate k.toNat ds).flatten) := fun u v N H ex h1 h2' Q q => by
  obtain ⟨p, xs, rfl, hs, hd⟩ := dp_tup h1
  obtain rfl := dp_int h2'
  have l := dps_len hd
  refine ⟨p, k, xs, rfl, rfl, ex_t ex hs, fun z => hne ?_, h2, hk, by omega, fun t ht => q _ _ _ (.new ex ht) (.tup upd_same (dps_mono (Ex.new (fresh_back ex ht)) _ _ (dps_rep hd _)))⟩
  rw [z] at l
  exact List.eq_nil_of_length_eq_zero l.symm
end K13
namespace K13
/-- how a place was reached: not, a start, by an arc -/
inductive Bv where
  | no | st | arc (a : Nat)
deriving DecidableEq
/-- arcs lie where they leave; the arc back of arc a is co a -/
structure Wir (heads : List Nat) (outs : List (List Nat)) : Prop where
  hl : ∀ (a v : Nat), heads[a]? = some v → v < outs.length
  wired : ∀ (u : Nat) (o : List Nat) (a : Nat), outs[u]? = some o → a ∈ o → a < heads.length ∧ heads[co a]? = some u
structure Reach (heads : List Nat) (rooms : List Int) (outs : List (List Nat)) (starts : List Nat) (bs : List Bv) : Prop where
  len : bs.length = outs.length
  st : ∀ v, bs[v]? = some .st ↔ v ∈ starts
  rk : ∃ rk : Nat → Nat, ∀ v a, bs[v]? = some (.arc a) → heads[a]? = some v ∧ (∃ r, rooms[a]? = some r ∧ 0 < r) ∧ ∃ u, heads[co a]? = some u ∧ u < bs.length ∧ bs[u]? ≠ some .no ∧ rk u < rk v
  closed : ∀ u o, u < bs.length → bs[u]? ≠ some .no → outs[u]? = some o → ∀ a ∈ o, ∀ r v, rooms[a]? = some r → 0 < r → heads[a]? = some v → bs[v]? ≠ some .no
/-- in the midst: the queue q, the first t done, of the t-th the arcs dn -/
structure Bfs (heads : List Nat) (rooms : List Int) (outs : List (List Nat)) (starts : List Nat) (bs : List Bv) (q : List Nat) (t : Nat) (dn : List Nat) : Prop where
  len : bs.length = outs.length
  nd : q.Nodup
  lt : ∀ v ∈ q, v < bs.length
  iff_ : ∀ v, v < bs.length → (bs[v]? ≠ some .no ↔ v ∈ q)
  st : ∀ v, bs[v]? = some .st ↔ v ∈ starts
  arc : ∀ v a, bs[v]? = some (.arc a) → heads[a]? = some v ∧ (∃ r, rooms[a]? = some r ∧ 0 < r) ∧ ∃ u, heads[co a]? = some u ∧ ∃ i j : Nat, q[i]? = some u ∧ q[j]? = some v ∧ i < j
  cl : ∀ (i : Nat) u o, i < t → q[i]? = some u → outs[u]? = some o → ∀ a ∈ o, ∀ r v, rooms[a]? = some r → 0 < r → heads[a]? = some v → v ∈ q
  cd : ∀ a ∈ dn, ∀ r v, rooms[a]? = some r → 0 < r → heads[a]? = some v → v ∈ q
theorem nd_le : ∀ (n : Nat) (q : List Nat), q.Nodup → (∀ v ∈ q, v < n) → q.length ≤ n
  | 0, q, _, h => by
    cases q with
    | nil => exact Nat.le_refl _
    | cons x r => exact absurd (h x (by simp)) (Nat.not_lt_zero x)
  | n + 1, q, nd, h => by
    by_cases e : n ∈ q
    · have h1 := nd_le n (q.erase n) (nd.erase n) (fun v hv => by
        have hm := List.mem_of_mem_erase hv
        have hne : v ≠ n := fun z => by
          subst z
          exact (List.Nodup.not_mem_erase nd) hv
        have := h v hm
        omega)
      rw [List.length_erase_of_mem e] at h1
      omega
    · have h1 := nd_le n q nd (fun v hv => by
        have hne : v ≠ n := fun z => e (z ▸ hv)
        have := h v hv
        omega)
      omega
section
variable {heads : List Nat} {rooms : List Int} {outs : List (List Nat)} {starts : List Nat} {bs : List Bv} {q : List Nat} {t : Nat} {dn : List Nat}
theorem Bfs.full (b : Bfs heads rooms outs starts bs q t dn) : q.length ≤ outs.length := by
  rw [← b.len]
  exact nd_le _ q b.nd b.lt
/-- a place found anew -/
theorem Bfs.add (b : Bfs heads rooms outs starts bs q t dn) {a v u : Nat} {r : Int} (W : Wir heads outs) (ht : q[t]? = some u) (hu : heads[co a]? = some u) (hv : heads[a]? = some v) (hr : rooms[a]? = some r) (h0 : 0 < r) (hn : bs[v]? = some .no) :
    Bfs heads rooms outs starts (bs.set v (.arc a)) (q ++ [v]) t (dn ++ [a]) := by
  have vl : v < bs.length := (List.getElem?_eq_some_iff.mp hn).1
  have vq : v ∉ q := fun z => (b.iff_ v vl).mpr z hn
  have tl : t < q.length := (List.getElem?_eq_some_iff.mp ht).1
  have get : ∀ x, (bs.set v (.arc a))[x]? = if x = v then some (.arc a) else bs[x]? := fun x => by
    by_cases e : x = v
    · subst e; rw [if_pos rfl, List.getElem?_set_self vl]
    · rw [if_neg e, List.getElem?_set_ne (Ne.symm e)]
  refine ⟨by rw [List.length_set]; exact b.len, ?_, ?_, ?_, ?_, ?_, ?_, ?_⟩
  · exact List.nodup_append.mpr ⟨b.nd, by simp, fun x hx y hy e => by simp at hy; subst hy; subst e; exact vq hx⟩
  · intro x hx
    rw [List.length_set]
    rcases List.mem_append.mp hx with z | z
    · exact b.lt x z
    · simp at z; rw [z]; exact vl
  · intro x hx
    rw [List.length_set] at hx
    rw [get]
    by_cases e : x = v
    · subst e; simp
    · rw [if_neg e, b.iff_ x hx]; simp [e]
  · intro x
    rw [get, ← b.st]
    by_cases e : x = v
    · subst e; rw [if_pos rfl, hn]; simp
    · rw [if_neg e]
  · intro x y hx
    rw [get] at hx
    by_cases e : x = v
    · subst e
      rw [if_pos rfl] at hx
      cases hx
      refine ⟨hv, ⟨r, hr, h0⟩, u, hu, t, q.length, ?_, by simp, tl⟩
      rw [List.getElem?_append_left tl]
      exact ht
    · rw [if_neg e] at hx
      obtain ⟨h1, h2, u', h3, i, j, h4, h5, h6⟩ := b.arc x y hx
      have il : i < q.length := (List.getElem?_eq_some_iff.mp h4).1
      have jl : j < q.length := (List.getElem?_eq_some_iff.mp h5).1
      exact ⟨h1, h2, u', h3, i, j, by rw [List.getElem?_append_left il]; exact h4, by rw [List.getElem?_append_left jl]; exact h5, h6⟩
  · intro i x o hi hx ho y hy r' z h1 h2 h3
    rw [List.getElem?_append_left (by omega)] at hx
    exact List.mem_append_left _ (b.cl i x o hi hx ho y hy r' z h1 h2 h3)
  · intro y hy r' z h1 h2 h3
    rcases List.mem_append.mp hy with k | k
    · exact List.mem_append_left _ (b.cd y k r' z h1 h2 h3)
    · simp at k
      subst k
      rw [hv] at h3
      cases h3
      simp
/-- an arc that leads nowhere new -/
theorem Bfs.skip (b : Bfs heads rooms outs starts bs q t dn) {a : Nat} (h : ∀ r v, rooms[a]? = some r → 0 < r → heads[a]? = some v → v < bs.length ∧ bs[v]? ≠ some .no) : Bfs heads rooms outs starts bs q t (dn ++ [a]) :=
  ⟨b.len, b.nd, b.lt, b.iff_, b.st, b.arc, b.cl, fun y hy r v h1 h2 h3 => by
    rcases List.mem_append.mp hy with k | k
    · exact b.cd y k r v h1 h2 h3
    · simp at k
      subst k
      obtain ⟨z1, z2⟩ := h r v h1 h2 h3
      exact (b.iff_ v z1).mp z2⟩
theorem Bfs.next (b : Bfs heads rooms outs starts bs q t dn) {u : Nat} (ht : q[t]? = some u) (h : outs[u]? = some dn) : Bfs heads rooms outs starts bs q (t + 1) [] :=
  ⟨b.len, b.nd, b.lt, b.iff_, b.st, b.arc, fun i x o hi hx ho => by
    by_cases e : i < t
    · exact b.cl i x o e hx ho
    · have e2 : i = t := by omega
      subst e2
      rw [ht] at hx
      cases hx
      rw [h] at ho
      cases ho
      exact b.cd, fun y hy => by cases hy⟩
theorem Bfs.done (b : Bfs heads rooms outs starts bs q q.length []) : Reach heads rooms outs starts bs := by
  refine ⟨b.len, b.st, ⟨fun v => q.idxOf v, fun v a h => ?_⟩, fun u o hu hb ho a ha r v h1 h2 h3 => ?_⟩
  · obtain ⟨h1, h2, u, h3, i, j, h4, h5, h6⟩ := b.arc v a h
    have mu := List.mem_of_getElem? h4
    refine ⟨h1, h2, u, h3, b.lt u mu, (b.iff_ u (b.lt u mu)).mpr mu, ?_⟩
    obtain ⟨li, ei⟩ := List.getElem?_eq_some_iff.mp h4
    obtain ⟨lj, ej⟩ := List.getElem?_eq_some_iff.mp h5
    have e1 : q.idxOf u = i := by rw [← ei]; exact b.nd.idxOf_getElem i li
    have e2 : q.idxOf v = j := by rw [← ej]; exact b.nd.idxOf_getElem j lj
    show q.idxOf u < q.idxOf v
    rw [e1, e2]
    exact h6
  · have hq := (b.iff_ u hu).mp hb
    obtain ⟨i, hi, ei⟩ := List.mem_iff_getElem.mp hq
    have := b.cl i u o hi (by rw [List.getElem?_eq_getElem hi, ei]) ho a ha r v h1 h2 h3
    exact (b.iff_ v (b.lt v this)).mpr this
/-- at the beginning -/
def begun (n : Nat) (starts : List Nat) : List Bv := starts.foldl (fun b s => b.set s .st) (List.replicate n .no)
theorem begun_at {n : Nat} {starts : List Nat} (h : ∀ s ∈ starts, s < n) (v : Nat) : (begun n starts)[v]? = if v ∈ starts then some .st else if v < n then some .no else none := by
  have gen : ∀ (xs : List Nat) (b : List Bv), (∀ s ∈ xs, s < b.length) → (xs.foldl (fun b s => b.set s Bv.st) b)[v]? = if v ∈ xs then some .st else b[v]? := by
    intro xs
    induction xs with
    | nil => intro b _; simp
    | cons x r ih =>
      intro b hb
      rw [List.foldl_cons, ih _ (fun s hs => by rw [List.length_set]; exact hb s (by simp [hs]))]
      by_cases e : v ∈ r
      · simp [e]
      · by_cases f : v = x
        · subst f
          simp [e, hb v (by simp)]
        · simp [e, f, List.getElem?_set_ne (Ne.symm f)]
  unfold begun
  rw [gen starts _ (by simpa using h), List.getElem?_replicate]
theorem begun_len {n : Nat} {starts : List Nat} : (begun n starts).length = n := by
  have gen : ∀ (xs : List Nat) (b : List Bv), (xs.foldl (fun b s => b.set s Bv.st) b).length = b.length := by
    intro xs
    induction xs with
    | nil => intro b; rfl
    | cons x r ih => intro b; rw [List.foldl_cons, ih, List.length_set]
  unfold begun
  rw [gen, List.length_replicate]
theorem Bfs.start (hs : ∀ s ∈ starts, s < outs.length) (nd : starts.Nodup) : Bfs heads rooms outs starts (begun outs.length starts) starts 0 [] := by
  refine ⟨begun_len, nd, fun v hv => by rw [begun_len]; exact hs v hv, fun v hv => ?_, fun v => ?_, fun v a h => ?_, fun i u o hi => by omega, fun a ha => by cases ha⟩
  · rw [begun_len] at hv
    rw [begun_at hs]
    by_cases e : v ∈ starts <;> simp [e, hv]
  · rw [begun_at hs]
    by_cases e : v ∈ starts
    · simp [e]
    · by_cases f : v < outs.length <;> simp [e, f]
  · rw [begun_at hs] at h
    by_cases e : v ∈ starts
    · simp [e] at h
    · by_cases f : v < outs.length <;> simp [e, f] at h
end
inductive Chain (heads : List Nat) (e : Nat) : List Nat → Nat → Prop
  | nil : Chain heads e [] e
  | snoc {as : List Nat} {v a u : Nat} : Chain heads e as v → heads[a]? = some v → heads[co a]? = some u → Chain heads e (as ++ [a]) u
def roomAt (rs : List Int) (a : Nat) : Int := rs.getD a 0
def pushStep (m : Int) (rs : List Int) (a : Nat) : List Int := (rs.set a (roomAt rs a - m)).set (co a) (roomAt (rs.set a (roomAt rs a - m)) (co a) + m)
structure Pushed (heads : List Nat) (rooms : List Int) (starts : List Nat) (e : Nat) (as : List Nat) (m : Int) : Prop where
  chain : ∃ u, Chain heads e as u ∧ u ∈ starts
  ne : as ≠ []
  nd : as.Nodup
  lt : ∀ a ∈ as, a < heads.length ∧ co a < heads.length
  le : ∀ a ∈ as, 0 < roomAt rooms a ∧ m ≤ roomAt rooms a
  mem : m ∈ as.map (roomAt rooms)
theorem least : ∀ ns : List Int, ns ≠ [] → ∃ m, m ∈ ns ∧ ∀ y ∈ ns, m ≤ y
  | [], h => absurd rfl h
  | [x], _ => ⟨x, by simp, by simp⟩
  | x :: y :: r, _ => by
    obtain ⟨m, h1, h2⟩ := least (y :: r) (by simp)
    by_cases e : x ≤ m
    · exact ⟨x, by simp, fun z hz => by
        rcases List.mem_cons.mp hz with k | k
        · omega
        · have := h2 z k; omega⟩
    · exact ⟨m, List.mem_cons_of_mem _ h1, fun z hz => by
        rcases List.mem_cons.mp hz with k | k
        · omega
        · exact h2 z k⟩
theorem pushStep_len {m : Int} {rs : List Int} {a : Nat} : (pushStep m rs a).length = rs.length := by simp [pushStep]
theorem pushAll_len {m : Int} {as : List Nat} {rs : List Int} : (as.foldl (pushStep m) rs).length = rs.length := by
  induction as generalizing rs with
  | nil => rfl
  | cons a r ih => rw [List.foldl_cons, ih, pushStep_len]
theorem roomAt_get {rs : List Int} {a : Nat} (h : a < rs.length) : rs[a]? = some (roomAt rs a) := by
  unfold roomAt
  rw [List.getD_eq_getElem?_getD, List.getElem?_eq_getElem h]
  rfl
theorem roomAt_of {rs : List Int} {a : Nat} {r : Int} (h : rs[a]? = some r) : roomAt rs a = r := by
  unfold roomAt
  rw [List.getD_eq_getElem?_getD, h]
  rfl
end K13
namespace K13
def wsum (w : Nat → Int) : List Int → Nat → Int
  | [], _ => 0
  | r :: rs, k => w k * r + wsum w rs (k + 1)
theorem roomAt_zero {r : Int} {rs : List Int} : roomAt (r :: rs) 0 = r := rfl
theorem roomAt_succ {r : Int} {rs : List Int} {i : Nat} : roomAt (r :: rs) (i + 1) = roomAt rs i := by simp [roomAt]
theorem wsum_set {w : Nat → Int} : ∀ (rs : List Int) (k i : Nat) (v : Int), i < rs.length → wsum w (rs.set i v) k = wsum w rs k + w (k + i) * (v - roomAt rs i)
  | [], _, _, _, h => by simp at h
  | r :: rs, k, 0, v, _ => by
    show w k * v + wsum w rs (k + 1) = w k * r + wsum w rs (k + 1) + w k * (v - r)
    rw [Int.mul_sub]
    omega
  | r :: rs, k, i + 1, v, h => by
    have ih := wsum_set (w := w) rs (k + 1) i v (by simpa using h)
    show w k * r + wsum w (rs.set i v) (k + 1) = w k * r + wsum w rs (k + 1) + w (k + (i + 1)) * (v - roomAt (r :: rs) (i + 1))
    rw [ih, roomAt_succ, show k + 1 + i = k + (i + 1) from by omega]
    omega
theorem wsum_nn {w : Nat → Int} : ∀ (rs : List Int) (k : Nat), (∀ i, i < rs.length → 0 ≤ w (k + i) * roomAt rs i) → 0 ≤ wsum w rs k
  | [], _, _ => Int.le_refl _
  | r :: rs, k, h => by
    have h0 := h 0 (by simp)
    have ih := wsum_nn (w := w) rs (k + 1) (fun i hi => by
      have := h (i + 1) (by simpa using hi)
      rw [roomAt_succ] at this
      rw [show k + 1 + i = k + (i + 1) from by omega]
      exact this)
    rw [Nat.add_zero, roomAt_zero] at h0
    show 0 ≤ w k * r + wsum w rs (k + 1)
    omega
theorem wsum_zero {w : Nat → Int} : ∀ (rs : List Int) (k : Nat), (∀ i, i < rs.length → w (k + i) * roomAt rs i = 0) → wsum w rs k = 0
  | [], _, _ => rfl
  | r :: rs, k, h => by
    have h0 := h 0 (by simp)
    have ih := wsum_zero (w := w) rs (k + 1) (fun i hi => by
      have := h (i + 1) (by simpa using hi)
      rw [roomAt_succ] at this
      rw [show k + 1 + i = k + (i + 1) from by omega]
      exact this)
    rw [Nat.add_zero, roomAt_zero] at h0
    show w k * r + wsum w rs (k + 1) = 0
    omega
def hd (heads : List Nat) (a : Nat) : Nat := heads.getD a 0
theorem hd_of {heads : List Nat} {a v : Nat} (h : heads[a]? = some v) : hd heads a = v := by
  unfold hd
  rw [List.getD_eq_getElem?_getD, h]
  rfl
def b2 (b : Bool) : Int := if b = true then 1 else 0
def cutW (heads : List Nat) (S : Nat → Bool) (a : Nat) : Int := b2 (S (hd heads (co a)) && !S (hd heads a))
def cutR (heads : List Nat) (S : Nat → Bool) (rs : List Int) : Int := wsum (cutW heads S) rs 0
theorem co_co (a : Nat) : co (co a) = a := by
  unfold co
  split <;> split <;> omega
theorem co_ne (a : Nat) : co a ≠ a := by
  unfold co
  split <;> omega
section
variable {heads : List Nat} {S : Nat → Bool} {rs : List Int} {m : Int}
theorem cut_step {a : Nat} (h1 : a < rs.length) (h2 : co a < rs.length) : cutR heads S (pushStep m rs a) = cutR heads S rs + m * (b2 (S (hd heads a)) - b2 (S (hd heads (co a)))) := by
  unfold cutR pushStep
  rw [wsum_set _ _ _ _ (by rw [List.length_set]; exact h2), wsum_set _ _ _ _ h1, Nat.zero_add, Nat.zero_add]
  have e1 : roomAt rs a - m - roomAt rs a = -m := by omega
  generalize roomAt (rs.set a (roomAt rs a - m)) (co a) = x
  have e2 : x + m - x = m := by omega
  rw [e1, e2]
  unfold cutW
  rw [co_co]
  cases S (hd heads a) <;> cases S (hd heads (co a)) <;> simp [b2] <;> omega
theorem cut_chain {e : Nat} {as : List Nat} {u : Nat} (c : Chain heads e as u) (h : ∀ a ∈ as, a < rs.length ∧ co a < rs.length) : cutR heads S (as.foldl (pushStep m) rs) = cutR heads S rs + m * (b2 (S e) - b2 (S u)) := by
  induction c with
  | nil => simp
  | @snoc as v a u c h1 h2 ih =>
    have i := ih fun x hx => h x (by simp [hx])
    rw [List.foldl_append]
    show cutR heads S (pushStep m (as.foldl (pushStep m) rs) a) = _
    obtain ⟨k1, k2⟩ := h a (by simp)
    rw [cut_step (by rw [pushAll_len]; exact k1) (by rw [pushAll_len]; exact k2), i, hd_of h1, hd_of h2, Int.add_assoc, ← Int.mul_add]
    congr 2
    omega
theorem roomAt_set {i j : Nat} {v : Int} (h : i < rs.length) : roomAt (rs.set i v) j = if j = i then v else roomAt rs j := by
  unfold roomAt
  rw [List.getD_eq_getElem?_getD, List.getD_eq_getElem?_getD]
  by_cases e : j = i
  · subst e
    rw [List.getElem?_set_self h, if_pos rfl]
    rfl
  · rw [List.getElem?_set_ne (Ne.symm e), if_neg e]
theorem push_nn {as : List Nat} (nd : as.Nodup) (hm : 0 ≤ m) (lt : ∀ a ∈ as, a < rs.length ∧ co a < rs.length) (nn : ∀ x, 0 ≤ roomAt rs x) (le : ∀ a ∈ as, m ≤ roomAt rs a) : ∀ x, 0 ≤ roomAt (as.foldl (pushStep m) rs) x := by
  induction as generalizing rs with
  | nil => exact nn
  | cons a r ih =>
    obtain ⟨k1, k2⟩ := lt a (by simp)
    obtain ⟨nd1, nd2⟩ := List.nodup_cons.mp nd
    have at_ : ∀ x, roomAt (pushStep m rs a) x = if x = co a then roomAt rs (co a) + m else if x = a then roomAt rs a - m else roomAt rs x := fun x => by
      unfold pushStep
      rw [roomAt_set (by rw [List.length_set]; exact k2), roomAt_set k1, roomAt_set k1, if_neg (co_ne a)]
    have la := le a (by simp)
    refine ih nd2 (fun b hb => by rw [pushStep_len]; exact lt b (by simp [hb])) (fun x => ?_) (fun b hb => ?_)
    · rw [at_]
      have := nn x
      have := nn (co a)
      split
      · omega
      · split
        · omega
        · omega
    · rw [at_]
      have hne : b ≠ a := fun z => nd1 (z ▸ hb)
      have := le b (by simp [hb])
      split
      · rename_i z
        rw [z] at this
        omega
      · exact this
end
/-- S parts the starts from the finish -/
def Adm (starts finish : List Nat) (S : Nat → Bool) : Prop := (∀ s ∈ starts, S s = true) ∧ ∀ f ∈ finish, S f = false
/-- the state of the pushing: am pushed so far, rs left -/
structure FlowSt (heads : List Nat) (rooms0 : List Int) (starts finish : List Nat) (am : Int) (rs : List Int) : Prop where
  len : rs.length = heads.length
  nn : ∀ x, 0 ≤ roomAt rs x
  sum : ∀ S, Adm starts finish S → cutR heads S rooms0 = am + cutR heads S rs
/-- am is the least cut -/
structure IsMin (heads : List Nat) (rooms0 : List Int) (starts finish : List Nat) (am : Int) : Prop where
  le : ∀ S, Adm starts finish S → am ≤ cutR heads S rooms0
  eq : ∃ S, Adm starts finish S ∧ am = cutR heads S rooms0
section
variable {heads : List Nat} {rooms0 rs : List Int} {starts finish : List Nat} {am m : Int} {outs : List (List Nat)} {S : Nat → Bool}
theorem cut_nn (nn : ∀ x, 0 ≤ roomAt rs x) : 0 ≤ cutR heads S rs := wsum_nn _ _ fun i _ => by
  unfold cutW b2
  have := nn i
  split
  · omega
  · omega
theorem flow_start (h : rooms0.length = heads.length) (nn : ∀ x, 0 ≤ roomAt rooms0 x) : FlowSt heads rooms0 starts finish 0 rooms0 := ⟨h, nn, fun S _ => by omega⟩
theorem flow_push (f : FlowSt heads rooms0 starts finish am rs) {e : Nat} {as : List Nat} (he : e ∈ finish) (p : Pushed heads rs starts e as m) : FlowSt heads rooms0 starts finish (am + m) (as.foldl (pushStep m) rs) ∧ 0 < m ∧ ∀ S, Adm starts finish S → cutR heads S (as.foldl (pushStep m) rs) = cutR heads S rs - m := by
  have hm : 0 < m := by
    obtain ⟨a, ha, e⟩ := List.mem_map.mp p.mem
    rw [← e]
    exact (p.le a ha).1
  obtain ⟨u, c, hu⟩ := p.chain
  have lt : ∀ a ∈ as, a < rs.length ∧ co a < rs.length := fun a ha => by rw [f.len]; exact p.lt a ha
  have key : ∀ S, Adm starts finish S → cutR heads S (as.foldl (pushStep m) rs) = cutR heads S rs - m := fun S hS => by
    rw [cut_chain c lt, hS.1 u hu, hS.2 e he]
    show _ + m * ((0 : Int) - 1) = _
    omega
  refine ⟨⟨by rw [pushAll_len]; exact f.len, push_nn p.nd (Int.le_of_lt hm) lt f.nn fun a ha => (p.le a ha).2, fun S hS => ?_⟩, hm, key⟩
  rw [key S hS, f.sum S hS]
  omega
/-- nothing more is reached: the least cut -/
theorem flow_end (f : FlowSt heads rooms0 starts finish am rs) {bs : List Bv} (rc : Reach heads rs outs starts bs) (hfin : ∀ v ∈ finish, bs[v]? = some .no) (full : ∀ a, a < heads.length → ∃ u v o, heads[co a]? = some u ∧ heads[a]? = some v ∧ u < outs.length ∧ v < outs.length ∧ outs[u]? = some o ∧ a ∈ o) : IsMin heads rooms0 starts finish am := by
  refine ⟨fun S hS => ?_, fun v => decide (bs[v]? ≠ some .no), ⟨fun s hs => ?_, fun v hv => ?_⟩, ?_⟩
  · rw [f.sum S hS]
    have := cut_nn (heads := heads) (S := S) f.nn
    omega
  · show decide (bs[s]? ≠ some .no) = true
    rw [(rc.st s).mpr hs]
    rfl
  · show decide (bs[v]? ≠ some .no) = false
    rw [hfin v hv]
    rfl
  · have adm : Adm starts finish (fun v => decide (bs[v]? ≠ some .no)) := ⟨fun s hs => by show decide (bs[s]? ≠ some .no) = true; rw [(rc.st s).mpr hs]; rfl, fun v hv => by show decide (bs[v]? ≠ some .no) = false; rw [hfin v hv]; rfl⟩
    rw [f.sum _ adm]
    have : cutR heads (fun v => decide (bs[v]? ≠ some .no)) rs = 0 := wsum_zero _ _ fun i hi => by
      rw [Nat.zero_add]
      obtain ⟨u, v, o, h1, h2, h3, h3', h4, h5⟩ := full i (by rw [← f.len]; exact hi)
      unfold cutW
      rw [hd_of h1, hd_of h2]
      show b2 (decide (bs[u]? ≠ some .no) && !decide (bs[v]? ≠ some .no)) * roomAt rs i = 0
      by_cases hb : bs[u]? ≠ some .no
      · by_cases hr : 0 < roomAt rs i
        · have := rc.closed u o (by rw [rc.len]; exact h3) hb h4 i h5 (roomAt rs i) v (roomAt_get hi) hr h2
          rw [decide_eq_true hb, decide_eq_true this]
          simp [b2]
        · have := f.nn i
          rw [show roomAt rs i = 0 from by omega, Int.mul_zero]
      · rw [decide_eq_false hb]
        simp [b2]
    omega
end
end K13
namespace K13
open PySem PySem.Spec PyProof.Rows L2
open Evl (Ex fresh_back ex_l ex_t)
section
variable {K : PySem.W.Frag}
theorem cg_gcd {a b : Int} : CG K rGcd [.int a, .int b] (.int (Int.gcd a b : Nat)) := cg_val (fun _ => .int _) fun vs H N ex h Q q => by
  cases h with
  | cons a1 a2 =>
    cases a2 with
    | cons b1 b2 =>
      cases b2
      rw [dp_int a1, dp_int b1]
      exact ⟨a, b, rfl, q⟩
end
/-- one step of reading an expression's worth -/
local macro_rules | `(tactic| walk_at "eg1") => `(tactic| first
  | exact eg_var rfl | exact eg_int | exact eg_str | exact eg_bl | exact eg_non | exact tg_yes | exact og_none
  | apply og_some
  | apply tg_test | apply tg_B | apply tg_not | apply eg_notV
  | apply eg_isi
  | apply eg_ixT | apply eg_ixL
  | apply eg_cmp | apply eg_i0 | apply eg_ic
  | apply eg_op (hr := rg_eqI) | apply eg_op (hr := rg_eqS) | apply eg_op (hr := rg_neI) | apply eg_op (hr := rg_neS)
  | apply eg_cb (hr := cg_gcd)
  | exact (rfl : atI _ _ = _) | exact (rfl : kitB _ _ = _)
  | exact ag_nil | apply ag_cons
  | apply eg_tup | apply eg_lst | exact Nat.le_of_ble_eq_true rfl)
local macro_rules | `(tactic| walk_at "eg") => `(tactic| repeat' walk_at "eg1")
abbrev Q2 := Int × Int
def numD (q : Q2) : PyData := if q.2 = 1 then .int q.1 else .tuple [.int q.1, .int q.2]
structure Num (q : Q2) : Prop where
  lo : 0 ≤ q.1
  hi : q.1 ≤ 10
  pos : 0 < q.2
  dv : q.2 ∣ 12
  cop : Int.gcd q.1 q.2 = 1
theorem Num.le {q : Q2} (h : Num q) : q.2 ≤ 12 := Int.le_of_dvd (by decide) h.dv
def red (t b : Int) : Q2 := (t / (Int.gcd t b : Nat), b / (Int.gcd t b : Nat))
theorem num_ty (q : Q2) : tyN (numD q) = if q.2 = 1 then "int" else "tuple" := by
  unfold numD
  split <;> rfl
section
variable {P : Program} {w : World} {K : PySem.W.Frag} {mg : Str → Option Value} {base : Heap}
def isI : PyData → Bool
  | .int _ => true
  | _ => false
def P_is_whole (ds : List PyData) (d : PyData) : Prop := ∃ x, ds = [x] ∧ d = .bool (isI x)
def P_is_number (ds : List PyData) (d : PyData) : Prop := ∃ q, Num q ∧ ds = [numD q] ∧ d = .bool true
def P_made (ds : List PyData) (d : PyData) : Prop := ∃ t b : Int, 0 < b ∧ b < 1073741824 ∧ ds = [.int t, .int b] ∧ d = numD (red t b)
def P_top_of (ds : List PyData) (d : PyData) : Prop := ∃ q, ds = [numD q] ∧ d = .int q.1
def P_bottom_of (ds : List PyData) (d : PyData) : Prop := ∃ q, ds = [numD q] ∧ d = .int q.2
def P_over (ds : List PyData) (d : PyData) : Prop := ∃ q, Num q ∧ ds = [numD q, .int 2] ∧ d = numD (red q.1 (q.2 * 2))
def P_is_less (ds : List PyData) (d : PyData) : Prop := ∃ q, Num q ∧ ds = [numD q, .int 0] ∧ d = .bool false
def lcmF (c : Int) (q : Q2) : Int := c * q.2 / (Int.gcd c q.2 : Nat)
def comm (qs : List Q2) : Int := qs.foldl lcmF 1
def P_common_bottom (ds : List PyData) (d : PyData) : Prop := ∃ qs : List Q2, (∀ q ∈ qs, Num q) ∧ qs.length ≤ 1000000 ∧ ds = [.list (qs.map numD)] ∧ d = .int (comm qs)
def loadF (c : Int) (q : Q2) : Int := q.1 * (c / q.2)
def P_in_wholes (ds : List PyData) (d : PyData) : Prop := ∃ (qs : List Q2) (c : Int), (∀ q ∈ qs, Num q) ∧ qs.length ≤ 1000000 ∧ 0 < c ∧ c ∣ 12 ∧ ds = [.list (qs.map numD), .int c] ∧ d = .list ((qs.map (loadF c)).map .int)
abbrev s_is_whole : Stmt := top 25
abbrev N_is_whole : List Str := ["value"]
theorem sc_is_whole : FnScope N_is_whole ["value"] (defScope s_is_whole) := C8.fnScope_by (by decide +kernel)
theorem ok_is_whole (T : Tx w K mg base) : Cl P w K mg base CX0 1 "is_whole" (spD K fun ds d => ds.length = 1 ∧ P_is_whole ds d) := cl_pure T.d_is_whole T.g_is_whole sc_is_whole (fun _ _ h => h.1) (fun _ _ _ _ _ _ us hl => match us, hl with | [_], _ => rfl) fun cdv A outer s H E ds d hr h => ⟨_,
  (pss_one (ps_ret (pe_and (pe_callB (call_isiK K rfl) (by rfl) T.n_isinstance bt_isinstance (pa_cons (pv 0) (pa_cons (pe_bltn (v := .ty "int") (by rfl) T.n_int bt_int rfl) pa_nil))) (pe_one (pe_not (pe_callB (call_isiK K rfl) (by rfl) T.n_isinstance bt_isinstance (pa_cons (pv 0) (pa_cons (pe_bltn (v := .ty "bool") (by rfl) T.n_bool bt_bool rfl) pa_nil)))))))), by
  replace h := h.2
 
  obtain ⟨x, rfl, rfl⟩ := h
  refine bg_ret ?_
  cases x with
  | int i => exact eg_andV (a := true) (b := true) (eg_isi (d := .int i) (eg_var rfl) rfl) fun _ => eg_notV (a := false) (eg_isi (d := .int i) (eg_var rfl) rfl)
  | bool i => exact eg_andV (a := true) (b := false) (eg_isi (d := .bool i) (eg_var rfl) rfl) fun _ => eg_notV (a := true) (eg_isi (d := .bool i) (eg_var rfl) rfl)
  | _ => exact eg_andV (a := false) (b := true) (by walk_at "eg") fun z => by cases z⟩
abbrev s_top_of : Stmt := top 28
abbrev N_top_of : List Str := ["value"]
theorem sc_top_of : FnScope N_top_of ["value"] (defScope s_top_of) := C8.fnScope_by (by decide +kernel)
theorem ok_top_of (T : Tx w K mg base) : Cl P w K mg base CX0 1 "top_of" (spD K fun ds d => ds.length = 1 ∧ P_top_of ds d) := cl_pure T.d_top_of T.g_top_of sc_top_of (fun _ _ h => h.1) (fun _ _ _ _ _ _ us hl => match us, hl with | [_], _ => rfl) fun cdv A outer s H E ds d hr h => ⟨_,
  (pss_one (ps_ret (pe_ifExp (pt_val (pe_callB (call_isiK K rfl) (by rfl) T.n_isinstance bt_isinstance (pa_cons (pv 0) (pa_cons (pe_bltn (v := .ty "tuple") (by rfl) T.n_tuple bt_tuple rfl) pa_nil)))) (pe_ix (ix_tupK K rfl) (pv 0) pe_int (fun _ _ => rfl)) (pv 0)))), by
  replace h := h.2
 
  obtain ⟨q, rfl, rfl⟩ := h
  refine bg_ret ?_
  by_cases e : q.2 = 1
  · refine eg_if (b := false) (tg_test (eg_isi (eg_var rfl) (by rw [num_ty, if_pos e]; rfl))) (fun z => by cases z) fun _ => ?_
    unfold numD
    rw [if_pos e]
    exact eg_var rfl
  · refine eg_if (b := true) (tg_test (eg_isi (eg_var rfl) (by rw [num_ty, if_neg e]; rfl))) (fun _ => ?_) fun z => by cases z
    unfold numD
    rw [if_neg e]
    walk_at "eg"⟩
abbrev s_bottom_of : Stmt := top 29
abbrev N_bottom_of : List Str := ["value"]
theorem sc_bottom_of : FnScope N_bottom_of ["value"] (defScope s_bottom_of) := C8.fnScope_by (by decide +kernel)
theorem ok_bottom_of (T : Tx w K mg base) : Cl P w K mg base CX0 1 "bottom_of" (spD K fun ds d => ds.length = 1 ∧ P_bottom_of ds d) := cl_pure T.d_bottom_of T.g_bottom_of sc_bottom_of (fun _ _ h => h.1) (fun _ _ _ _ _ _ us hl => match us, hl with | [_], _ => rfl) fun cdv A outer s H E ds d hr h => ⟨_,
  (pss_one (ps_ret (pe_ifExp (pt_val (pe_callB (call_isiK K rfl) (by rfl) T.n_isinstance bt_isinstance (pa_cons (pv 0) (pa_cons (pe_bltn (v := .ty "tuple") (by rfl) T.n_tuple bt_tuple rfl) pa_nil)))) (pe_ix (ix_tupK K rfl) (pv 0) pe_int (fun _ _ => rfl)) pe_int))), by
  replace h := h.2
 
  obtain ⟨q, rfl, rfl⟩ := h
  refine bg_ret ?_
  by_cases e : q.2 = 1
  · refine eg_if (b := false) (tg_test (eg_isi (eg_var rfl) (by rw [num_ty, if_pos e]; rfl))) (fun z => by cases z) fun _ => ?_
    rw [e]
    exact eg_int
  · refine eg_if (b := true) (tg_test (eg_isi (eg_var rfl) (by rw [num_ty, if_neg e]; rfl))) (fun _ => ?_) fun z => by cases z
    unfold numD
    rw [if_neg e]
    walk_at "eg"⟩
abbrev s_is_number : Stmt := top 26
abbrev N_is_number : List Str := ["value"]
theorem sc_is_number : FnScope N_is_number ["value"] (defScope s_is_number) := C8.fnScope_by (by decide +kernel)
theorem ok_is_number (T : Tx w K mg base) : Cl P w K mg base CX0 2 "is_number" (spD K fun ds d => ds.length = 1 ∧ P_is_number ds d) := cl_pure T.d_is_number T.g_is_number sc_is_number (fun _ _ h => h.1) (fun _ _ _ _ _ _ us hl => match us, hl with | [_], _ => rfl) fun cdv A outer s H E ds d hr h => ⟨_,
  (pss_cons (ps_if (pt_val (pcl (ok_is_whole T) hr (by decide) pass0 (by rfl) (pa_cons (pv 0) pa_nil)))
    (pss_one (ps_ret pe_bl))
    pss_nil)
  (pss_cons (ps_if (PW.pt (pw_or (pt_not (pt_val (pe_callB (call_isiK K rfl) (by rfl) T.n_isinstance bt_isinstance (pa_cons (pv 0) (pa_cons (pe_bltn (v := .ty "tuple") (by rfl) T.n_tuple bt_tuple rfl) pa_nil))))) (pw_or (pt_cmpR op_ne (pe_callB (call_lenK K rfl) (by rfl) T.n_len bt_len (pa_cons (pv 0) pa_nil)) pe_int (nomark _)) (pw_or (pt_not (pt_val (pcl (ok_is_whole T) hr (by decide) pass0 (by rfl) (pa_cons (pe_ix (ix_tupK K rfl) (pv 0) pe_int (fun _ _ => rfl)) pa_nil)))) (pw_or1 (pt_not (pt_val (pcl (ok_is_whole T) hr (by decide) pass0 (by rfl) (pa_cons (pe_ix (ix_tupK K rfl) (pv 0) pe_int (fun _ _ => rfl)) pa_nil)))))))))
    (pss_one (ps_ret pe_bl))
    pss_nil)
  (pss_one (ps_ret (pe_and (pe_cmpR op_ge (pe_ix (ix_tupK K rfl) (pv 0) pe_int (fun _ _ => rfl)) pe_int (nomark _)) (pe_one (pe_cmpR op_eq (pe_callBfun cr_gcd (by rfl) T.g_gcd (pa_cons (pe_ix (ix_tupK K rfl) (pv 0) pe_int (fun _ _ => rfl)) (pa_cons (pe_ix (ix_tupK K rfl) (pv 0) pe_int (fun _ _ => rfl)) pa_nil))) pe_int (nomark _)))))))), by
  replace h := h.2
 
  obtain ⟨q, n, rfl, rfl⟩ := h
  by_cases e : q.2 = 1
  · refine bg_take (b := true) (tg_test (eg_call (ag_cons (eg_var rfl) ag_nil) ⟨rfl, _, rfl, ?_⟩)) rfl (bg_ret eg_bl) (fun z => by cases z)
    unfold numD
    rw [if_pos e]
    rfl
  · have e2 : numD q = .tuple [.int q.1, .int q.2] := by unfold numD; rw [if_neg e]
    rw [e2]
    have h2 : 2 ≤ q.2 := by have := n.pos; omega
    refine bg_skip (b := false) (tg_test (eg_call (ag_cons (eg_var rfl) ag_nil) ⟨rfl, _, rfl, rfl⟩)) rfl ?_
    refine bg_skip (tg_or (a := false) (b := false) (tg_not (a := true) (by walk_at "eg")) fun _ => tg_or (a := false) (b := false) ?_ fun _ => tg_or (a := false) (b := false) (tg_not (a := true) ?_) fun _ => tg_not (a := true) ?_) rfl ?_
    · exact tg_of (tg_test (eg_op (eg_cb (ag_cons (eg_var rfl) ag_nil) cg_lenT) eg_int rg_neI)) rfl
    · exact tg_test (eg_call (ag_cons (by walk_at "eg") ag_nil) ⟨rfl, _, rfl, rfl⟩)
    · exact tg_test (eg_call (ag_cons (by walk_at "eg") ag_nil) ⟨rfl, _, rfl, rfl⟩)
    · refine bg_ret (eg_of (eg_andV (eg_cmp (by walk_at "eg") eg_int) fun _ => eg_op (eg_cb (ag_cons (by walk_at "eg") (ag_cons (by walk_at "eg") ag_nil)) cg_gcd) eg_int rg_eqI) ?_)
      rw [n.cop]
      simp [h2]⟩
theorem gcd_pos' {t b : Int} (h : 0 < b) : 0 < (Int.gcd t b : Int) := by
  have : Int.gcd t b ≠ 0 := fun z => by
    have := (Int.gcd_eq_zero_iff.mp z).2
    omega
  omega
theorem gcd_le' {t b : Int} (h : 0 < b) : (Int.gcd t b : Int) ≤ b := Int.le_of_dvd h (Int.gcd_dvd_right ..)
abbrev s_made : Stmt := top 27
abbrev N_made : List Str := ["top", "bottom", "common"]
theorem sc_made : FnScope N_made ["top", "bottom"] (defScope s_made) := C8.fnScope_by (by decide +kernel)
theorem ok_made (T : Tx w K mg base) : Cl P w K mg base CX0 1 "made" (spD K fun ds d => ds.length = 2 ∧ P_made ds d) := cl_pure T.d_made T.g_made sc_made (fun _ _ h => h.1) (fun _ _ _ _ _ _ us hl => match us, hl with | [_, _], _ => rfl) fun cdv A outer s H E ds d hr h => ⟨_,
  (pss_cons (ps_set (i := 2) sc_made.nd rfl (Or.inl rfl) (pe_callBfun cr_gcd (by rfl) T.g_gcd (pa_cons (pv 0) (pa_cons (pv 1) pa_nil))))
  (pss_cons (ps_if (pt_cmpR op_lt (pv 1) pe_int (nomark _))
    (pss_one (ps_set (i := 2) sc_made.nd rfl (Or.inl rfl) (pe_op op_sub pe_int (pv 2))))
    pss_nil)
  (pss_cons (ps_par (i := 0) (j := 1) (by rfl) sc_made.nd rfl rfl (by decide) rfl rfl (pa_cons (pe_op op_fdiv (pv 0) (pv 2)) (pa_cons (pe_op op_fdiv (pv 1) (pv 2)) pa_nil)) (by rfl))
  (pss_one (ps_ret (pe_ifExp (pt_cmpR op_eq (pv 1) pe_int (nomark _)) (pv 0) (pe_tup (pa_cons (pv 0) (pa_cons (pv 1) pa_nil))))))))), by
  replace h := h.2
 
  obtain ⟨t, b, hb, hb2, rfl, rfl⟩ := h
  have g1 := gcd_pos' (t := t) hb
  have g2 := gcd_le' (t := t) hb
  refine bg_asg (by walk_at "eg") ?_
  refine bg_skip (b := false) (tg_of (tg_test (eg_cmp (eg_var rfl) eg_int)) (by simp; omega)) rfl ?_
  refine bg_par (ag_cons (eg_ic (eg_var rfl) (eg_var rfl) ⟨g1, by omega⟩) (ag_cons (eg_ic (eg_var rfl) (eg_var rfl) ⟨g1, by omega⟩) ag_nil)) ?_
  refine bg_ret (eg_of (eg_ite (tg_test (eg_op (eg_var rfl) eg_int rg_eqI)) (fun _ => eg_var rfl) fun _ => by walk_at "eg") ?_)
  unfold numD red
  simp⟩
abbrev s_over : Stmt := top 30
abbrev N_over : List Str := ["one", "other"]
theorem sc_over : FnScope N_over ["one", "other"] (defScope s_over) := C8.fnScope_by (by decide +kernel)
theorem ok_over (T : Tx w K mg base) : Cl P w K mg base CX0 2 "over" (spD K fun ds d => ds.length = 2 ∧ P_over ds d) := cl_pure T.d_over T.g_over sc_over (fun _ _ h => h.1) (fun _ _ _ _ _ _ us hl => match us, hl with | [_, _], _ => rfl) fun cdv A outer s H E ds d hr h => ⟨_,
  (pss_one (ps_ret (pcl (ok_made T) hr (by decide) pass0 (by rfl) (pa_cons (pe_op op_mul (pcl (ok_top_of T) hr (by decide) pass0 (by rfl) (pa_cons (pv 0) pa_nil)) (pcl (ok_bottom_of T) hr (by decide) pass0 (by rfl) (pa_cons (pv 1) pa_nil))) (pa_cons (pe_op op_mul (pcl (ok_bottom_of T) hr (by decide) pass0 (by rfl) (pa_cons (pv 0) pa_nil)) (pcl (ok_top_of T) hr (by decide) pass0 (by rfl) (pa_cons (pv 1) pa_nil))) pa_nil))))), by
  replace h := h.2
 
  obtain ⟨q, n, rfl, rfl⟩ := h
  have := n.pos
  have := n.le
  have := n.lo
  have := n.hi
  refine bg_ret (eg_call (ag_cons (eg_ic (eg_call (ag_cons (eg_var rfl) ag_nil) ⟨rfl, q, rfl, rfl⟩) (eg_call (ag_cons (eg_var rfl) ag_nil) ⟨rfl, (2, 1), rfl, rfl⟩) ?_) (ag_cons (eg_ic (eg_call (ag_cons (eg_var rfl) ag_nil) ⟨rfl, q, rfl, rfl⟩) (eg_call (ag_cons (eg_var rfl) ag_nil) ⟨rfl, (2, 1), rfl, rfl⟩) ?_) ag_nil)) ⟨rfl, q.1, q.2 * 2, by omega, by omega, ?_, rfl⟩)
  · exact .inl ⟨by omega, by omega⟩
  · exact .inl ⟨by omega, by omega⟩
  · simp⟩
abbrev s_is_less : Stmt := top 31
abbrev N_is_less : List Str := ["one", "other"]
theorem sc_is_less : FnScope N_is_less ["one", "other"] (defScope s_is_less) := C8.fnScope_by (by decide +kernel)
theorem ok_is_less (T : Tx w K mg base) : Cl P w K mg base CX0 2 "is_less" (spD K fun ds d => ds.length = 2 ∧ P_is_less ds d) := cl_pure T.d_is_less T.g_is_less sc_is_less (fun _ _ h => h.1) (fun _ _ _ _ _ _ us hl => match us, hl with | [_, _], _ => rfl) fun cdv A outer s H E ds d hr h => ⟨_,
  (pss_one (ps_ret (pe_cmpR op_lt (pe_op op_mul (pcl (ok_top_of T) hr (by decide) pass0 (by rfl) (pa_cons (pv 0) pa_nil)) (pcl (ok_bottom_of T) hr (by decide) pass0 (by rfl) (pa_cons (pv 1) pa_nil))) (pe_op op_mul (pcl (ok_top_of T) hr (by decide) pass0 (by rfl) (pa_cons (pv 1) pa_nil)) (pcl (ok_bottom_of T) hr (by decide) pass0 (by rfl) (pa_cons (pv 0) pa_nil))) (nomark _)))), by
  replace h := h.2
 
  obtain ⟨q, n, rfl, rfl⟩ := h
  have := n.pos
  have := n.le
  have := n.lo
  have := n.hi
  refine bg_ret (eg_of (eg_cmp (eg_ic (eg_call (ag_cons (eg_var rfl) ag_nil) ⟨rfl, q, rfl, rfl⟩) (eg_call (ag_cons (eg_var rfl) ag_nil) ⟨rfl, (0, 1), rfl, rfl⟩) ?_) (eg_ic (eg_call (ag_cons (eg_var rfl) ag_nil) ⟨rfl, (0, 1), rfl, rfl⟩) (eg_call (ag_cons (eg_var rfl) ag_nil) ⟨rfl, q, rfl, rfl⟩) ?_)) ?_)
  · exact .inl ⟨by omega, by omega⟩
  · exact .inl ⟨by omega, by omega⟩
  · simp
    omega⟩
theorem lcm_step {c : Int} {q : Q2} (n : Num q) (h0 : 0 < c) (h1 : c ∣ 12) : 0 < lcmF c q ∧ lcmF c q ∣ 12 ∧ c ∣ lcmF c q ∧ q.2 ∣ lcmF c q := by
  have g := gcd_pos' (t := c) n.pos
  have e : lcmF c q = (Int.lcm c q.2 : Nat) := by
    unfold lcmF
    refine Int.ediv_eq_of_eq_mul_right (by omega) ?_
    have := Int.gcd_mul_lcm c q.2
    have h := Int.mul_pos h0 n.pos
    rw [← Int.natCast_mul, this, Int.natCast_mul, Int.natAbs_of_nonneg (by omega), Int.natAbs_of_nonneg (Int.le_of_lt n.pos)]
  rw [e]
  refine ⟨?_, (Int.natCast_dvd_natCast (n := 12)).mpr (Int.lcm_dvd h1 n.dv), Int.dvd_lcm_left .., Int.dvd_lcm_right ..⟩
  have : Int.lcm c q.2 ≠ 0 := fun z => by
    rcases Int.lcm_eq_zero_iff.mp z with y | y
    · omega
    · have := n.pos; omega
  omega
theorem comm_ok {qs : List Q2} (h : ∀ q ∈ qs, Num q) {c : Int} (h0 : 0 < c) (h1 : c ∣ 12) : 0 < qs.foldl lcmF c ∧ qs.foldl lcmF c ∣ 12 ∧ c ∣ qs.foldl lcmF c ∧ ∀ q ∈ qs, q.2 ∣ qs.foldl lcmF c := by
  induction qs generalizing c with
  | nil => exact ⟨h0, h1, Int.dvd_refl _, fun _ z => by cases z⟩
  | cons q qs ih =>
    obtain ⟨a, b, d, e⟩ := lcm_step (h q (by simp)) h0 h1
    obtain ⟨a', b', d', e'⟩ := ih (fun q' hq => h q' (by simp [hq])) a b
    refine ⟨a', b', Int.dvd_trans d d', fun q' hq => ?_⟩
    rcases List.mem_cons.mp hq with z | z
    · rw [z]; exact Int.dvd_trans e d'
    · exact e' q' z
abbrev s_common_bottom : Stmt := top 32
abbrev N_common_bottom : List Str := ["numbers", "found", "one", "bottom"]
theorem sc_common_bottom : FnScope N_common_bottom ["numbers"] (defScope s_common_bottom) := C8.fnScope_by (by decide +kernel)
theorem ok_common_bottom (T : Tx w K mg base) : Cl P w K mg base CX0 2 "common_bottom" (spD K fun ds d => ds.length = 1 ∧ P_common_bottom ds d) := cl_pure T.d_common_bottom T.g_common_bottom sc_common_bottom (fun _ _ h => h.1) (fun _ _ _ _ _ _ us hl => match us, hl with | [_], _ => rfl) fun cdv A outer s H E ds d hr h => ⟨_,
  (pss_cons (ps_set (i := 1) sc_common_bottom.nd rfl (Or.inl rfl) pe_int)
  (pss_cons (ps_for PassesOwn.never rfl (pi_list (pv 0)) (pg_name (i := 2) sc_common_bottom.nd rfl (Or.inl rfl))
    (pss_cons (ps_set (i := 3) sc_common_bottom.nd rfl (Or.inl rfl) (pcl (ok_bottom_of T) hr (by decide) pass0 (by rfl) (pa_cons (pv 2) pa_nil)))
  (pss_one (ps_set (i := 1) sc_common_bottom.nd rfl (Or.inl rfl) (pe_op op_fdiv (pe_op op_mul (pv 1) (pv 3)) (pe_callBfun cr_gcd (by rfl) T.g_gcd (pa_cons (pv 1) (pa_cons (pv 3) pa_nil))))))))
  (pss_one (ps_ret (pv 1))))), by
  replace h := h.2
 
  obtain ⟨qs, n, hz, rfl, rfl⟩ := h
  refine bg_asg eg_int ?_
  have hc : ∀ i, 0 < comm (qs.take i) ∧ comm (qs.take i) ∣ 12 := fun i => by
    obtain ⟨a, b, _⟩ := comm_ok (qs := qs.take i) (fun q hq => n q (List.mem_of_mem_take hq)) (c := 1) (by decide) (by decide)
    exact ⟨a, b⟩
  refine bg_seq (sg_for (ig_lst (eg_var rfl)) (fun i => [some (.d (.list (qs.map numD))), some (.d (.int (comm (qs.take i)))), none, none]) rfl fun i q hq => ?_) (bg_ret ?_)
  · have nq := n q (List.mem_of_getElem? hq)
    have c := hc i
    have := Int.le_of_dvd (by decide) c.2
    have := nq.pos
    have := nq.le
    have g1 := gcd_pos' (t := comm (qs.take i)) nq.pos
    have g2 := gcd_le' (t := comm (qs.take i)) nq.pos
    refine sg_weak (sg_seq (sg_asg (eg_call (ag_cons (eg_var rfl) ag_nil) ⟨rfl, q, rfl, rfl⟩)) (sg_asg (eg_ic (eg_ic (eg_var rfl) (eg_var rfl) (.inl ⟨by omega, by omega⟩)) (by walk_at "eg") ⟨g1, by omega⟩))) ⟨.inr rfl, .inr ?_, .inl rfl, .inl rfl, trivial⟩
    rw [comm, fold_step hq]
    rfl
  · rw [List.take_length]
    exact eg_var rfl⟩
abbrev s_in_wholes : Stmt := top 33
abbrev N_in_wholes : List Str := ["numbers", "common", "one"]
theorem sc_in_wholes : FnScope N_in_wholes ["numbers", "common"] (defScope s_in_wholes) := C8.fnScope_by (by decide +kernel)
theorem ok_in_wholes (T : Tx w K mg base) : Cl P w K mg base CX0 2 "in_wholes" (spD K fun ds d => ds.length = 2 ∧ P_in_wholes ds d) := cl_pure T.d_in_wholes T.g_in_wholes sc_in_wholes (fun _ _ h => h.1) (fun _ _ _ _ _ _ us hl => match us, hl with | [_, _], _ => rfl) fun cdv A outer s H E ds d hr h => ⟨_,
  (pss_one (ps_ret (pe_lc (own := [("one", 2)]) rfl sc_in_wholes.nd (pi_list (pv 0)) (blkOk_by (own := [("one", 2)]) (N := N_in_wholes) (sc := defScope s_in_wholes) (by decide +kernel)) (fun _ _ _ _ _ => (pg_name (i := 2) sc_in_wholes.nd rfl (Or.inl rfl))) (fun _ _ _ _ _ => pts_nil) (fun _ _ _ _ _ => (pe_op op_mul (pcl (ok_top_of T) hr (by decide) pass0 (by rfl) (pa_cons (pv 2) pa_nil)) (pe_op op_fdiv (pv 1) (pcl (ok_bottom_of T) hr (by decide) pass0 (by rfl) (pa_cons (pv 2) pa_nil)))))))), by
  replace h := h.2
 
  obtain ⟨qs, c, n, hz, hc, hd, rfl, rfl⟩ := h
  have := Int.le_of_dvd (by decide) hd
  rw [List.map_map]
  refine bg_ret (eg_lcA (ig_lst (eg_var rfl)) hz (fun j hj => by simpa using hj) fun q hq => ?_)
  have nq := n q hq
  have := nq.pos
  have := nq.le
  have := nq.lo
  have := nq.hi
  exact eg_ic (eg_call (ag_cons (eg_var rfl) ag_nil) ⟨rfl, q, rfl, rfl⟩) (eg_ic (eg_var rfl) (eg_call (ag_cons (eg_var rfl) ag_nil) ⟨rfl, q, rfl, rfl⟩) ⟨by omega, by omega⟩) (.inl ⟨by omega, by omega⟩)⟩
end
end K13
namespace K13
open PySem PySem.Spec PyProof.Rows L2
open Evl (Ex fresh_back ex_l ex_t)
/-- one step of reading an expression's worth -/
local macro_rules | `(tactic| walk_at "eg1") => `(tactic| first
  | exact eg_var rfl | exact eg_int | exact eg_str | exact eg_bl | exact eg_non | exact tg_yes | exact og_none
  | apply og_some
  | apply tg_test | apply tg_B | apply tg_not | apply eg_notV | apply eg_neg
  | apply eg_isi
  | apply eg_ixT | apply eg_ixL
  | apply eg_cmp | apply eg_i0 | apply eg_ic
  | apply eg_op (hr := rg_eqI) | apply eg_op (hr := rg_eqS) | apply eg_op (hr := rg_neI) | apply eg_op (hr := rg_neS)
  | apply eg_cb (hr := cg_gcd)
  | exact (rfl : atI _ _ = _) | exact (rfl : kitB _ _ = _)
  | exact ag_nil | apply ag_cons
  | exact (by assumption : EG _ _ _ _ _) | apply eg_tup | apply eg_lst | exact Nat.le_of_ble_eq_true rfl)
local macro_rules | `(tactic| walk_at "eg") => `(tactic| repeat' walk_at "eg1")
def letters : Str := "abcdefghijklmnopqrstuvwxyz"
def digits : Str := "0123456789"
def nameB (x : Str) : Bool := decide (1 ≤ x.length) && decide (x.length ≤ 8) && (match x.cps.toList with | [] => false | c :: _ => decide (c ∈ letters.cps.toList)) && x.cps.toList.all fun c => decide (c ∈ (letters ++ digits).cps.toList)
abbrev SLt (x y : Str) : Prop := x.cps.toList < y.cps.toList
structure Names (xs : List Str) : Prop where
  ok : ∀ x ∈ xs, nameB x = true
  asc : xs.Pairwise SLt
  len : xs.length ≤ 1000
structure Taps (xs : List Str) : Prop where
  nm : Names xs
  lo : 2 ≤ xs.length
  hi : xs.length ≤ 6
def strsD (xs : List Str) : PyData := .tuple (xs.map .str)
def subs (xs : List Str) : List (List Str) := xs.foldl (fun f t => f ++ f.map (· ++ [t])) [[]]
def sortL (ls : List (List Str)) : List (List Str) := ls.mergeSort (PySem.W.dataLe false strsD)
def lotsF (xs : List Str) : List (List Str) := sortL ((subs xs).filter fun l => decide (0 < l.length) && decide (l.length < xs.length))
def otherF (xs l : List Str) : List Str := xs.filter fun x => !decide (x ∈ l)
def plainF (xs l : List Str) : List Str := if l.length ≠ (otherF xs l).length then (if l.length < (otherF xs l).length then l else otherF xs l) else if xs.getD 0 "" ∈ l then l else otherF xs l
def plainsF (xs : List Str) (s : Str) : List (List Str) := if s = "leads" then lotsF xs else (lotsF xs).filter fun l => decide (plainF xs l = l)
def sortsL : List Str := ["pipes", "leads", "hubs"]
theorem SLt.trans {x y z : Str} (h : SLt x y) (k : SLt y z) : SLt x z := List.lt_trans h k
theorem asc_zip : ∀ {xs : List Str}, xs.Pairwise SLt → ∀ z ∈ xs.zip xs.tail, SLt z.1 z.2
  | [], _, z, h => by simp at h
  | [x], _, z, h => by simp at h
  | x :: y :: r, p, z, h => by
    rw [List.pairwise_cons] at p
    rcases List.mem_cons.mp h with q | q
    · rw [q]; exact p.1 y (by simp)
    · exact asc_zip p.2 z q
theorem subs_len {xs : List Str} : (subs xs).length = 2 ^ xs.length ∧ ∀ l ∈ subs xs, l.length ≤ xs.length := by
  have : ∀ (xs : List Str) (f : List (List Str)) (m : Nat), (∀ l ∈ f, l.length ≤ m) → (xs.foldl (fun f t => f ++ f.map (· ++ [t])) f).length = f.length * 2 ^ xs.length ∧ ∀ l ∈ xs.foldl (fun f t => f ++ f.map (· ++ [t])) f, l.length ≤ m + xs.length := by
    intro xs
    induction xs with
    | nil => intro f m h; exact ⟨by simp, fun l hl => by simpa using h l hl⟩
    | cons t ts ih =>
      intro f m h
      obtain ⟨a, b⟩ := ih (f ++ f.map (· ++ [t])) (m + 1) (fun l hl => by
        rcases List.mem_append.mp hl with q | q
        · have := h l q; omega
        · obtain ⟨k, hk, rfl⟩ := List.mem_map.mp q
          have := h k hk
          simp
          omega)
      refine ⟨?_, fun l hl => ?_⟩
      · rw [List.foldl_cons, a, List.length_append, List.length_map, List.length_cons, Nat.pow_succ]
        rw [← Nat.two_mul, Nat.mul_comm 2, Nat.mul_assoc, Nat.mul_comm 2]
      · have := b l hl
        rw [List.length_cons]
        omega
  obtain ⟨a, b⟩ := this xs [[]] 0 (fun l hl => by simp at hl; simp [hl])
  exact ⟨by unfold subs; simpa using a, fun l hl => by simpa using b l hl⟩
theorem subs_mem {xs l : List Str} (h : l ∈ subs xs) : ∀ y ∈ l, y ∈ xs := by
  have : ∀ (xs ys : List Str) (f : List (List Str)), (∀ l ∈ f, ∀ y ∈ l, y ∈ ys) → ∀ l ∈ xs.foldl (fun f t => f ++ f.map (· ++ [t])) f, ∀ y ∈ l, y ∈ ys ++ xs := by
    intro xs
    induction xs with
    | nil => intro ys f h l hl y hy; simpa using h l hl y hy
    | cons t ts ih =>
      intro ys f h l hl y hy
      have := ih (ys ++ [t]) (f ++ f.map (· ++ [t])) (fun l hl y hy => by
        rcases List.mem_append.mp hl with q | q
        · exact List.mem_append_left _ (h l q y hy)
        · obtain ⟨k, hk, rfl⟩ := List.mem_map.mp q
          rcases List.mem_append.mp hy with q | q
          · exact List.mem_append_left _ (h k hk y q)
          · exact List.mem_append_right _ q) l hl y hy
      simpa using this
  have := this xs [] [[]] (fun l hl y hy => by simp at hl; simp [hl] at hy) l h
  simpa using this
theorem lots_mem {xs l : List Str} (h : l ∈ lotsF xs) : l ∈ subs xs ∧ 0 < l.length ∧ l.length < xs.length := by
  unfold lotsF sortL at h
  have h := List.mem_mergeSort.mp h
  obtain ⟨a, b⟩ := List.mem_filter.mp h
  simp at b
  exact ⟨a, by omega, b.2⟩
theorem other_mem {xs l : List Str} {y : Str} (h : y ∈ otherF xs l) : y ∈ xs := (List.mem_filter.mp h).1
theorem plain_mem {xs l : List Str} (h : l ∈ subs xs) {y : Str} (hy : y ∈ plainF xs l) : y ∈ xs := by
  unfold plainF at hy
  split at hy
  · split at hy
    · exact subs_mem h y hy
    · exact other_mem hy
  · split at hy
    · exact subs_mem h y hy
    · exact other_mem hy
theorem eqv_strs : ∀ xs ys : List Str, PyData.eqvAll (xs.map .str) (ys.map .str) = decide (xs = ys)
  | [], [] => rfl
  | [], _ :: _ => rfl
  | _ :: _, [] => rfl
  | x :: xs, y :: ys => by
    rw [List.map_cons, List.map_cons, PySem.W.eqv_all_cons, eqv_strs xs ys]
    show (decide (x = y) && decide (xs = ys)) = decide (x :: xs = y :: ys)
    by_cases e : x = y <;> by_cases f : xs = ys <;> simp [e, f]
theorem cg_allM {K : PySem.W.Frag} {β : Type} {zs : List β} {f : β → Bool} : CG K (rAll K) [.list (zs.map fun z => .bool (f z))] (.bool (zs.all f)) := by
  have h := cg_all (K := K) (bs := zs.map f)
  rw [List.map_map, List.all_map] at h
  exact h
theorem cg_anyM {K : PySem.W.Frag} {β : Type} {zs : List β} {f : β → Bool} : CG K (rAny K) [.list (zs.map fun z => .bool (f z))] (.bool (zs.any f)) := by
  have h := cg_any (K := K) (bs := zs.map f)
  rw [List.map_map, List.any_map] at h
  exact h
theorem cg_sumM {K : PySem.W.Frag} {β : Type} {zs : List β} {f : β → Int} : CG K (rSum K) [.list (zs.map fun z => .int (f z))] (.int (zs.map f).sum) := by
  have h := cg_sum (K := K) (ns := zs.map f)
  rw [List.map_map] at h
  exact h
theorem eg_inC {K : PySem.W.Frag} {L : SH} {G : Gm} {ta : TE} {x : Str} {xs : List Str} {a : Addr} (ha : EG K L G ta (.str x)) (h : ∀ H, SqT K H a (xs.map V.str)) : EG K L G (tOp (rIn K false) ta (tC (.ref a))) (.bool (decide (x ∈ xs))) := fun σ N H n ex Q q =>
  ha σ N H n ex _ fun v N1 H1 w1 k1 => by
    rw [dp_str k1]
    refine ⟨a, _, rfl, .inr (h H1), rfl, flat_strs, ?_⟩
    rw [if_neg Bool.false_ne_true, inV_str]
    exact q _ N1 H1 w1 (.bl _)
theorem cutD_tail {α : Type} (xs : List α) : cutD xs (some 1) none = xs.tail := by
  cases xs with
  | nil => rfl
  | cons x r =>
    unfold cutD
    rw [show HT.sIx (x :: r).length 0 (some 1) = 1 from by show HT.sIx (x :: r).length 0 (some ((1 : Nat) : Int)) = 1; rw [HT.sIx_nat]; simp]
    simp [HT.sIx_none]
theorem name_lay {x : Str} (h : nameB x = true) : PyData.strOk x = true := by
  unfold nameB at h
  rw [Bool.and_eq_true] at h
  have h4 := h.2
  have hc : ∀ c ∈ (letters ++ digits).cps.toList, c < 0x110000 := by decide
  unfold PyData.strOk
  rw [Array.all_eq_true']
  intro c hm
  have := List.all_eq_true.mp h4 c (Array.mem_toList_iff.mpr hm)
  exact decide_eq_true (hc c (of_decide_eq_true this))
theorem lay_strs : ∀ xs : List Str, (∀ x ∈ xs, nameB x = true) → PyData.canLayAll0 (xs.map .str) = true
  | [], _ => rfl
  | x :: xs, h => by
    show (PyData.strOk x && PyData.canLayAll0 (xs.map .str)) = true
    rw [lay_strs xs fun y hy => h y (by simp [hy]), name_lay (h x (by simp))]
    rfl
theorem depth_strs : ∀ xs : List Str, PyData.depthAll (xs.map .str) = 0
  | [] => rfl
  | x :: xs => by
    show max 0 (PyData.depthAll (xs.map .str)) = 0
    rw [depth_strs xs]
    rfl
theorem shaped_strs {xs : List Str} (h : ∀ x ∈ xs, nameB x = true) : SeqAt.shaped (strsD xs) = true := by
  show (PyData.canLayAll0 (xs.map .str) && decide (PyData.depthAll (xs.map .str) + 1 ≤ 64)) = true
  rw [lay_strs xs h, depth_strs]
  rfl
theorem eqv_strsD (xs ys : List Str) : PyData.eqv (strsD xs) (strsD ys) = decide (xs = ys) := eqv_strs xs ys
section
variable {P : Program} {w : World} {K : PySem.W.Frag} {mg : Str → Option Value} {base : Heap}
def P_is_name (ds : List PyData) (d : PyData) : Prop := ∃ x, nameB x = true ∧ ds = [.str x] ∧ d = .bool true
def P_are_names (ds : List PyData) (d : PyData) : Prop := ∃ xs, Names xs ∧ ds = [strsD xs] ∧ d = .bool true
def P_is_taps (ds : List PyData) (d : PyData) : Prop := ∃ xs, Taps xs ∧ ds = [strsD xs] ∧ d = .bool true
def P_need_taps (ds : List PyData) (d : PyData) : Prop := ∃ xs, Taps xs ∧ ds = [strsD xs] ∧ d = .none
def P_is_sort (ds : List PyData) (d : PyData) : Prop := ∃ s, s ∈ sortsL ∧ ds = [.str s] ∧ d = .bool true
def P_need_sort (ds : List PyData) (d : PyData) : Prop := ∃ s, s ∈ sortsL ∧ ds = [.str s] ∧ d = .none
def P_lots (ds : List PyData) (d : PyData) : Prop := ∃ xs, Taps xs ∧ ds = [strsD xs] ∧ d = .list ((lotsF xs).map strsD)
def P_other_taps (ds : List PyData) (d : PyData) : Prop := ∃ xs l : List Str, xs.length ≤ 1000 ∧ ds = [strsD xs, strsD l] ∧ d = strsD (otherF xs l)
def P_made_plain (ds : List PyData) (d : PyData) : Prop := ∃ xs l : List Str, 1 ≤ xs.length ∧ xs.length ≤ 1000 ∧ ds = [strsD xs, strsD l] ∧ d = strsD (plainF xs l)
def P_plain_lots (ds : List PyData) (d : PyData) : Prop := ∃ xs s, Taps xs ∧ s ∈ sortsL ∧ ds = [strsD xs, .str s] ∧ d = .list ((plainsF xs s).map strsD)
abbrev s_is_name : Stmt := top 14
abbrev N_is_name : List Str := ["value", "sign"]
theorem sc_is_name : FnScope N_is_name ["value"] (defScope s_is_name) := C8.fnScope_by (by decide +kernel)
theorem ok_is_name (T : Tx w K mg base) : Cl P w K mg base CX0 1 "is_name" (spD K fun ds d => ds.length = 1 ∧ P_is_name ds d) := cl_pure T.d_is_name T.g_is_name sc_is_name (fun _ _ h => h.1) (fun _ _ _ _ _ _ us hl => match us, hl with | [_], _ => rfl) fun cdv A outer s H E ds d hr h => ⟨_,
  (pss_cons (ps_if (PW.pt (pw_or (pt_not (pt_val (pe_callB (call_isiK K rfl) (by rfl) T.n_isinstance bt_isinstance (pa_cons (pv 0) (pa_cons (pe_bltn (v := .ty "str") (by rfl) T.n_str bt_str rfl) pa_nil))))) (pw_or (pt_not (pt_chain op_le op_le pe_int (pe_callB call_len_str (by rfl) T.n_len bt_len (pa_cons (pv 0) pa_nil)) pe_int)) (pw_or1 (pt_cmpR op_notIn_sign (pe_ix ix_str (pv 0) pe_int (fun _ _ => rfl)) (C8.pe_gc (by rfl) T.c_LETTERS) (by rfl))))))
    (pss_one (ps_ret pe_bl))
    pss_nil)
  (pss_one (ps_ret (pe_cmpR (op_eqDK K rfl hr.units) (pe_lc (own := [("sign", 1)]) rfl sc_is_name.nd (pi_str (pv 0)) (blkOk_by (own := [("sign", 1)]) (N := N_is_name) (sc := defScope s_is_name) (by decide +kernel)) (fun _ _ _ _ _ => (pg_name (i := 1) sc_is_name.nd rfl (Or.inl rfl))) (fun _ _ _ _ _ => pts_one (pt_cmpR op_notIn_sign (pv 1) (pe_op op_add_str (C8.pe_gc (by rfl) T.c_LETTERS) (C8.pe_gc (by rfl) T.c_DIGITS)) (by rfl))) (fun _ _ _ _ _ => (pv 1))) (pe_lst pa_nil) (nomark _))))), by
  replace h := h.2
 
  obtain ⟨x, hx, rfl, rfl⟩ := h
  unfold nameB at hx
  rw [Bool.and_eq_true, Bool.and_eq_true, Bool.and_eq_true] at hx
  obtain ⟨⟨⟨h1, h2⟩, h3⟩, h4⟩ := hx
  have h1 := of_decide_eq_true h1
  have h2 := of_decide_eq_true h2
  cases hc : x.cps.toList with
  | nil => rw [hc] at h3; cases h3
  | cons c cs =>
  rw [hc] at h3
  have hl : x.length ≤ sizeLine := by rw [sizeLine_eq]; omega
  refine bg_skip (tg_or (a := false) (b := false) (tg_not (a := true) (by walk_at "eg")) fun _ => tg_or (a := false) (b := false) (tg_not (a := true) (tg_of (tg_test (eg_chain eg_int (eg_cb (ag_cons (eg_var rfl) ag_nil) (cg_lenS hl)) rg_b0 (fun _ => eg_int) fun _ => rg_b0)) ?_)) fun _ => tg_of (tg_test (eg_op (eg_ixS (eg_var rfl) eg_int hl (c := c) ?_) eg_str rg_signNi)) ?_) rfl ?_
  · simp; omega
  · rw [hc]; simp [atI, ixN]
  · have := of_decide_eq_true h3
    simpa [letters] using this
  · refine bg_ret (eg_of (eg_eqD (eg_lc (p := fun c => !decide (c ∈ (letters ++ digits).cps.toList)) (f := fun c => .str ⟨#[c]⟩) (ig_str (eg_var rfl)) ?_ (fun j hj => by simpa using hj) (fun z _ => ?_) fun z _ _ => eg_var rfl) (eg_lst ag_nil (by decide)) ?_ rfl) ?_)
    · rw [show x.cps.toList.length = x.length from Array.length_toList]; omega
    · exact tg_test (eg_op (eg_var rfl) (eg_op eg_str eg_str (rg_catS (by decide))) rg_signNi)
    all_goals
      rw [List.filter_eq_nil_iff.mpr fun c hcm => ?_]
      · rfl
      · have := List.all_eq_true.mp h4 c hcm
        exact fun z => by rw [this] at z; cases z⟩
abbrev s_are_names : Stmt := top 15
abbrev N_are_names : List Str := ["value", "one", "other"]
theorem sc_are_names : FnScope N_are_names ["value"] (defScope s_are_names) := C8.fnScope_by (by decide +kernel)
theorem ok_are_names (T : Tx w K mg base) : Cl P w K mg base CX0 2 "are_names" (spD K fun ds d => ds.length = 1 ∧ P_are_names ds d) := cl_pure T.d_are_names T.g_are_names sc_are_names (fun _ _ h => h.1) (fun _ _ _ _ _ _ us hl => match us, hl with | [_], _ => rfl) fun cdv A outer s H E ds d hr h => ⟨_,
  (pss_cons (ps_if (PW.pt (pw_or (pt_not (pt_val (pe_callB (call_isiK K rfl) (by rfl) T.n_isinstance bt_isinstance (pa_cons (pv 0) (pa_cons (pe_bltn (v := .ty "tuple") (by rfl) T.n_tuple bt_tuple rfl) pa_nil))))) (pw_or1 (pt_not (pt_val (pe_callB (cr_all rfl) (by rfl) T.n_all bt_all (pa_cons (pe_lc (own := [("one", 1)]) rfl sc_are_names.nd (pi_tup (pv 0)) (blkOk_by (own := [("one", 1)]) (N := N_are_names) (sc := defScope s_are_names) (by decide +kernel)) (fun _ _ _ _ _ => (pg_name (i := 1) sc_are_names.nd rfl (Or.inl rfl))) (fun _ _ _ _ _ => pts_nil) (fun _ _ _ _ _ => (pcl (ok_is_name T) hr (by decide) pass0 (by rfl) (pa_cons (pv 1) pa_nil)))) pa_nil)))))))
    (pss_one (ps_ret pe_bl))
    pss_nil)
  (pss_one (ps_ret (pe_callB (cr_all rfl) (by rfl) T.n_all bt_all (pa_cons (pe_lc (own := [("one", 1), ("other", 2)]) rfl sc_are_names.nd (RZ.pi_zipA (by rfl) T.n_zip (pa_cons (pv 0) (pa_cons (pe_slice (sl_tupK K rfl) (pv 0) (po_some pe_int) po_none) pa_nil))) (blkOk_by (own := [("one", 1), ("other", 2)]) (N := N_are_names) (sc := defScope s_are_names) (by decide +kernel)) (fun _ _ _ _ _ => (pg_tupK (n := 2) K rfl rfl (pgs_cons (pg_name (i := 1) sc_are_names.nd rfl (Or.inl rfl) (.inr rfl)) (pgs_cons (pg_name (i := 2) sc_are_names.nd rfl (Or.inl rfl) (.inr rfl)) pgs_nil)) (by rfl) (by rfl))) (fun _ _ _ _ _ => pts_nil) (fun _ _ _ _ _ => (pe_cmpR op_lt_str (pv 1) (pv 2) (nomark _)))) pa_nil))))), by
  replace h := h.2
 
  obtain ⟨xs, n, rfl, rfl⟩ := h
  have hz := n.len
  refine bg_skip (tg_or (a := false) (b := false) (tg_not (a := true) (tg_test (eg_isi (eg_var rfl) rfl))) fun _ => tg_not (a := true) (tg_of (tg_test (eg_cb (ag_cons (eg_lcA (f := fun _ : Str => PyData.bool true) (ig_tup (eg_var rfl)) (by omega) (fun j hj => by simpa using hj) fun z hz => ?_) ag_nil) (cg_allM (f := fun _ => true)))) ?_)) rfl ?_
  · exact eg_call (ag_cons (eg_var rfl) ag_nil) ⟨rfl, z, n.ok z hz, rfl, rfl⟩
  · simp
  · refine bg_ret (eg_of (eg_cb (ag_cons (eg_lcA (f := fun z : Str × Str => PyData.bool (decide (SLt z.1 z.2))) (ig_zipT (g := .str) (h := .str) (xs := xs) (ys := xs.tail) (ag_cons (eg_var rfl) (ag_cons (eg_of (eg_slT (eg_var rfl) (og_some eg_int) og_none) ?_) ag_nil))) ?_ (fun j hj => by simpa using hj) fun z hz => eg_ltS (eg_var rfl) (eg_var rfl)) ag_nil) (cg_allM (f := fun z : Str × Str => decide (SLt z.1 z.2)))) ?_)
    · rw [cutD_tail, List.map_tail]
    · simp; omega
    · rw [show ((xs.zip xs.tail).all fun z => decide (SLt z.1 z.2)) = true from List.all_eq_true.mpr fun z hz => decide_eq_true (asc_zip n.asc z hz)]⟩
abbrev s_is_taps : Stmt := top 16
abbrev N_is_taps : List Str := ["value"]
theorem sc_is_taps : FnScope N_is_taps ["value"] (defScope s_is_taps) := C8.fnScope_by (by decide +kernel)
theorem ok_is_taps (T : Tx w K mg base) : Cl P w K mg base CX0 3 "is_taps" (spD K fun ds d => ds.length = 1 ∧ P_is_taps ds d) := cl_pure T.d_is_taps T.g_is_taps sc_is_taps (fun _ _ h => h.1) (fun _ _ _ _ _ _ us hl => match us, hl with | [_], _ => rfl) fun cdv A outer s H E ds d hr h => ⟨_,
  (pss_one (ps_ret (pe_and (pcl (ok_are_names T) hr (by decide) pass0 (by rfl) (pa_cons (pv 0) pa_nil)) (pe_one (pe_chain op_le op_le (C8.pe_gc (by rfl) T.c_LEAST_TAPS) (pe_callB (call_lenK K rfl) (by rfl) T.n_len bt_len (pa_cons (pv 0) pa_nil)) (C8.pe_gc (by rfl) T.c_MOST_TAPS)))))), by
  replace h := h.2
 
  obtain ⟨xs, n, rfl, rfl⟩ := h
  have := n.lo
  have := n.hi
  refine bg_ret (eg_of (eg_andV (a := true) (eg_call (ag_cons (eg_var rfl) ag_nil) ⟨rfl, xs, n.nm, rfl, rfl⟩) fun _ => eg_chain eg_int (eg_cb (ag_cons (eg_var rfl) ag_nil) cg_lenT) rg_b0 (fun _ => eg_int) fun _ => rg_b0) ?_)
  simp
  omega⟩
abbrev s_need_taps : Stmt := top 17
abbrev N_need_taps : List Str := ["taps"]
theorem sc_need_taps : FnScope N_need_taps ["taps"] (defScope s_need_taps) := C8.fnScope_by (by decide +kernel)
theorem ok_need_taps (T : Tx w K mg base) : Cl P w K mg base CX0 4 "need_taps" (spD K fun ds d => ds.length = 1 ∧ P_need_taps ds d) := cl_pure T.d_need_taps T.g_need_taps sc_need_taps (fun _ _ h => h.1) (fun _ _ _ _ _ _ us hl => match us, hl with | [_], _ => rfl) fun cdv A outer s H E ds d hr h => ⟨_,
  (pss_one (ps_if (pt_not (pt_val (pcl (ok_is_taps T) hr (by decide) pass0 (by rfl) (pa_cons (pv 0) pa_nil))))
    (pss_one ps_never)
    pss_nil)), by
  replace h := h.2
 
  obtain ⟨xs, n, rfl, rfl⟩ := h
  exact bg_skip1 (tg_not (a := true) (tg_test (eg_call (ag_cons (eg_var rfl) ag_nil) ⟨rfl, xs, n, rfl, rfl⟩))) rfl⟩
abbrev s_is_sort : Stmt := top 18
abbrev N_is_sort : List Str := ["value"]
theorem sc_is_sort : FnScope N_is_sort ["value"] (defScope s_is_sort) := C8.fnScope_by (by decide +kernel)
theorem ok_is_sort (T : Tx w K mg base) : Cl P w K mg base CX0 1 "is_sort" (spD K fun ds d => ds.length = 1 ∧ P_is_sort ds d) := cl_pure T.d_is_sort T.g_is_sort sc_is_sort (fun _ _ h => h.1) (fun _ _ _ _ _ _ us hl => match us, hl with | [_], _ => rfl) fun cdv A outer s H E ds d hr h => ⟨_,
  (pss_one (ps_ret (pe_and (pe_callB (call_isiK K rfl) (by rfl) T.n_isinstance bt_isinstance (pa_cons (pv 0) (pa_cons (pe_bltn (v := .ty "str") (by rfl) T.n_str bt_str rfl) pa_nil))) (pe_one (pe_cmpR (op_inK K rfl) (pv 0) (C8.pe_gc (by rfl) T.c_SORTS) (by rfl)))))), by
  replace h := h.2
 
  obtain ⟨s, n, rfl, rfl⟩ := h
  refine bg_ret (eg_of (eg_andV (a := true) (eg_isi (eg_var rfl) rfl) fun _ => eg_inC (xs := sortsL) (eg_var rfl) fun H => T.sorts H) ?_)
  simp [n]⟩
abbrev s_need_sort : Stmt := top 19
abbrev N_need_sort : List Str := ["sort"]
theorem sc_need_sort : FnScope N_need_sort ["sort"] (defScope s_need_sort) := C8.fnScope_by (by decide +kernel)
theorem ok_need_sort (T : Tx w K mg base) : Cl P w K mg base CX0 2 "need_sort" (spD K fun ds d => ds.length = 1 ∧ P_need_sort ds d) := cl_pure T.d_need_sort T.g_need_sort sc_need_sort (fun _ _ h => h.1) (fun _ _ _ _ _ _ us hl => match us, hl with | [_], _ => rfl) fun cdv A outer s H E ds d hr h => ⟨_,
  (pss_one (ps_if (pt_not (pt_val (pcl (ok_is_sort T) hr (by decide) pass0 (by rfl) (pa_cons (pv 0) pa_nil))))
    (pss_one ps_never)
    pss_nil)), by
  replace h := h.2
 
  obtain ⟨s, n, rfl, rfl⟩ := h
  exact bg_skip1 (tg_not (a := true) (tg_test (eg_call (ag_cons (eg_var rfl) ag_nil) ⟨rfl, s, n, rfl, rfl⟩))) rfl⟩
theorem alike_strs : ∀ xs ys : List Str, PySem.W.alikeAll (xs.map .str) (ys.map .str) = true
  | [], ys => by cases ys <;> rfl
  | x :: xs, [] => rfl
  | x :: xs, y :: ys => by
    show (true && PySem.W.alikeAll (xs.map .str) (ys.map .str)) = true
    rw [alike_strs xs ys]
    rfl
theorem sort_lots (ls : List (List Str)) : (ls.map strsD).mergeSort (PySem.W.dataLe false id) = (sortL ls).map strsD := by
  unfold sortL
  exact (List.map_mergeSort (r := PySem.W.dataLe false strsD) (s := PySem.W.dataLe false id) (f := strsD) (l := ls) fun a _ b _ => rfl).symm
theorem cg_sortLots {ls : List (List Str)} (h : ∀ l ∈ ls, l ≠ []) : CG K (rSortD K) [.list (ls.map strsD)] (.list ((sortL ls).map strsD)) := by
  rw [← sort_lots]
  refine cg_sortD (PySem.W.AllAlike.of fun a b => alike_strs a b) (.inl fun d hd => ?_) fun d hd => ?_
  · obtain ⟨l, hl, rfl⟩ := List.mem_map.mp hd
    cases l with
    | nil => exact absurd rfl (h _ hl)
    | cons x r => exact ⟨_, _, rfl⟩
  · obtain ⟨l, hl, rfl⟩ := List.mem_map.mp hd
    show PyData.depthAll (l.map .str) + 1 ≤ 8
    rw [depth_strs]
    decide
abbrev s_lots : Stmt := top 20
abbrev N_lots : List Str := ["taps", "found", "tap", "lot"]
theorem sc_lots : FnScope N_lots ["taps"] (defScope s_lots) := C8.fnScope_by (by decide +kernel)
theorem ok_lots (T : Tx w K mg base) : Cl P w K mg base CX0 5 "lots" (spD K fun ds d => ds.length = 1 ∧ P_lots ds d) := cl_pure T.d_lots T.g_lots sc_lots (fun _ _ h => h.1) (fun _ _ _ _ _ _ us hl => match us, hl with | [_], _ => rfl) fun cdv A outer s H E ds d hr h => ⟨_,
  (pss_cons (ps_expr (pcl (ok_need_taps T) hr (by decide) pass0 (by rfl) (pa_cons (pv 0) pa_nil)))
  (pss_cons (ps_set (i := 1) sc_lots.nd rfl (Or.inl rfl) (pe_lst (pa_cons (pe_tup pa_nil) pa_nil)))
  (pss_cons (ps_for PassesOwn.never rfl (pi_tup (pv 0)) (pg_name (i := 2) sc_lots.nd rfl (by first | exact Or.inl rfl | exact Or.inr rfl))
    (pss_one (ps_set (i := 1) sc_lots.nd rfl (Or.inl rfl) (pe_op (op_catLK K rfl) (pv 1) (pe_lc (own := [("lot", 3)]) rfl sc_lots.nd (pi_list (pv 1)) (blkOk_by (own := [("lot", 3)]) (N := N_lots) (sc := defScope s_lots) (by decide +kernel)) (fun _ _ _ _ _ => (pg_name (i := 3) sc_lots.nd rfl (Or.inl rfl))) (fun _ _ _ _ _ => pts_nil) (fun _ _ _ _ _ => (pe_op (op_catAK K rfl) (pv 3) (pe_tup (pa_cons (pv 2) pa_nil)))))))))
  (pss_one (ps_ret (pe_callB (cr_sortedD hr.units) (by rfl) T.n_sorted bt_sorted (pa_cons (pe_lc (own := [("lot", 3)]) rfl sc_lots.nd (pi_list (pv 1)) (blkOk_by (own := [("lot", 3)]) (N := N_lots) (sc := defScope s_lots) (by decide +kernel)) (fun _ _ _ _ _ => (pg_name (i := 3) sc_lots.nd rfl (Or.inl rfl))) (fun _ _ _ _ _ => pts_one (pt_chain op_lt op_lt pe_int (pe_callB (call_lenK K rfl) (by rfl) T.n_len bt_len (pa_cons (pv 3) pa_nil)) (pe_callB (call_lenK K rfl) (by rfl) T.n_len bt_len (pa_cons (pv 0) pa_nil)))) (fun _ _ _ _ _ => (pv 3))) pa_nil))))))), by
  replace h := h.2
 
  obtain ⟨xs, n, rfl, rfl⟩ := h
  have h6 := n.hi
  refine bg_drop (eg_call (ag_cons (eg_var rfl) ag_nil) ⟨rfl, xs, n, rfl, rfl⟩) ?_
  refine bg_asg (by walk_at "eg") ?_
  refine bg_seq (sg_for (ig_tup (g := PyData.str) (xs := xs) (eg_var rfl)) (fun i => [some (.d (strsD xs)), some (.d (.list ((subs (xs.take i)).map strsD))), none, none]) rfl fun i t ht => ?_) (bg_ret ?_)
  · have hi : (xs.take i).length ≤ 6 := by rw [List.length_take]; omega
    have h1 := subs_len (xs := xs.take i)
    have h2 : 2 ^ (xs.take i).length ≤ 2 ^ 6 := Nat.pow_le_pow_right (by decide) hi
    refine sg_weak (sg_asg (eg_op (eg_var rfl) (eg_lcA (f := fun l => strsD (l ++ [t])) (ig_lst (g := strsD) (xs := subs (xs.take i)) (eg_var rfl)) ?_ (fun j hj => by simpa using hj) fun l hl => ?_) (rg_catL ?_))) ⟨.inr rfl, .inr ?_, .inl rfl, .inl rfl, trivial⟩
    · omega
    · have := h1.2 l hl
      refine eg_of (eg_catA (ds := l.map .str) (eg_var rfl) (eg_tup (ds := [.str t]) (ag_cons (eg_var rfl) ag_nil) (Nat.le_of_ble_eq_true rfl)) ?_) ?_
      · rw [List.length_map, sizeLine_eq]
        simp only [List.length_cons, List.length_nil]
        omega
      · simp [strsD]
    · rw [List.length_map, List.length_map, sizeLine_eq]
      omega
    · rw [subs, fold_step ht]
      simp [subs, strsD, Function.comp_def]
  · rw [List.take_length]
    have h1 := subs_len (xs := xs)
    have h2 : 2 ^ xs.length ≤ 2 ^ 6 := Nat.pow_le_pow_right (by decide) h6
    refine eg_cb (ag_cons (eg_lc (p := fun l : List Str => decide (0 < l.length) && decide (l.length < xs.length)) (f := strsD) (ig_lst (g := strsD) (eg_var rfl)) (by omega) (fun j hj => by simpa using hj) (fun l hl => ?_) fun l hl _ => eg_var rfl) ag_nil) (cg_sortLots fun l hl => ?_)
    · refine tg_of (tg_test (eg_chain eg_int (eg_cb (ag_cons (eg_var rfl) ag_nil) (cg_lenT (ds := l.map .str))) rg_b0 (fun _ => eg_cb (ag_cons (eg_var rfl) ag_nil) (cg_lenT (ds := xs.map .str))) fun _ => rg_b0)) ?_
      simp
    · have := (List.mem_filter.mp hl).2
      intro z
      rw [z] at this
      simp at this⟩
abbrev s_other_taps : Stmt := top 21
abbrev N_other_taps : List Str := ["taps", "lot", "one"]
theorem sc_other_taps : FnScope N_other_taps ["taps", "lot"] (defScope s_other_taps) := C8.fnScope_by (by decide +kernel)
theorem ok_other_taps (T : Tx w K mg base) : Cl P w K mg base CX0 1 "other_taps" (spD K fun ds d => ds.length = 2 ∧ P_other_taps ds d) := cl_pure T.d_other_taps T.g_other_taps sc_other_taps (fun _ _ h => h.1) (fun _ _ _ _ _ _ us hl => match us, hl with | [_, _], _ => rfl) fun cdv A outer s H E ds d hr h => ⟨_,
  (pss_one (ps_ret (pe_callTy (call_tupK K rfl) (by rfl) T.n_tuple bt_tuple (pa_cons (pe_lc (own := [("one", 2)]) rfl sc_other_taps.nd (pi_tup (pv 0)) (blkOk_by (own := [("one", 2)]) (N := N_other_taps) (sc := defScope s_other_taps) (by decide +kernel)) (fun _ _ _ _ _ => (pg_name (i := 2) sc_other_taps.nd rfl (Or.inl rfl))) (fun _ _ _ _ _ => pts_one (pt_cmpR (op_niK K rfl) (pv 2) (pv 1) (by rfl))) (fun _ _ _ _ _ => (pv 2))) pa_nil)))), by
  replace h := h.2
 
  obtain ⟨xs, l, hz, rfl, rfl⟩ := h
  refine bg_ret (eg_cb (ag_cons (eg_lc (p := fun x => !decide (x ∈ l)) (f := .str) (ig_tup (g := .str) (xs := xs) (eg_var rfl)) (by omega) (fun j hj => by simpa using hj) (fun x _ => tg_test (eg_op (eg_var rfl) (eg_var rfl) rg_niT)) fun x _ _ => eg_var rfl) ag_nil) cg_tupL)⟩
abbrev s_made_plain : Stmt := top 22
abbrev N_made_plain : List Str := ["taps", "lot", "other"]
theorem sc_made_plain : FnScope N_made_plain ["taps", "lot"] (defScope s_made_plain) := C8.fnScope_by (by decide +kernel)
theorem ok_made_plain (T : Tx w K mg base) : Cl P w K mg base CX0 2 "made_plain" (spD K fun ds d => ds.length = 2 ∧ P_made_plain ds d) := cl_pure T.d_made_plain T.g_made_plain sc_made_plain (fun _ _ h => h.1) (fun _ _ _ _ _ _ us hl => match us, hl with | [_, _], _ => rfl) fun cdv A outer s H E ds d hr h => ⟨_,
  (pss_cons (ps_set (i := 2) sc_made_plain.nd rfl (Or.inl rfl) (pcl (ok_other_taps T) hr (by decide) pass0 (by rfl) (pa_cons (pv 0) (pa_cons (pv 1) pa_nil))))
  (pss_cons (ps_if (pt_cmpR op_ne (pe_callB (call_lenK K rfl) (by rfl) T.n_len bt_len (pa_cons (pv 1) pa_nil)) (pe_callB (call_lenK K rfl) (by rfl) T.n_len bt_len (pa_cons (pv 2) pa_nil)) (nomark _))
    (pss_one (ps_ret (pe_ifExp (pt_cmpR op_lt (pe_callB (call_lenK K rfl) (by rfl) T.n_len bt_len (pa_cons (pv 1) pa_nil)) (pe_callB (call_lenK K rfl) (by rfl) T.n_len bt_len (pa_cons (pv 2) pa_nil)) (nomark _)) (pv 1) (pv 2))))
    pss_nil)
  (pss_one (ps_ret (pe_ifExp (pt_cmpR (op_inK K rfl) (pe_ix (ix_tupK K rfl) (pv 0) pe_int (fun _ _ => rfl)) (pv 1) (by rfl)) (pv 1) (pv 2)))))), by
  replace h := h.2
 
  obtain ⟨xs, l, h0, hz, rfl, rfl⟩ := h
  obtain ⟨x0, xr, rfl⟩ : ∃ x r, xs = x :: r := by
    cases xs with
    | nil => simp at h0
    | cons x r => exact ⟨x, r, rfl⟩
  refine bg_asg (eg_call (ag_cons (eg_var rfl) (ag_cons (eg_var rfl) ag_nil)) ⟨rfl, _, l, hz, rfl, rfl⟩) ?_
  have ln : ∀ ys : List Str, ((ys.map PyData.str).length : Int) = (ys.length : Int) := fun ys => by rw [List.length_map]
  generalize ho : otherF (x0 :: xr) l = o
  refine bg_when (b := decide (l.length ≠ o.length)) (tg_of (tg_test (eg_op (eg_cb (ag_cons (eg_var rfl) ag_nil) (cg_lenT (ds := l.map .str))) (eg_cb (ag_cons (eg_var rfl) ag_nil) (cg_lenT (ds := o.map .str))) rg_neI)) ?_) (fun hb => bg_ret (eg_of (eg_ite (tg_test (eg_cmp (eg_cb (ag_cons (eg_var rfl) ag_nil) (cg_lenT (ds := l.map .str))) (eg_cb (ag_cons (eg_var rfl) ag_nil) (cg_lenT (ds := o.map .str))))) (fun _ => eg_var rfl) fun _ => eg_var rfl) ?_)) (fun _ => fun z => by cases z) fun hb => bg_ret (eg_of (eg_ite (tg_test (eg_op (eg_ixT (d := .str x0) (eg_var rfl) eg_int (by simp [atI, ixN])) (eg_var rfl) (rg_inT (xs := l)))) (fun _ => eg_var rfl) fun _ => eg_var rfl) ?_)
  · rw [ln, ln]
    simp
    omega
  · have hb' := of_decide_eq_true hb
    rw [ln, ln]
    unfold plainF
    rw [ho, if_pos hb']
    simp only [decide_eq_true_eq, Int.ofNat_lt]
    split <;> rfl
  · have hb' := of_decide_eq_false hb
    unfold plainF
    rw [ho, if_neg hb']
    simp only [decide_eq_true_eq, List.getD_cons_zero]
    split <;> rfl⟩
abbrev s_plain_lots : Stmt := top 23
abbrev N_plain_lots : List Str := ["taps", "sort", "found", "lot"]
theorem sc_plain_lots : FnScope N_plain_lots ["taps", "sort"] (defScope s_plain_lots) := C8.fnScope_by (by decide +kernel)
theorem ok_plain_lots (T : Tx w K mg base) : Cl P w K mg base CX0 6 "plain_lots" (spD K fun ds d => ds.length = 2 ∧ P_plain_lots ds d) := cl_pure T.d_plain_lots T.g_plain_lots sc_plain_lots (fun _ _ h => h.1) (fun _ _ _ _ _ _ us hl => match us, hl with | [_, _], _ => rfl) fun cdv A outer s H E ds d hr h => ⟨_,
  (pss_cons (ps_expr (pcl (ok_need_taps T) hr (by decide) pass0 (by rfl) (pa_cons (pv 0) pa_nil)))
  (pss_cons (ps_expr (pcl (ok_need_sort T) hr (by decide) pass0 (by rfl) (pa_cons (pv 1) pa_nil)))
  (pss_cons (ps_set (i := 2) sc_plain_lots.nd rfl (Or.inl rfl) (pcl (ok_lots T) hr (by decide) pass0 (by rfl) (pa_cons (pv 0) pa_nil)))
  (pss_one (ps_ret (pe_ifExp (pt_cmpR op_eq (pv 1) pe_str (nomark _)) (pv 2) (pe_lc (own := [("lot", 3)]) rfl sc_plain_lots.nd (pi_list (pv 2)) (blkOk_by (own := [("lot", 3)]) (N := N_plain_lots) (sc := defScope s_plain_lots) (by decide +kernel)) (fun _ _ _ _ _ => (pg_name (i := 3) sc_plain_lots.nd rfl (Or.inl rfl))) (fun _ _ _ _ _ => pts_one (pt_cmpR (op_eqDK K rfl hr.units) (pcl (ok_made_plain T) hr (by decide) pass0 (by rfl) (pa_cons (pv 0) (pa_cons (pv 3) pa_nil))) (pv 3) (nomark _))) (fun _ _ _ _ _ => (pv 3))))))))), by
  replace h := h.2
 
  obtain ⟨xs, s, n, hs, rfl, rfl⟩ := h
  have h6 := n.hi
  have h0 := n.lo
  refine bg_drop (eg_call (ag_cons (eg_var rfl) ag_nil) ⟨rfl, xs, n, rfl, rfl⟩) (bg_drop (eg_call (ag_cons (eg_var rfl) ag_nil) ⟨rfl, s, hs, rfl, rfl⟩) (bg_asg (eg_call (ag_cons (eg_var rfl) ag_nil) ⟨rfl, xs, n, rfl, rfl⟩) (bg_ret ?_)))
  have hl : (lotsF xs).length ≤ 64 := by
    unfold lotsF sortL
    rw [List.length_mergeSort]
    have h1 := subs_len (xs := xs)
    have h2 : 2 ^ xs.length ≤ 2 ^ 6 := Nat.pow_le_pow_right (by decide) h6
    exact Nat.le_trans (List.length_filter_le _ _) (by omega)
  refine eg_of (eg_ite (tg_test (eg_eqS (eg_var rfl) eg_str)) (fun _ => eg_var rfl) fun _ => eg_lc (p := fun l => decide (plainF xs l = l)) (f := strsD) (ig_lst (g := strsD) (eg_var rfl)) (by omega) (fun j hj => by simpa using hj) (fun l hm => tg_of (tg_test (eg_eqD (eg_call (ag_cons (eg_var rfl) (ag_cons (eg_var rfl) ag_nil)) ⟨rfl, xs, l, by omega, by omega, rfl, rfl⟩) (eg_var rfl) ?_ ?_)) (eqv_strsD _ _)) fun l _ _ => eg_var rfl) ?_
  · exact shaped_strs fun y hy => n.nm.ok y (plain_mem (lots_mem hm).1 hy)
  · exact shaped_strs fun y hy => n.nm.ok y (subs_mem (lots_mem hm).1 y hy)
  · unfold plainsF
    simp only [decide_eq_true_eq]
    split <;> rfl⟩
end
end K13
namespace K13
open PySem PySem.Spec PyProof.Rows L2
open Evl (Ex fresh_back ex_l ex_t)
/-- one step of reading an expression's worth -/
local macro_rules | `(tactic| walk_at "eg1") => `(tactic| first
  | exact eg_var rfl | exact eg_int | exact eg_str | exact eg_bl | exact eg_non | exact tg_yes | exact og_none
  | apply og_some
  | apply tg_test | apply tg_B | apply tg_not | apply eg_notV | apply eg_neg
  | apply eg_isi
  | apply eg_ixT | apply eg_ixL
  | apply eg_cmp | apply eg_i0 | apply eg_ic
  | apply eg_op (hr := rg_eqI) | apply eg_op (hr := rg_eqS) | apply eg_op (hr := rg_neI) | apply eg_op (hr := rg_neS)
  | apply eg_cb (hr := cg_gcd)
  | exact (rfl : atI _ _ = _) | exact (rfl : kitB _ _ = _)
  | exact ag_nil | apply ag_cons
  | exact (by assumption : EG _ _ _ _ _) | apply eg_tup | apply eg_lst | exact Nat.le_of_ble_eq_true rfl)
local macro_rules | `(tactic| walk_at "eg") => `(tactic| repeat' walk_at "eg1")
inductive Part where
  | arc (ld : Bool) (x y : Str) (w : Q2)
  | hub (ps : List Str) (w : Q2)
namespace Part
def kind : Part → Str
  | .arc true _ _ _ => "lead"
  | .arc false _ _ _ => "pipe"
  | .hub _ _ => "hub"
def w : Part → Q2
  | .arc _ _ _ w => w
  | .hub _ w => w
def ends : Part → List Str
  | .arc _ x y _ => [x, y]
  | .hub ps _ => ps
end Part
def partL : Part → List PyData
  | .arc ld x y w => [.str (Part.arc ld x y w).kind, .str x, .str y, numD w]
  | .hub ps w => [.str "hub", strsD ps, numD w]
def partD (p : Part) : PyData := .tuple (partL p)
def PartOk : Part → Prop
  | .arc ld x y w => nameB x = true ∧ nameB y = true ∧ Num w ∧ (if ld = true then x ≠ y else SLt x y)
  | .hub ps w => Names ps ∧ 2 ≤ ps.length ∧ Num w
theorem PartOk.num {p : Part} (h : PartOk p) : Num p.w := by
  cases p with
  | arc ld x y w => exact h.2.2.1
  | hub ps w => exact h.2.2
theorem PartOk.len {p : Part} (h : PartOk p) : p.ends.length ≤ 1000 := by
  cases p with
  | arc ld x y w => show 2 ≤ 1000; decide
  | hub ps w => exact h.1.len
def netD (xs : List Str) (ps : List Part) : PyData := .tuple [strsD xs, .tuple (ps.map partD)]
def anyK (ps : List Part) (k : Str) : Bool := ps.any fun p => decide (p.kind = k)
def kindF (ps : List Part) : Str := if anyK ps "lead" = true then "leads" else if anyK ps "hub" = true then "hubs" else "pipes"
def addK (acc : List Str) (x : Str) : List Str := if x ∈ acc then acc else acc ++ [x]
def sortS (xs : List Str) : List Str := xs.mergeSort (PySem.W.dataLe false PyData.str)
def placesF (xs : List Str) (ps : List Part) : List Str := sortS (ps.foldl (fun acc p => p.ends.foldl addK acc) (xs.foldl addK []))
structure NetOk (xs : List Str) (ps : List Part) : Prop where
  taps : Taps xs
  len : ps.length ≤ 200
  ok : ∀ p ∈ ps, PartOk p
  one : ¬ (anyK ps "lead" = true ∧ anyK ps "hub" = true)
  few : (placesF xs ps).length ≤ 40
theorem part0 (p : Part) : atI (partL p) 0 = some (.str p.kind) := by cases p with | arc ld x y w => cases ld <;> rfl | hub ps w => rfl
theorem partZ (p : Part) : atI (partL p) (-1) = some (numD p.w) := by cases p with | arc ld x y w => rfl | hub ps w => rfl
theorem addK_len {acc : List Str} {x : Str} : (addK acc x).length ≤ acc.length + 1 := by
  unfold addK
  split <;> simp
theorem addKs_len : ∀ {xs acc : List Str}, (xs.foldl addK acc).length ≤ acc.length + xs.length
  | [], _ => by simp
  | x :: xs, acc => by
    have h1 := addKs_len (xs := xs) (acc := addK acc x)
    have h2 := addK_len (acc := acc) (x := x)
    rw [List.foldl_cons, List.length_cons]
    omega
section
variable {P : Program} {w : World} {K : PySem.W.Frag} {mg : Str → Option Value} {base : Heap} {L : SH} {G : Gm} {te : TE}
theorem eg_p0 {p : Part} (h : EG K L G te (partD p)) : EG K L G (tOp (rIxT K) te (tC (.int 0))) (.str p.kind) := eg_ixT h eg_int (part0 p)
theorem eg_pZ {p : Part} (h : EG K L G te (partD p)) : EG K L G (tOp (rIxT K) te (tUn (rU fun i => .int (-i)) (tC (.int 1)))) (numD p.w) := eg_ixT h (eg_neg eg_int) (partZ p)
def P_is_width (ds : List PyData) (d : PyData) : Prop := ∃ q, Num q ∧ ds = [numD q] ∧ d = .bool true
def P_is_part (ds : List PyData) (d : PyData) : Prop := ∃ p, PartOk p ∧ ds = [partD p] ∧ d = .bool true
def P_ends (ds : List PyData) (d : PyData) : Prop := ∃ p : Part, ds = [partD p] ∧ d = strsD p.ends
def P_named_places (ds : List PyData) (d : PyData) : Prop := ∃ xs ps, xs.length ≤ 1000 ∧ ps.length ≤ 200 ∧ (∀ p ∈ ps, p.ends.length ≤ 1000) ∧ ds = [strsD xs, .tuple (ps.map partD)] ∧ d = .list ((placesF xs ps).map .str)
def P_has_kind (ds : List PyData) (d : PyData) : Prop := ∃ ps k, ps.length ≤ 1000 ∧ ds = [.tuple (ps.map partD), .str k] ∧ d = .bool (anyK ps k)
def P_is_net (ds : List PyData) (d : PyData) : Prop := ∃ xs ps, NetOk xs ps ∧ ds = [netD xs ps] ∧ d = .bool true
def P_need_net (ds : List PyData) (d : PyData) : Prop := ∃ xs ps, NetOk xs ps ∧ ds = [netD xs ps] ∧ d = .none
def P_kind_of (ds : List PyData) (d : PyData) : Prop := ∃ xs ps, ps.length ≤ 1000 ∧ ds = [netD xs ps] ∧ d = .str (kindF ps)
def P_sort_of (ds : List PyData) (d : PyData) : Prop := ∃ xs ps, NetOk xs ps ∧ ds = [netD xs ps] ∧ d = .str (kindF ps)
def P_of_parts (ds : List PyData) (d : PyData) : Prop := ∃ (xs : List Str) (ps : List Part) (pss : List (List Part)), pss.flatten.length ≤ 200 ∧ ds = [netD xs ps, .list (pss.map fun l => .list (l.map partD))] ∧ d = netD xs pss.flatten
abbrev s_is_width : Stmt := top 37
abbrev N_is_width : List Str := ["value"]
theorem sc_is_width : FnScope N_is_width ["value"] (defScope s_is_width) := C8.fnScope_by (by decide +kernel)
theorem ok_is_width (T : Tx w K mg base) : Cl P w K mg base CX0 3 "is_width" (spD K fun ds d => ds.length = 1 ∧ P_is_width ds d) := cl_pure T.d_is_width T.g_is_width sc_is_width (fun _ _ h => h.1) (fun _ _ _ _ _ _ us hl => match us, hl with | [_], _ => rfl) fun cdv A outer s H E ds d hr h => ⟨_,
  (pss_one (ps_ret (pe_and (pcl (ok_is_number T) hr (by decide) pass0 (by rfl) (pa_cons (pv 0) pa_nil)) (pe_one (pe_not (pcl (ok_is_less T) hr (by decide) pass0 (by rfl) (pa_cons (pv 0) (pa_cons pe_int pa_nil)))))))), by
  replace h := h.2
 
  obtain ⟨q, n, rfl, rfl⟩ := h
  exact bg_ret (eg_of (eg_andV (eg_call (ag_cons (eg_var rfl) ag_nil) ⟨rfl, q, n, rfl, rfl⟩) fun _ => eg_notV (eg_call (ag_cons (eg_var rfl) (ag_cons eg_int ag_nil)) ⟨rfl, q, n, rfl, rfl⟩)) rfl)⟩
abbrev s_is_part : Stmt := top 38
abbrev N_is_part : List Str := ["value"]
theorem sc_is_part : FnScope N_is_part ["value"] (defScope s_is_part) := C8.fnScope_by (by decide +kernel)
theorem ok_is_part (T : Tx w K mg base) : Cl P w K mg base CX0 4 "is_part" (spD K fun ds d => ds.length = 1 ∧ P_is_part ds d) := cl_pure T.d_is_part T.g_is_part sc_is_part (fun _ _ h => h.1) (fun _ _ _ _ _ _ us hl => match us, hl with | [_], _ => rfl) fun cdv A outer s H E ds d hr h => ⟨_,
  (pss_cons (ps_if (PW.pt (pw_or (pt_not (pt_val (pe_callB (call_isiK K rfl) (by rfl) T.n_isinstance bt_isinstance (pa_cons (pv 0) (pa_cons (pe_bltn (v := .ty "tuple") (by rfl) T.n_tuple bt_tuple rfl) pa_nil))))) (pw_or (pt_cmpR op_lt (pe_callB (call_lenK K rfl) (by rfl) T.n_len bt_len (pa_cons (pv 0) pa_nil)) pe_int (nomark _)) (pw_or1 (pt_not (pt_val (pe_callB (call_isiK K rfl) (by rfl) T.n_isinstance bt_isinstance (pa_cons (pe_ix (ix_tupK K rfl) (pv 0) pe_int (fun _ _ => rfl)) (pa_cons (pe_bltn (v := .ty "str") (by rfl) T.n_str bt_str rfl) pa_nil)))))))))
    (pss_one (ps_ret pe_bl))
    pss_nil)
  (pss_cons (ps_if (pt_cmpR op_eq (pe_ix (ix_tupK K rfl) (pv 0) pe_int (fun _ _ => rfl)) pe_str (nomark _))
    (pss_one (ps_ret (pe_and (pe_cmpR op_eq (pe_callB (call_lenK K rfl) (by rfl) T.n_len bt_len (pa_cons (pv 0) pa_nil)) pe_int (nomark _)) (pe_and (pcl (ok_are_names T) hr (by decide) pass0 (by rfl) (pa_cons (pe_ix (ix_tupK K rfl) (pv 0) pe_int (fun _ _ => rfl)) pa_nil)) (pe_and (pe_cmpR op_ge (pe_callB (call_lenK K rfl) (by rfl) T.n_len bt_len (pa_cons (pe_ix (ix_tupK K rfl) (pv 0) pe_int (fun _ _ => rfl)) pa_nil)) pe_int (nomark _)) (pe_one (pcl (ok_is_width T) hr (by decide) pass0 (by rfl) (pa_cons (pe_ix (ix_tupK K rfl) (pv 0) pe_int (fun _ _ => rfl)) pa_nil))))))))
    pss_nil)
  (pss_cons (ps_if (PW.pt (pw_or (pt_cmpR (op_niK K rfl) (pe_ix (ix_tupK K rfl) (pv 0) pe_int (fun _ _ => rfl)) (pe_tup (pa_cons pe_str (pa_cons pe_str pa_nil))) (by rfl)) (pw_or1 (pt_cmpR op_ne (pe_callB (call_lenK K rfl) (by rfl) T.n_len bt_len (pa_cons (pv 0) pa_nil)) pe_int (nomark _)))))
    (pss_one (ps_ret pe_bl))
    pss_nil)
  (pss_cons (ps_if (PW.pt (pw_or (pt_not (pt_val (pcl (ok_is_name T) hr (by decide) pass0 (by rfl) (pa_cons (pe_ix (ix_tupK K rfl) (pv 0) pe_int (fun _ _ => rfl)) pa_nil)))) (pw_or (pt_not (pt_val (pcl (ok_is_name T) hr (by decide) pass0 (by rfl) (pa_cons (pe_ix (ix_tupK K rfl) (pv 0) pe_int (fun _ _ => rfl)) pa_nil)))) (pw_or1 (pt_not (pt_val (pcl (ok_is_width T) hr (by decide) pass0 (by rfl) (pa_cons (pe_ix (ix_tupK K rfl) (pv 0) pe_int (fun _ _ => rfl)) pa_nil))))))))
    (pss_one (ps_ret pe_bl))
    pss_nil)
  (pss_one (ps_ret (pe_ifExp (pt_cmpR op_eq (pe_ix (ix_tupK K rfl) (pv 0) pe_int (fun _ _ => rfl)) pe_str (nomark _)) (pe_cmpR op_lt_str (pe_ix (ix_tupK K rfl) (pv 0) pe_int (fun _ _ => rfl)) (pe_ix (ix_tupK K rfl) (pv 0) pe_int (fun _ _ => rfl)) (nomark _)) (pe_cmpR op_ne (pe_ix (ix_tupK K rfl) (pv 0) pe_int (fun _ _ => rfl)) (pe_ix (ix_tupK K rfl) (pv 0) pe_int (fun _ _ => rfl)) (nomark _))))))))), by
  replace h := h.2
 
  obtain ⟨p, n, rfl, rfl⟩ := h
  have hv : EG K [] ([partD p].map (fun d => some (GV.d d)) ++ List.replicate (N_is_part.length - [partD p].length) none) (tVar 0) (partD p) := eg_var rfl
  have hl : 3 ≤ (partL p).length := by
    cases p with
    | arc ld x y w => exact Nat.le_of_ble_eq_true rfl
    | hub ps w => exact Nat.le_of_ble_eq_true rfl
  refine bg_skip (b := false) (tg_or (a := false) (b := false) (tg_not (a := true) (tg_test (eg_isi hv rfl))) fun _ => tg_or (a := false) (b := false) (tg_of (tg_test (eg_cmp (eg_cb (ag_cons hv ag_nil) cg_lenT) eg_int)) ?_) fun _ => tg_not (a := true) (tg_test (eg_isi (eg_p0 hv) rfl))) rfl ?_
  · simp; omega
  cases p with
  | hub ps w =>
    obtain ⟨h1, h2, h3⟩ := n
    refine bg_take (tg_test (eg_op (eg_p0 hv) eg_str rg_eqS)) rfl (bg_ret (eg_of (eg_andV (eg_op (eg_cb (ag_cons hv ag_nil) cg_lenT) eg_int rg_eqI) fun _ => eg_andV (eg_call (ag_cons (eg_ixT (d := strsD ps) hv eg_int rfl) ag_nil) ⟨rfl, ps, h1, rfl, rfl⟩) fun _ => eg_andV (eg_cmp (eg_cb (ag_cons (eg_ixT (d := strsD ps) hv eg_int rfl) ag_nil) cg_lenT) eg_int) fun _ => eg_call (ag_cons (eg_ixT (d := numD w) hv eg_int rfl) ag_nil) ⟨rfl, w, h3, rfl, rfl⟩) ?_)) (fun z => by cases z)
    simp [partL]
    omega
  | arc ld x y w =>
    obtain ⟨h1, h2, h3, h4⟩ := n
    have e1 : EG K [] ([partD (.arc ld x y w)].map (fun d => some (GV.d d)) ++ List.replicate (N_is_part.length - [partD (.arc ld x y w)].length) none) _ (.str x) := eg_ixT (d := .str x) hv (eg_int (i := 1)) rfl
    have e2 : EG K [] ([partD (.arc ld x y w)].map (fun d => some (GV.d d)) ++ List.replicate (N_is_part.length - [partD (.arc ld x y w)].length) none) _ (.str y) := eg_ixT (d := .str y) hv (eg_int (i := 2)) rfl
    have e3 : EG K [] ([partD (.arc ld x y w)].map (fun d => some (GV.d d)) ++ List.replicate (N_is_part.length - [partD (.arc ld x y w)].length) none) _ (numD w) := eg_ixT (d := numD w) hv (eg_int (i := 3)) rfl
    refine bg_skip (b := false) (tg_of (tg_test (eg_op (eg_p0 hv) eg_str rg_eqS)) (by cases ld <;> rfl)) rfl ?_
    refine bg_skip (b := false) (tg_or (a := false) (b := false) (tg_of (tg_test (eg_op (eg_p0 hv) (eg_tup (ds := [("pipe" : Str), "lead"].map .str) (ag_cons eg_str (ag_cons eg_str ag_nil)) (by decide)) rg_niT)) (by cases ld <;> rfl)) fun _ => tg_of (tg_test (eg_op (eg_cb (ag_cons hv ag_nil) cg_lenT) eg_int rg_neI)) rfl) rfl ?_
    refine bg_skip (b := false) (tg_or (a := false) (b := false) (tg_not (a := true) (tg_test (eg_call (ag_cons e1 ag_nil) ⟨rfl, x, h1, rfl, rfl⟩))) fun _ => tg_or (a := false) (b := false) (tg_not (a := true) (tg_test (eg_call (ag_cons e2 ag_nil) ⟨rfl, y, h2, rfl, rfl⟩))) fun _ => tg_not (a := true) (tg_test (eg_call (ag_cons e3 ag_nil) ⟨rfl, w, h3, rfl, rfl⟩))) rfl ?_
    refine bg_ret (eg_if (tg_test (eg_op (eg_p0 hv) eg_str rg_eqS)) (fun hb => eg_of (eg_ltS e1 e2) ?_) fun hb => eg_of (eg_neS e1 e2) ?_)
    · have hb := of_decide_eq_true hb
      cases ld with
      | true => cases hb
      | false =>
        have h5 : SLt x y := by simpa using h4
        rw [decide_eq_true h5]
    · have hb := of_decide_eq_false hb
      cases ld with
      | false => exact absurd rfl hb
      | true =>
        have h5 : x ≠ y := by simpa using h4
        rw [decide_eq_false h5]
        rfl⟩
abbrev s_ends : Stmt := top 39
abbrev N_ends : List Str := ["part"]
theorem sc_ends : FnScope N_ends ["part"] (defScope s_ends) := C8.fnScope_by (by decide +kernel)
theorem ok_ends (T : Tx w K mg base) : Cl P w K mg base CX0 1 "ends" (spD K fun ds d => ds.length = 1 ∧ P_ends ds d) := cl_pure T.d_ends T.g_ends sc_ends (fun _ _ h => h.1) (fun _ _ _ _ _ _ us hl => match us, hl with | [_], _ => rfl) fun cdv A outer s H E ds d hr h => ⟨_,
  (pss_one (ps_ret (pe_ifExp (pt_cmpR op_eq (pe_ix (ix_tupK K rfl) (pv 0) pe_int (fun _ _ => rfl)) pe_str (nomark _)) (pe_ix (ix_tupK K rfl) (pv 0) pe_int (fun _ _ => rfl)) (pe_tup (pa_cons (pe_ix (ix_tupK K rfl) (pv 0) pe_int (fun _ _ => rfl)) (pa_cons (pe_ix (ix_tupK K rfl) (pv 0) pe_int (fun _ _ => rfl)) pa_nil)))))), by
  replace h := h.2
 
  obtain ⟨p, rfl, rfl⟩ := h
  have hv : EG K [] ([partD p].map (fun d => some (GV.d d)) ++ List.replicate (N_ends.length - [partD p].length) none) (tVar 0) (partD p) := eg_var rfl
  refine bg_ret (eg_if (tg_test (eg_op (eg_p0 hv) eg_str rg_eqS)) (fun hb => ?_) fun hb => ?_)
  · cases p with
    | hub ps w => exact eg_ixT (d := strsD ps) hv eg_int rfl
    | arc ld x y w =>
      cases ld
      · exact absurd (show ("pipe" : Str) = "hub" from of_decide_eq_true hb) (by decide)
      · exact absurd (show ("lead" : Str) = "hub" from of_decide_eq_true hb) (by decide)
  · cases p with
    | hub ps w => exact absurd rfl (of_decide_eq_false hb)
    | arc ld x y w => exact eg_tup (ag_cons (eg_ixT (d := .str x) hv eg_int rfl) (ag_cons (eg_ixT (d := .str y) hv eg_int rfl) ag_nil)) (Nat.le_of_ble_eq_true rfl)⟩
abbrev s_has_kind : Stmt := top 41
abbrev N_has_kind : List Str := ["parts", "kind", "part"]
theorem sc_has_kind : FnScope N_has_kind ["parts", "kind"] (defScope s_has_kind) := C8.fnScope_by (by decide +kernel)
theorem ok_has_kind (T : Tx w K mg base) : Cl P w K mg base CX0 1 "has_kind" (spD K fun ds d => ds.length = 2 ∧ P_has_kind ds d) := cl_pure T.d_has_kind T.g_has_kind sc_has_kind (fun _ _ h => h.1) (fun _ _ _ _ _ _ us hl => match us, hl with | [_, _], _ => rfl) fun cdv A outer s H E ds d hr h => ⟨_,
  (pss_one (ps_ret (pe_callB (cr_any rfl) (by rfl) T.n_any bt_any (pa_cons (pe_lc (own := [("part", 2)]) rfl sc_has_kind.nd (pi_tup (pv 0)) (blkOk_by (own := [("part", 2)]) (N := N_has_kind) (sc := defScope s_has_kind) (by decide +kernel)) (fun _ _ _ _ _ => (pg_name (i := 2) sc_has_kind.nd rfl (Or.inl rfl))) (fun _ _ _ _ _ => pts_nil) (fun _ _ _ _ _ => (pe_cmpR op_eq (pe_ix (ix_tupK K rfl) (pv 2) pe_int (fun _ _ => rfl)) (pv 1) (nomark _)))) pa_nil)))), by
  replace h := h.2
 
  obtain ⟨ps, k, hz, rfl, rfl⟩ := h
  exact bg_ret (eg_cb (ag_cons (eg_lcA (f := fun p : Part => .bool (decide (p.kind = k))) (ig_tup (g := partD) (eg_var rfl)) (by omega) (fun j hj => by simpa using hj) fun p _ => eg_op (eg_p0 (eg_var rfl)) (eg_var rfl) rg_eqS) ag_nil) cg_anyM)⟩
def kvN (ks : List Str) : List (Key × GV) := ks.map fun x => (.inr x, .d (.bool true))
theorem kvN_put (ks : List Str) (x : Str) : putGK (kvN ks) (.inr x) (.d (.bool true)) = kvN (addK ks x) := by
  unfold putGK addK
  have e : ((kvN ks).any fun kv => decide (kv.1 = Sum.inr x)) = decide (x ∈ ks) := by
    unfold kvN
    rw [List.any_map]
    induction ks with
    | nil => rfl
    | cons y r ih =>
      rw [List.any_cons, ih]
      by_cases h : y = x
      · simp [h]
      · simp [h, Ne.symm h]
  rw [e]
  by_cases h : x ∈ ks
  · rw [decide_eq_true h, if_pos rfl, if_pos h]
    unfold kvN
    rw [List.map_map]
    refine List.map_congr_left fun y _ => ?_
    by_cases hy : y = x
    · simp [hy]
    · simp [hy]
  · rw [decide_eq_false h, if_neg Bool.false_ne_true, if_neg h]
    simp [kvN]
theorem kvN_fold (xs ks : List Str) : xs.foldl (fun acc z => putGK acc (.inr z) (.d (.bool true))) (kvN ks) = kvN (xs.foldl addK ks) := by
  induction xs generalizing ks with
  | nil => rfl
  | cons x r ih => rw [List.foldl_cons, List.foldl_cons, kvN_put, ih]
theorem sort_strs (xs : List Str) : (xs.map PyData.str).mergeSort (PySem.W.dataLe false id) = (sortS xs).map .str := by
  unfold sortS
  exact (List.map_mergeSort (r := PySem.W.dataLe false PyData.str) (s := PySem.W.dataLe false id) (f := PyData.str) (l := xs) fun a _ b _ => rfl).symm
theorem cg_sortStrs {xs : List Str} : CG K (rSortD K) [.list (xs.map .str)] (.list ((sortS xs).map .str)) := by
  rw [← sort_strs]
  refine cg_sortD (PySem.W.AllAlike.of fun a b => rfl) (PySem.W.Sortable.others fun b => ⟨by simp, fun xs => by simp⟩) fun d hd => ?_
  · obtain ⟨x, _, rfl⟩ := List.mem_map.mp hd
    show 0 ≤ 8
    decide
def stepK (acc : List Str) (p : Part) : List Str := p.ends.foldl addK acc
theorem stepK_len {ps : List Part} (h : ∀ p ∈ ps, p.ends.length ≤ 1000) {acc : List Str} : (ps.foldl stepK acc).length ≤ acc.length + 1000 * ps.length := by
  induction ps generalizing acc with
  | nil => simp
  | cons p r ih =>
    have h1 := ih (fun q hq => h q (by simp [hq])) (acc := stepK acc p)
    have h2 := addKs_len (xs := p.ends) (acc := acc)
    have h3 := h p (by simp)
    rw [List.foldl_cons, List.length_cons]
    unfold stepK at h1 ⊢
    omega
abbrev s_named_places : Stmt := top 40
abbrev N_named_places : List Str := ["taps", "parts", "found", "part", "place", "tap"]
theorem sc_named_places : FnScope N_named_places ["taps", "parts"] (defScope s_named_places) := C8.fnScope_by (by decide +kernel)
theorem ok_named_places (T : Tx w K mg base) : Cl P w K mg base CX0 2 "named_places" (spD K fun ds d => ds.length = 2 ∧ P_named_places ds d) := cl_pureM T.d_named_places T.g_named_places sc_named_places (fun _ _ h => h.1) (fun _ _ _ _ _ _ us hl => match us, hl with | [_, _], _ => rfl) fun cdv A outer s H E ds d hr h => ⟨_,
  (pss_cons (ps_setDc (i := 2) (own := [("tap", 5)]) rfl sc_named_places.nd rfl rfl (sw_dict rfl rfl rfl (by decide +kernel)) (pi_tup (pv 0)) (blkOk_by (own := [("tap", 5)]) (N := N_named_places) (sc := defScope s_named_places) (by decide +kernel)) (fun _ _ _ _ _ => (pg_name (i := 5) sc_named_places.nd rfl (Or.inl rfl))) (fun _ _ _ _ _ => pts_nil) (fun _ _ _ _ _ => (pv 5)) (fun _ _ _ _ _ => pe_bl))
  (pss_cons (ps_for PassesOwn.never rfl (pi_tup (pv 1)) (pg_name (i := 3) sc_named_places.nd rfl (Or.inl rfl))
    (pss_one (ps_for PassesOwn.never rfl (pi_tup (pcl (ok_ends T) hr (by decide) pass0 (by rfl) (pa_cons (pv 3) pa_nil))) (pg_name (i := 4) sc_named_places.nd rfl (Or.inl rfl))
    (pss_one (ps_dput (hu_of hr) (pv 2) (pv 4) pe_bl rfl)))))
  (pss_one (ps_ret (pe_callB (cr_sortedD hr.units) (by rfl) T.n_sorted bt_sorted (pa_cons (pe_callTy (call_list_dK rfl) (by rfl) T.n_list bt_list (pa_cons (pv 2) pa_nil)) pa_nil)))))), by
  replace h := h.2
 
  obtain ⟨xs, ps, hx, hp, he, rfl, rfl⟩ := h
  refine bm_seq (sm_asg (em_dc (zs := xs) (kf := fun x => .inr x) (vf := fun _ => .d (.bool true)) (ig_tup (g := .str) (eg_var rfl)) (by omega) (fun j hj => by simpa using hj) (fun x _ => eg_var rfl) fun x _ => eg_bl)) ?_
  rintro G1 L1 ⟨g, rfl, q, rfl, rfl⟩
  rw [show ([] : List (Key × GV)) = kvN [] from rfl, kvN_fold]
  generalize hk0 : xs.foldl addK [] = k0
  have hk : k0.length ≤ 1000 := by
    rw [← hk0]
    exact Nat.le_trans addKs_len (by simpa using hx)
  refine bm_seq (sm_for (W := fun i G' L' => G' = [some (.d (strsD xs)), some (.d (.tuple (ps.map partD))), some (.r q), none, none, none] ∧ L' = [(q, .dK (kvN ((ps.take i).foldl stepK k0)))]) (ig_tup (g := partD) (xs := ps) (eg_var rfl)) ⟨rfl, rfl⟩ ?_) ?_
  · rintro i p G1 L1 hi ⟨rfl, rfl⟩
    have hmem := List.mem_of_getElem? hi
    have hl1 : ((ps.take i).foldl stepK k0).length ≤ 1000 + 1000 * 200 := by
      refine Nat.le_trans (stepK_len fun p hp => he p (List.mem_of_mem_take hp)) ?_
      rw [List.length_take]
      omega
    generalize hk1 : (ps.take i).foldl stepK k0 = k1 at hl1
    refine sm_less (sm_imp (sm_for (W := fun j G' L' => G' = [some (.d (strsD xs)), some (.d (.tuple (ps.map partD))), some (.r q), some (.d (partD p)), none, none] ∧ L' = [(q, .dK (kvN ((p.ends.take j).foldl addK k1)))]) (ig_tup (g := PyData.str) (xs := p.ends) (eg_call (ag_cons (eg_var rfl) ag_nil) ⟨rfl, p, rfl, rfl⟩)) ⟨rfl, rfl⟩ ?_) ?_)
    · rintro j x G1 L1 hj ⟨rfl, rfl⟩
      have hl2 : ((p.ends.take j).foldl addK k1).length < sizeLine := by
        have h1 := addKs_len (xs := p.ends.take j) (acc := k1)
        have h2 := he p hmem
        rw [List.length_take] at h1
        exact Nat.lt_of_lt_of_le (show _ < 300000 by omega) (by decide)
      refine sm_less (sm_imp (sm_dput (p := q) (k := .inr x) (kvs := kvN ((p.ends.take j).foldl addK k1)) (em_eg eg_bl) (fun g L1 h => ?_) (fun g L1 h => ?_) (fun g L1 h => ?_) (by unfold kvN; rw [List.length_map]; exact hl2)) ?_)
      · exact ev_var rfl
      · exact eg_var rfl
      · rw [h.2]; simp
      · rintro G2 L2 ⟨rfl, g, L1, ⟨rfl, rfl⟩, rfl⟩
        refine ⟨_, ?_, rfl, ?_⟩
        · exact ⟨.inr rfl, .inr rfl, .inr rfl, .inr rfl, .inl rfl, .inl rfl, trivial⟩
        rw [fold_step hj]
        simp [putL, kvN_put]
    · rintro G2 L2 ⟨rfl, rfl⟩
      refine ⟨_, ?_, rfl, ?_⟩
      · exact ⟨.inr rfl, .inr rfl, .inr rfl, .inl rfl, .inl rfl, .inl rfl, trivial⟩
      rw [List.take_length, fold_step hi, hk1]
      rfl
  · rintro G1 L1 ⟨rfl, rfl⟩
    rw [List.take_length]
    refine bm_ret (em_imp (em_eg (eg_of (eg_cb (ag_cons (eg_of (eg_listK (p := q) (kvs := kvN (ps.foldl stepK k0)) (av_cons (ev_var rfl) av_nil) (by simp)) ?_) ag_nil) (cg_sortStrs (xs := ps.foldl stepK k0))) ?_)) fun g L h => h.1)
    · simp [kvN, kD, Function.comp_def]
    · rw [← hk0]
      rfl⟩
abbrev s_is_net : Stmt := top 42
abbrev N_is_net : List Str := ["value", "parts", "part"]
theorem sc_is_net : FnScope N_is_net ["value"] (defScope s_is_net) := C8.fnScope_by (by decide +kernel)
theorem ok_is_net (T : Tx w K mg base) : Cl P w K mg base CX0 5 "is_net" (spD K fun ds d => ds.length = 1 ∧ P_is_net ds d) := cl_pure T.d_is_net T.g_is_net sc_is_net (fun _ _ h => h.1) (fun _ _ _ _ _ _ us hl => match us, hl with | [_], _ => rfl) fun cdv A outer s H E ds d hr h => ⟨_,
  (pss_cons (ps_if (PW.pt (pw_or (pt_not (pt_val (pe_callB (call_isiK K rfl) (by rfl) T.n_isinstance bt_isinstance (pa_cons (pv 0) (pa_cons (pe_bltn (v := .ty "tuple") (by rfl) T.n_tuple bt_tuple rfl) pa_nil))))) (pw_or1 (pt_cmpR op_ne (pe_callB (call_lenK K rfl) (by rfl) T.n_len bt_len (pa_cons (pv 0) pa_nil)) pe_int (nomark _)))))
    (pss_one (ps_ret pe_bl))
    pss_nil)
  (pss_cons (ps_if (PW.pt (pw_or (pt_not (pt_val (pcl (ok_is_taps T) hr (by decide) pass0 (by rfl) (pa_cons (pe_ix (ix_tupK K rfl) (pv 0) pe_int (fun _ _ => rfl)) pa_nil)))) (pw_or1 (pt_not (pt_val (pe_callB (call_isiK K rfl) (by rfl) T.n_isinstance bt_isinstance (pa_cons (pe_ix (ix_tupK K rfl) (pv 0) pe_int (fun _ _ => rfl)) (pa_cons (pe_bltn (v := .ty "tuple") (by rfl) T.n_tuple bt_tuple rfl) pa_nil))))))))
    (pss_one (ps_ret pe_bl))
    pss_nil)
  (pss_cons (ps_set (i := 1) sc_is_net.nd rfl (Or.inl rfl) (pe_ix (ix_tupK K rfl) (pv 0) pe_int (fun _ _ => rfl)))
  (pss_cons (ps_if (PW.pt (pw_or (pt_cmpR op_gt (pe_callB (call_lenK K rfl) (by rfl) T.n_len bt_len (pa_cons (pv 1) pa_nil)) (C8.pe_gc (by rfl) T.c_MOST_PARTS) (nomark _)) (pw_or1 (pt_not (pt_val (pe_callB (cr_all rfl) (by rfl) T.n_all bt_all (pa_cons (pe_lc (own := [("part", 2)]) rfl sc_is_net.nd (pi_tup (pv 1)) (blkOk_by (own := [("part", 2)]) (N := N_is_net) (sc := defScope s_is_net) (by decide +kernel)) (fun _ _ _ _ _ => (pg_name (i := 2) sc_is_net.nd rfl (Or.inl rfl))) (fun _ _ _ _ _ => pts_nil) (fun _ _ _ _ _ => (pcl (ok_is_part T) hr (by decide) pass0 (by rfl) (pa_cons (pv 2) pa_nil)))) pa_nil)))))))
    (pss_one (ps_ret pe_bl))
    pss_nil)
  (pss_cons (ps_if (PW.pt (pw_and (pt_val (pcl (ok_has_kind T) hr (by decide) pass0 (by rfl) (pa_cons (pv 1) (pa_cons pe_str pa_nil)))) (pw_and1 (pt_val (pcl (ok_has_kind T) hr (by decide) pass0 (by rfl) (pa_cons (pv 1) (pa_cons pe_str pa_nil)))))))
    (pss_one (ps_ret pe_bl))
    pss_nil)
  (pss_one (ps_ret (pe_cmpR op_le (pe_callB (call_lenK K rfl) (by rfl) T.n_len bt_len (pa_cons (pcl (ok_named_places T) hr (by decide) pass0 (by rfl) (pa_cons (pe_ix (ix_tupK K rfl) (pv 0) pe_int (fun _ _ => rfl)) (pa_cons (pv 1) pa_nil))) pa_nil)) (C8.pe_gc (by rfl) T.c_MOST_PLACES) (nomark _))))))))), by
  replace h := h.2
 
  obtain ⟨xs, ps, n, rfl, rfl⟩ := h
  have hl := n.len
  refine bg_skip (b := false) (tg_or (a := false) (b := false) (tg_not (a := true) (tg_test (eg_isi (eg_var rfl) rfl))) fun _ => tg_of (tg_test (eg_op (eg_cb (ag_cons (eg_var rfl) ag_nil) cg_lenT) eg_int rg_neI)) rfl) rfl ?_
  refine bg_skip (b := false) (tg_or (a := false) (b := false) (tg_not (a := true) (tg_test (eg_call (ag_cons (eg_ixT (d := strsD xs) (eg_var rfl) eg_int rfl) ag_nil) ⟨rfl, xs, n.taps, rfl, rfl⟩))) fun _ => tg_not (a := true) (tg_test (eg_isi (d := .tuple (ps.map partD)) (eg_ixT (eg_var rfl) eg_int rfl) rfl))) rfl ?_
  refine bg_asg (eg_ixT (d := .tuple (ps.map partD)) (eg_var rfl) eg_int rfl) ?_
  refine bg_skip (b := false) (tg_or (a := false) (b := false) (tg_of (tg_test (eg_cmp (eg_cb (ag_cons (eg_var rfl) ag_nil) cg_lenT) eg_int)) ?_) fun _ => tg_not (a := true) (tg_of (tg_test (eg_cb (ag_cons (eg_lcA (f := fun _ : Part => .bool true) (ig_tup (g := partD) (eg_var rfl)) (by omega) (fun j hj => by simpa using hj) fun p hp => eg_call (ag_cons (eg_var rfl) ag_nil) ⟨rfl, p, n.ok p hp, rfl, rfl⟩) ag_nil) (cg_allM (f := fun _ => true)))) ?_)) rfl ?_
  · simp; omega
  · simp
  refine bg_skip (tg_and (tg_test (eg_call (ag_cons (eg_var rfl) (ag_cons eg_str ag_nil)) ⟨rfl, ps, "lead", by omega, rfl, rfl⟩)) fun _ => tg_test (eg_call (ag_cons (eg_var rfl) (ag_cons eg_str ag_nil)) ⟨rfl, ps, "hub", by omega, rfl, rfl⟩)) ?_ (bg_ret (eg_of (eg_cmp (eg_cb (ag_cons (eg_call (ag_cons (eg_ixT (d := strsD xs) (eg_var rfl) eg_int rfl) (ag_cons (eg_var rfl) ag_nil)) ⟨rfl, xs, ps, by have := n.taps.hi; omega, hl, fun p hp => (n.ok p hp).len, rfl, rfl⟩) ag_nil) cg_lenL) eg_int) ?_))
  · rw [Bool.eq_false_iff]
    intro z
    rw [Bool.and_eq_true] at z
    exact n.one z
  · have := n.few
    simp
    omega⟩
abbrev s_need_net : Stmt := top 43
abbrev N_need_net : List Str := ["net"]
theorem sc_need_net : FnScope N_need_net ["net"] (defScope s_need_net) := C8.fnScope_by (by decide +kernel)
theorem ok_need_net (T : Tx w K mg base) : Cl P w K mg base CX0 6 "need_net" (spD K fun ds d => ds.length = 1 ∧ P_need_net ds d) := cl_pure T.d_need_net T.g_need_net sc_need_net (fun _ _ h => h.1) (fun _ _ _ _ _ _ us hl => match us, hl with | [_], _ => rfl) fun cdv A outer s H E ds d hr h => ⟨_,
  (pss_one (ps_if (pt_not (pt_val (pcl (ok_is_net T) hr (by decide) pass0 (by rfl) (pa_cons (pv 0) pa_nil))))
    (pss_one ps_never)
    pss_nil)), by
  replace h := h.2
 
  obtain ⟨xs, ps, n, rfl, rfl⟩ := h
  exact bg_skip1 (tg_not (a := true) (tg_test (eg_call (ag_cons (eg_var rfl) ag_nil) ⟨rfl, xs, ps, n, rfl, rfl⟩))) rfl⟩
abbrev s_kind_of : Stmt := top 44
abbrev N_kind_of : List Str := ["net"]
theorem sc_kind_of : FnScope N_kind_of ["net"] (defScope s_kind_of) := C8.fnScope_by (by decide +kernel)
theorem ok_kind_of (T : Tx w K mg base) : Cl P w K mg base CX0 2 "kind_of" (spD K fun ds d => ds.length = 1 ∧ P_kind_of ds d) := cl_pure T.d_kind_of T.g_kind_of sc_kind_of (fun _ _ h => h.1) (fun _ _ _ _ _ _ us hl => match us, hl with | [_], _ => rfl) fun cdv A outer s H E ds d hr h => ⟨_,
  (pss_cons (ps_if (pt_val (pcl (ok_has_kind T) hr (by decide) pass0 (by rfl) (pa_cons (pe_ix (ix_tupK K rfl) (pv 0) pe_int (fun _ _ => rfl)) (pa_cons pe_str pa_nil))))
    (pss_one (ps_ret pe_str))
    pss_nil)
  (pss_one (ps_ret (pe_ifExp (pt_val (pcl (ok_has_kind T) hr (by decide) pass0 (by rfl) (pa_cons (pe_ix (ix_tupK K rfl) (pv 0) pe_int (fun _ _ => rfl)) (pa_cons pe_str pa_nil)))) pe_str pe_str)))), by
  replace h := h.2
 
  obtain ⟨xs, ps, hz, rfl, rfl⟩ := h
  have e1 : EG K [] ([netD xs ps].map (fun d => some (GV.d d)) ++ List.replicate (N_kind_of.length - [netD xs ps].length) none) (tOp (rIxT K) (tVar 0) (tC (.int 1))) (.tuple (ps.map partD)) := eg_ixT (eg_var rfl) eg_int rfl
  refine bg_when (tg_test (eg_call (ag_cons e1 (ag_cons eg_str ag_nil)) ⟨rfl, ps, "lead", hz, rfl, rfl⟩)) (fun hb => bg_ret (eg_of eg_str ?_)) (fun _ z => by cases z) fun hb => bg_ret (eg_of (eg_ite (tg_test (eg_call (ag_cons e1 (ag_cons eg_str ag_nil)) ⟨rfl, ps, "hub", hz, rfl, rfl⟩)) (fun _ => eg_str) fun _ => eg_str) ?_)
  · unfold kindF
    rw [if_pos hb]
  · cases h2 : anyK ps "hub" <;> simp [kindF, hb, h2]⟩
abbrev s_sort_of : Stmt := top 45
abbrev N_sort_of : List Str := ["net"]
theorem sc_sort_of : FnScope N_sort_of ["net"] (defScope s_sort_of) := C8.fnScope_by (by decide +kernel)
theorem ok_sort_of (T : Tx w K mg base) : Cl P w K mg base CX0 7 "sort_of" (spD K fun ds d => ds.length = 1 ∧ P_sort_of ds d) := cl_pure T.d_sort_of T.g_sort_of sc_sort_of (fun _ _ h => h.1) (fun _ _ _ _ _ _ us hl => match us, hl with | [_], _ => rfl) fun cdv A outer s H E ds d hr h => ⟨_,
  (pss_cons (ps_expr (pcl (ok_need_net T) hr (by decide) pass0 (by rfl) (pa_cons (pv 0) pa_nil)))
  (pss_one (ps_ret (pcl (ok_kind_of T) hr (by decide) pass0 (by rfl) (pa_cons (pv 0) pa_nil))))), by
  replace h := h.2
 
  obtain ⟨xs, ps, n, rfl, rfl⟩ := h
  exact bg_drop (eg_call (ag_cons (eg_var rfl) ag_nil) ⟨rfl, xs, ps, n, rfl, rfl⟩) (bg_ret (eg_call (ag_cons (eg_var rfl) ag_nil) ⟨rfl, xs, ps, by have := n.len; omega, rfl, rfl⟩))⟩
abbrev s_of_parts : Stmt := top 46
abbrev N_of_parts : List Str := ["net", "pieces", "found", "some", "part"]
theorem sc_of_parts : FnScope N_of_parts ["net", "pieces"] (defScope s_of_parts) := C8.fnScope_by (by decide +kernel)
theorem ok_of_parts (T : Tx w K mg base) : Cl P w K mg base CX0 3 "of_parts" (spD K fun ds d => ds.length = 2 ∧ P_of_parts ds d) := cl_pure T.d_of_parts T.g_of_parts sc_of_parts (fun _ _ h => h.1) (fun _ _ _ _ _ _ us hl => match us, hl with | [_, _], _ => rfl) fun cdv A outer s H E ds d hr h => ⟨_,
  (pss_cons (ps_setLc2 (i := 2) (own := [("some", 3), ("part", 4)]) (vs1 := [4]) (wi1 := iList K (tVar 3)) rfl sc_of_parts.nd rfl rfl (sw_true rfl rfl rfl (by decide +kernel)) (pi_list (pv 1)) (blkOk_by (own := [("some", 3), ("part", 4)]) (N := N_of_parts) (sc := defScope s_of_parts) (by decide +kernel)) (by decide) (fun _ _ _ _ _ => (pg_name (i := 3) sc_of_parts.nd rfl (Or.inl rfl))) (fun _ _ _ _ _ => pts_nil) (fun _ _ _ _ _ => (pi_list (pv 3))) (fun _ _ _ _ _ => (pg_name (i := 4) sc_of_parts.nd rfl (Or.inl rfl))) (fun _ _ _ _ _ => pts_nil) (fun _ _ _ _ _ => (pv 4)))
  (pss_cons (ps_if (pt_cmpR op_gt (pe_callB (call_lenK K rfl) (by rfl) T.n_len bt_len (pa_cons (pv 2) pa_nil)) (C8.pe_gc (by rfl) T.c_MOST_PARTS) (nomark _))
    (pss_one ps_never)
    pss_nil)
  (pss_one (ps_ret (pe_tup (pa_cons (pe_ix (ix_tupK K rfl) (pv 0) pe_int (fun _ _ => rfl)) (pa_cons (pe_callTy (call_tupK K rfl) (by rfl) T.n_tuple bt_tuple (pa_cons (pv 2) pa_nil)) pa_nil))))))), by
  replace h := h.2
 
  obtain ⟨xs, ps, pss, hz, rfl, rfl⟩ := h
  have e : (pss.flatMap fun l => l.map partD) = pss.flatten.map partD := by
    rw [List.map_flatten, List.flatMap_def]
  refine bg_asg (eg_lc2 (ys := fun l : List Part => l) (f := fun _ p => partD p) (ig_lst (g := fun l : List Part => .list (l.map partD)) (eg_var rfl)) (fun j hj => ?_) (fun l _ => ig_lst (g := partD) (eg_var rfl)) (fun j hj => by simpa using hj) (fun l _ p _ => eg_var rfl) ?_) ?_
  · simp at hj ⊢; exact hj.1
  · rw [e, List.length_map]; omega
  · rw [e]
    refine bg_skip (b := false) (tg_of (tg_test (eg_cmp (eg_cb (ag_cons (eg_var rfl) ag_nil) cg_lenL) eg_int)) ?_) rfl (bg_ret (eg_tup (ag_cons (eg_ixT (d := strsD xs) (eg_var rfl) eg_int rfl) (ag_cons (eg_cb (ag_cons (eg_var rfl) ag_nil) cg_tupL) ag_nil)) (Nat.le_of_ble_eq_true rfl)))
    rw [List.length_map]
    exact decide_eq_false (by omega)⟩
end
end K13
namespace K13
open PySem PySem.Spec PyProof.Rows L2
open Evl (Ex fresh_back ex_l ex_t)
/-- one step of reading an expression's worth -/
local macro_rules | `(tactic| walk_at "eg1") => `(tactic| first
  | exact eg_var rfl | exact eg_int | exact eg_str | exact eg_bl | exact eg_non | exact tg_yes | exact og_none
  | apply og_some
  | apply tg_test | apply tg_B | apply tg_not | apply eg_notV | apply eg_neg
  | apply eg_isi
  | apply eg_ixT | apply eg_ixL
  | apply eg_cmp | apply eg_i0 | apply eg_ic
  | apply eg_op (hr := rg_eqI) | apply eg_op (hr := rg_eqS) | apply eg_op (hr := rg_neI) | apply eg_op (hr := rg_neS)
  | apply eg_cb (hr := cg_gcd)
  | exact (rfl : atI _ _ = _) | exact (rfl : kitB _ _ = _)
  | exact ag_nil | apply ag_cons
  | exact (by assumption : EG _ _ _ _ _) | apply eg_tup | apply eg_lst | exact Nat.le_of_ble_eq_true rfl)
local macro_rules | `(tactic| walk_at "eg") => `(tactic| repeat' walk_at "eg1")
section
variable {P : Program} {w : World} {K : PySem.W.Frag} {mg : Str → Option Value} {base : Heap} {x : Str} {st : Stmt} {N ps : List Str} {k : Nat} {sp : Sp}
/-- a def from data to data, its record told -/
theorem fn_pure {R : List PyData → PyData → Prop} (d : ∃ fd, FunD K x x (defArgs st) (defBody st) (defScope st) [] [] (He.ga K x) fd) (S : FnScope N ps (defScope st)) (len : ∀ ds d, R ds d → ds.length = ps.length)
    (hbody : ∀ (cdv : Value) (A : Around) (outer : List Env) (s : Shared) (H : Hp) (E : XK) (ds : List PyData) (d : PyData), Room k (A.deeper (envOfC x (defScope st) s.heap.objs.size (He.ga K x) cdv)) → R ds d →
      ∃ t, PSs (cxOf CX0 P w K mg base N x (defScope st) (He.ga K x) cdv A outer s H E).nox (defBody st) t ∧ BG K [] (ds.map (fun d => some (GV.d d)) ++ List.replicate (N.length - ds.length) none) t d) :
    ∃ fd, FunD K x x (defArgs st) (defBody st) (defScope st) [] [] (He.ga K x) fd ∧ FnOk P w K mg base CX0 (k + 1) (He.ga K x) fd ps (spD K R) := by
  obtain ⟨fd, F⟩ := d
  refine ⟨fd, F, F.ok S (fun vs H Q E h => ?_) fun cdv A outer s H vs Q E hr h => ?_⟩
  · obtain ⟨ds, d, N1, _, h1, h2, _⟩ := h
    rw [dps_len h1]
    exact len _ _ h2
  · obtain ⟨ds, d, N1, ex, h1, h2, q⟩ := h
    obtain ⟨t, p1, p2⟩ := hbody cdv A outer s H E ds d hr h2
    have hl : ds.length ≤ N.length := by
      rw [len _ _ h2]
      have := congrArg List.length S.pre
      rw [List.length_take] at this
      omega
    exact ⟨t, p1.nox, p2 (L2.start N vs) N1 H _ ⟨En0.start h1 hl, .nil⟩ ex q fun σ' N' H' w' e => by
      subst e
      exact q .non N' H' w' .non⟩
theorem cl_fn (h : ∃ fd, FunD K x x (defArgs st) (defBody st) (defScope st) [] [] (He.ga K x) fd ∧ FnOk P w K mg base CX0 k (He.ga K x) fd ps sp) (hm : mg x = some (.ref (He.ga K x)))
    (hb : ∀ (kV doc pm : Value) (an : Option Addr) (cdv ct : Value) (us : List Value), us.length = ps.length → bindArgs (PySem.W.fnOf x x (defArgs st) (defBody st) (defScope st) .none kV doc pm an cdv ct) ⟨us, []⟩ = pure (ps.zip us)) : Cl P w K mg base CX0 k x sp := by
  obtain ⟨fd, F, ok⟩ := h
  exact ⟨fd, ps, ok, hm, F.kp, F.bindsN hb⟩
end
def bothF : Part → List Part
  | .arc true x y w => [.arc true x y w]
  | .arc false x y w => [.arc true x y w, .arc true y x w]
  | .hub _ _ => []
def hubF (p : Part) : Part := .hub p.ends p.w
def halfQ (w : Q2) : Q2 := red w.1 (w.2 * 2)
def pipesF (p : Part) : List Part := match p.ends with
  | [x, y] => [.arc false x y p.w]
  | [x, y, z] => [.arc false x y (halfQ p.w), .arc false x z (halfQ p.w), .arc false y z (halfQ p.w)]
  | _ => []
def isArc : Part → Bool
  | .arc _ _ _ _ => true
  | .hub _ _ => false
theorem no_hub {ps : List Part} (h : anyK ps "hub" = false) : ∀ p ∈ ps, isArc p = true := fun p hp => by
  cases p with
  | arc ld x y w => rfl
  | hub zs w =>
    have := List.any_eq_false.mp h _ hp
    exact absurd (show decide ((Part.hub zs w).kind = "hub") = true from rfl) this
theorem kind_hubs {xs : List Str} {ps : List Part} (n : NetOk xs ps) (h : kindF ps ≠ "hubs") : anyK ps "hub" = false := by
  cases e : anyK ps "hub" with
  | false => rfl
  | true =>
    have h2 : anyK ps "lead" = false := by
      cases e2 : anyK ps "lead" with
      | false => rfl
      | true => exact absurd ⟨e2, e⟩ n.one
    exact absurd (by simp [kindF, e, h2]) h
section
variable {P : Program} {w : World} {K : PySem.W.Frag} {mg : Str → Option Value} {base : Heap} {L : SH} {G : Gm} {te : TE}
def P_both_leads (ds : List PyData) (d : PyData) : Prop := ∃ p, isArc p = true ∧ ds = [partD p] ∧ d = .list ((bothF p).map partD)
def P_as_leads (ds : List PyData) (d : PyData) : Prop := ∃ xs ps, NetOk xs ps ∧ kindF ps ≠ "hubs" ∧ (ps.flatMap bothF).length ≤ 200 ∧ ds = [netD xs ps] ∧ d = netD xs (ps.flatMap bothF)
def P_as_hubs (ds : List PyData) (d : PyData) : Prop := ∃ xs ps, NetOk xs ps ∧ kindF ps ≠ "leads" ∧ ds = [netD xs ps] ∧ d = netD xs (ps.map hubF)
def P_in_pipes (ds : List PyData) (d : PyData) : Prop := ∃ p : Part, Num p.w ∧ (p.ends.length = 2 ∨ p.ends.length = 3) ∧ ds = [partD p] ∧ d = .list ((pipesF p).map partD)
def P_as_pipes (ds : List PyData) (d : PyData) : Prop := ∃ xs ps, NetOk xs ps ∧ kindF ps ≠ "leads" ∧ (∀ p ∈ ps, p.ends.length ≤ 3) ∧ (ps.flatMap pipesF).length ≤ 200 ∧ ds = [netD xs ps] ∧ d = netD xs (ps.flatMap pipesF)
abbrev s_both_leads : Stmt := top 47
abbrev N_both_leads : List Str := ["part"]
theorem sc_both_leads : FnScope N_both_leads ["part"] (defScope s_both_leads) := C8.fnScope_by (by decide +kernel)
theorem ok_both_leads (T : Tx w K mg base) : Cl P w K mg base CX0 1 "both_leads" (spD K fun ds d => ds.length = 1 ∧ P_both_leads ds d) := cl_pure T.d_both_leads T.g_both_leads sc_both_leads (fun _ _ h => h.1) (fun _ _ _ _ _ _ us hl => match us, hl with | [_], _ => rfl) fun cdv A outer s H E ds d hr h => ⟨_,
  (pss_cons (ps_if (pt_cmpR op_eq (pe_ix (ix_tupK K rfl) (pv 0) pe_int (fun _ _ => rfl)) pe_str (nomark _))
    (pss_one (ps_ret (pe_lst (pa_cons (pv 0) pa_nil))))
    pss_nil)
  (pss_one (ps_ret (pe_lst (pa_cons (pe_tup (pa_cons pe_str (pa_cons (pe_ix (ix_tupK K rfl) (pv 0) pe_int (fun _ _ => rfl)) (pa_cons (pe_ix (ix_tupK K rfl) (pv 0) pe_int (fun _ _ => rfl)) (pa_cons (pe_ix (ix_tupK K rfl) (pv 0) pe_int (fun _ _ => rfl)) pa_nil))))) (pa_cons (pe_tup (pa_cons pe_str (pa_cons (pe_ix (ix_tupK K rfl) (pv 0) pe_int (fun _ _ => rfl)) (pa_cons (pe_ix (ix_tupK K rfl) (pv 0) pe_int (fun _ _ => rfl)) (pa_cons (pe_ix (ix_tupK K rfl) (pv 0) pe_int (fun _ _ => rfl)) pa_nil))))) pa_nil)))))), by
  replace h := h.2
 
  obtain ⟨p, hp, rfl, rfl⟩ := h
  have hv : EG K [] ([partD p].map (fun d => some (GV.d d)) ++ List.replicate (N_both_leads.length - [partD p].length) none) (tVar 0) (partD p) := eg_var rfl
  cases p with
  | hub ps w => cases hp
  | arc ld x y w =>
    have e1 : EG K [] ([partD (.arc ld x y w)].map (fun d => some (GV.d d)) ++ List.replicate (N_both_leads.length - [partD (.arc ld x y w)].length) none) _ (.str x) := eg_ixT (d := .str x) hv (eg_int (i := 1)) rfl
    have e2 : EG K [] ([partD (.arc ld x y w)].map (fun d => some (GV.d d)) ++ List.replicate (N_both_leads.length - [partD (.arc ld x y w)].length) none) _ (.str y) := eg_ixT (d := .str y) hv (eg_int (i := 2)) rfl
    have e3 : EG K [] ([partD (.arc ld x y w)].map (fun d => some (GV.d d)) ++ List.replicate (N_both_leads.length - [partD (.arc ld x y w)].length) none) _ (numD w) := eg_ixT (d := numD w) hv (eg_int (i := 3)) rfl
    cases ld with
    | true => exact bg_take (tg_test (eg_op (eg_p0 hv) eg_str rg_eqS)) rfl (bg_ret (eg_lst (ag_cons hv ag_nil) (Nat.le_of_ble_eq_true rfl))) (fun z => by cases z)
    | false => exact bg_skip (tg_test (eg_op (eg_p0 hv) eg_str rg_eqS)) rfl (bg_ret (eg_lst (ag_cons (eg_tup (ag_cons eg_str (ag_cons e1 (ag_cons e2 (ag_cons e3 ag_nil)))) (Nat.le_of_ble_eq_true rfl)) (ag_cons (eg_tup (ag_cons eg_str (ag_cons e2 (ag_cons e1 (ag_cons e3 ag_nil)))) (Nat.le_of_ble_eq_true rfl)) ag_nil)) (Nat.le_of_ble_eq_true rfl)))⟩
theorem flat_map (ps : List Part) (f : Part → List Part) : (ps.map f).flatten = ps.flatMap f := (List.flatMap_def ..).symm
abbrev s_as_leads : Stmt := top 48
abbrev N_as_leads : List Str := ["net", "part"]
theorem sc_as_leads : FnScope N_as_leads ["net"] (defScope s_as_leads) := C8.fnScope_by (by decide +kernel)
theorem fk_as_leads (T : Tx w K mg base) : ∃ fd, FunD K "as_leads" "as_leads" (defArgs s_as_leads) (defBody s_as_leads) (defScope s_as_leads) [] [] (He.ga K "as_leads") fd ∧ FnOk P w K mg base CX0 8 (He.ga K "as_leads") fd ["net"] (spD K fun ds d => ds.length = 1 ∧ P_as_leads ds d) := fn_pure T.d_as_leads sc_as_leads (fun _ _ h => h.1) fun cdv A outer s H E ds d hr h => ⟨_,
  (pss_cons (ps_if (pt_cmpR op_eq (pcl (ok_sort_of T) hr (by decide) pass0 (by rfl) (pa_cons (pv 0) pa_nil)) pe_str (nomark _))
    (pss_one ps_never)
    pss_nil)
  (pss_one (ps_ret (pcl (ok_of_parts T) hr (by decide) pass0 (by rfl) (pa_cons (pv 0) (pa_cons (pe_lc (own := [("part", 1)]) rfl sc_as_leads.nd (pi_tup (pe_ix (ix_tupK K rfl) (pv 0) pe_int (fun _ _ => rfl))) (blkOk_by (own := [("part", 1)]) (N := N_as_leads) (sc := defScope s_as_leads) (by decide +kernel)) (fun _ _ _ _ _ => (pg_name (i := 1) sc_as_leads.nd rfl (Or.inl rfl))) (fun _ _ _ _ _ => pts_nil) (fun _ _ _ _ _ => (pcl (ok_both_leads T) hr (by decide) pass0 (by rfl) (pa_cons (pv 1) pa_nil)))) pa_nil)))))), by
  replace h := h.2
 
  obtain ⟨xs, ps, n, hk, hz, rfl, rfl⟩ := h
  have hl := n.len
  refine bg_skip (tg_test (eg_op (eg_call (ag_cons (eg_var rfl) ag_nil) ⟨rfl, xs, ps, n, rfl, rfl⟩) eg_str rg_eqS)) (decide_eq_false hk) (bg_ret (eg_of (eg_call (ag_cons (eg_var rfl) (ag_cons (eg_lcA (f := fun p => .list ((bothF p).map partD)) (ig_tup (g := partD) (xs := ps) (eg_ixT (eg_var rfl) eg_int rfl)) (by omega) (fun j hj => by simpa using hj) fun p hp => eg_call (ag_cons (eg_var rfl) ag_nil) ⟨rfl, p, no_hub (kind_hubs n hk) p hp, rfl, rfl⟩) ag_nil)) ⟨rfl, xs, ps, ps.map bothF, by rw [flat_map]; exact hz, ?_, rfl⟩) ?_))
  · rw [List.map_map]; rfl
  · rw [flat_map]⟩
theorem ok_as_leads (T : Tx w K mg base) : Cl P w K mg base CX0 8 "as_leads" (spD K fun ds d => ds.length = 1 ∧ P_as_leads ds d) := cl_fn (fk_as_leads T) T.g_as_leads fun _ _ _ _ _ _ us hl => match us, hl with | [_], _ => rfl
abbrev s_as_hubs : Stmt := top 49
abbrev N_as_hubs : List Str := ["net", "part"]
theorem sc_as_hubs : FnScope N_as_hubs ["net"] (defScope s_as_hubs) := C8.fnScope_by (by decide +kernel)
theorem fk_as_hubs (T : Tx w K mg base) : ∃ fd, FunD K "as_hubs" "as_hubs" (defArgs s_as_hubs) (defBody s_as_hubs) (defScope s_as_hubs) [] [] (He.ga K "as_hubs") fd ∧ FnOk P w K mg base CX0 8 (He.ga K "as_hubs") fd ["net"] (spD K fun ds d => ds.length = 1 ∧ P_as_hubs ds d) := fn_pure T.d_as_hubs sc_as_hubs (fun _ _ h => h.1) fun cdv A outer s H E ds d hr h => ⟨_,
  (pss_cons (ps_if (pt_cmpR op_eq (pcl (ok_sort_of T) hr (by decide) pass0 (by rfl) (pa_cons (pv 0) pa_nil)) pe_str (nomark _))
    (pss_one ps_never)
    pss_nil)
  (pss_one (ps_ret (pcl (ok_of_parts T) hr (by decide) pass0 (by rfl) (pa_cons (pv 0) (pa_cons (pe_lc (own := [("part", 1)]) rfl sc_as_hubs.nd (pi_tup (pe_ix (ix_tupK K rfl) (pv 0) pe_int (fun _ _ => rfl))) (blkOk_by (own := [("part", 1)]) (N := N_as_hubs) (sc := defScope s_as_hubs) (by decide +kernel)) (fun _ _ _ _ _ => (pg_name (i := 1) sc_as_hubs.nd rfl (Or.inl rfl))) (fun _ _ _ _ _ => pts_nil) (fun _ _ _ _ _ => (pe_lst (pa_cons (pe_tup (pa_cons pe_str (pa_cons (pcl (ok_ends T) hr (by decide) pass0 (by rfl) (pa_cons (pv 1) pa_nil)) (pa_cons (pe_ix (ix_tupK K rfl) (pv 1) (pe_un un_neg pe_int) (fun _ _ => rfl)) pa_nil)))) pa_nil)))) pa_nil)))))), by
  replace h := h.2
 
  obtain ⟨xs, ps, n, hk, rfl, rfl⟩ := h
  have hl := n.len
  have e : (ps.map fun p => [hubF p]).flatten = ps.map hubF := by
    rw [← List.flatMap_def]
    exact List.map_eq_flatMap.symm
  refine bg_skip (tg_test (eg_op (eg_call (ag_cons (eg_var rfl) ag_nil) ⟨rfl, xs, ps, n, rfl, rfl⟩) eg_str rg_eqS)) (decide_eq_false hk) (bg_ret (eg_of (eg_call (ag_cons (eg_var rfl) (ag_cons (eg_lcA (f := fun p => .list [partD (hubF p)]) (ig_tup (g := partD) (xs := ps) (eg_ixT (eg_var rfl) eg_int rfl)) (by omega) (fun j hj => by simpa using hj) fun p hp => eg_lst (ag_cons (eg_tup (ag_cons eg_str (ag_cons (eg_call (ag_cons (eg_var rfl) ag_nil) ⟨rfl, p, rfl, rfl⟩) (ag_cons (eg_pZ (eg_var rfl)) ag_nil))) (Nat.le_of_ble_eq_true rfl)) ag_nil) (Nat.le_of_ble_eq_true rfl)) ag_nil)) ⟨rfl, xs, ps, ps.map fun p => [hubF p], by rw [e, List.length_map]; exact hl, ?_, rfl⟩) ?_))
  · rw [List.map_map]; rfl
  · rw [e]⟩
theorem ok_as_hubs (T : Tx w K mg base) : Cl P w K mg base CX0 8 "as_hubs" (spD K fun ds d => ds.length = 1 ∧ P_as_hubs ds d) := cl_fn (fk_as_hubs T) T.g_as_hubs fun _ _ _ _ _ _ us hl => match us, hl with | [_], _ => rfl
abbrev s_in_pipes : Stmt := top 50
abbrev N_in_pipes : List Str := ["part", "half", "pairs", "places", "width", "one", "other"]
theorem sc_in_pipes : FnScope N_in_pipes ["part"] (defScope s_in_pipes) := C8.fnScope_by (by decide +kernel)
theorem ok_in_pipes (T : Tx w K mg base) : Cl P w K mg base CX0 3 "in_pipes" (spD K fun ds d => ds.length = 1 ∧ P_in_pipes ds d) := cl_pure T.d_in_pipes T.g_in_pipes sc_in_pipes (fun _ _ h => h.1) (fun _ _ _ _ _ _ us hl => match us, hl with | [_], _ => rfl) fun cdv A outer s H E ds d hr h => ⟨_,
  (pss_cons (ps_par (i := 3) (j := 4) (by rfl) sc_in_pipes.nd rfl rfl (by decide) rfl rfl (pa_cons (pcl (ok_ends T) hr (by decide) pass0 (by rfl) (pa_cons (pv 0) pa_nil)) (pa_cons (pe_ix (ix_tupK K rfl) (pv 0) (pe_un un_neg pe_int) (fun _ _ => rfl)) pa_nil)) (by rfl))
  (pss_cons (ps_if (pt_cmpR op_eq (pe_callB (call_lenK K rfl) (by rfl) T.n_len bt_len (pa_cons (pv 3) pa_nil)) pe_int (nomark _))
    (pss_one (ps_ret (pe_lst (pa_cons (pe_tup (pa_cons pe_str (pa_cons (pe_ix (ix_tupK K rfl) (pv 3) pe_int (fun _ _ => rfl)) (pa_cons (pe_ix (ix_tupK K rfl) (pv 3) pe_int (fun _ _ => rfl)) (pa_cons (pv 4) pa_nil))))) pa_nil))))
    pss_nil)
  (pss_cons (ps_set (i := 1) sc_in_pipes.nd rfl (Or.inr rfl) (pcl (ok_over T) hr (by decide) pass0 (by rfl) (pa_cons (pv 4) (pa_cons pe_int pa_nil))))
  (pss_cons (ps_set (i := 2) sc_in_pipes.nd rfl (Or.inl rfl) (pe_lst (pa_cons (pe_tup (pa_cons (pe_ix (ix_tupK K rfl) (pv 3) pe_int (fun _ _ => rfl)) (pa_cons (pe_ix (ix_tupK K rfl) (pv 3) pe_int (fun _ _ => rfl)) pa_nil))) (pa_cons (pe_tup (pa_cons (pe_ix (ix_tupK K rfl) (pv 3) pe_int (fun _ _ => rfl)) (pa_cons (pe_ix (ix_tupK K rfl) (pv 3) pe_int (fun _ _ => rfl)) pa_nil))) (pa_cons (pe_tup (pa_cons (pe_ix (ix_tupK K rfl) (pv 3) pe_int (fun _ _ => rfl)) (pa_cons (pe_ix (ix_tupK K rfl) (pv 3) pe_int (fun _ _ => rfl)) pa_nil))) pa_nil)))))
  (pss_one (ps_ret (pe_lc (own := [("one", 5), ("other", 6)]) rfl sc_in_pipes.nd (pi_list (pv 2)) (blkOk_by (own := [("one", 5), ("other", 6)]) (N := N_in_pipes) (sc := defScope s_in_pipes) (by decide +kernel)) (fun _ _ _ _ _ => (pg_tupK (n := 2) K rfl rfl (pgs_cons (pg_name (i := 5) sc_in_pipes.nd rfl (Or.inl rfl) (.inr rfl)) (pgs_cons (pg_name (i := 6) sc_in_pipes.nd rfl (Or.inl rfl) (.inr rfl)) pgs_nil)) (by rfl) (by rfl))) (fun _ _ _ _ _ => pts_nil) (fun _ _ _ _ _ => (pe_tup (pa_cons pe_str (pa_cons (pv 5) (pa_cons (pv 6) (pa_cons (pv 1) pa_nil))))))))))))), by
  replace h := h.2
 
  obtain ⟨p, n, hl, rfl, rfl⟩ := h
  refine bg_par (ag_cons (eg_call (ag_cons (eg_var rfl) ag_nil) ⟨rfl, p, rfl, rfl⟩) (ag_cons (eg_pZ (eg_var rfl)) ag_nil)) ?_
  show BG K [] [some (.d (partD p)), none, none, some (.d (strsD p.ends)), some (.d (numD p.w)), none, none] _ _
  match he : p.ends, hl with
  | [x, y], _ =>
    have e0 : EG K [] [some (.d (partD p)), none, none, some (.d (strsD [x, y])), some (.d (numD p.w)), none, none] _ (.str x) := eg_ixT (d := .str x) (eg_var rfl : EG K [] _ (tVar 3) _) (eg_int (i := 0)) rfl
    have e1 : EG K [] [some (.d (partD p)), none, none, some (.d (strsD [x, y])), some (.d (numD p.w)), none, none] _ (.str y) := eg_ixT (d := .str y) (eg_var rfl : EG K [] _ (tVar 3) _) (eg_int (i := 1)) rfl
    refine bg_take (tg_test (eg_op (eg_cb (ag_cons (eg_var rfl) ag_nil) cg_lenT) eg_int rg_eqI)) rfl (bg_ret (eg_of (eg_lst (ag_cons (eg_tup (ag_cons eg_str (ag_cons e0 (ag_cons e1 (ag_cons (eg_var rfl) ag_nil)))) (Nat.le_of_ble_eq_true rfl)) ag_nil) (Nat.le_of_ble_eq_true rfl)) ?_)) (fun z => by cases z)
    unfold pipesF
    rw [he]
    rfl
  | [x, y, z], _ =>
    have f0 : EG K [] ([some (.d (partD p)), none, none, some (.d (strsD [x, y, z])), some (.d (numD p.w)), none, none].set 1 (some (.d (numD (halfQ p.w))))) _ (.str x) := eg_ixT (d := .str x) (eg_var rfl : EG K [] _ (tVar 3) _) (eg_int (i := 0)) rfl
    have f1 : EG K [] ([some (.d (partD p)), none, none, some (.d (strsD [x, y, z])), some (.d (numD p.w)), none, none].set 1 (some (.d (numD (halfQ p.w))))) _ (.str y) := eg_ixT (d := .str y) (eg_var rfl : EG K [] _ (tVar 3) _) (eg_int (i := 1)) rfl
    have f2 : EG K [] ([some (.d (partD p)), none, none, some (.d (strsD [x, y, z])), some (.d (numD p.w)), none, none].set 1 (some (.d (numD (halfQ p.w))))) _ (.str z) := eg_ixT (d := .str z) (eg_var rfl : EG K [] _ (tVar 3) _) (eg_int (i := 2)) rfl
    refine bg_skip (tg_test (eg_op (eg_cb (ag_cons (eg_var rfl) ag_nil) cg_lenT) eg_int rg_eqI)) rfl ?_
    refine bg_asg (e := numD (halfQ p.w)) (eg_call (ag_cons (eg_var rfl) (ag_cons eg_int ag_nil)) ⟨rfl, p.w, n, rfl, rfl⟩) ?_
    refine bg_asg (e := .list ([(x, y), (x, z), (y, z)].map fun q : Str × Str => .tuple [.str q.1, .str q.2])) (eg_lst (ag_cons (eg_tup (ag_cons f0 (ag_cons f1 ag_nil)) (Nat.le_of_ble_eq_true rfl)) (ag_cons (eg_tup (ag_cons f0 (ag_cons f2 ag_nil)) (Nat.le_of_ble_eq_true rfl)) (ag_cons (eg_tup (ag_cons f1 (ag_cons f2 ag_nil)) (Nat.le_of_ble_eq_true rfl)) ag_nil))) (Nat.le_of_ble_eq_true rfl)) ?_
    refine bg_ret (eg_of (eg_lcA (f := fun q : Str × Str => partD (.arc false q.1 q.2 (halfQ p.w))) (ig_pairs (g := PyData.str) (h := PyData.str) (xs := [(x, y), (x, z), (y, z)]) (eg_var rfl)) (Nat.le_of_ble_eq_true rfl) (fun j hj => by simpa using hj) fun q _ => eg_tup (ag_cons eg_str (ag_cons (eg_var rfl) (ag_cons (eg_var rfl) (ag_cons (eg_var rfl) ag_nil)))) (Nat.le_of_ble_eq_true rfl)) ?_)
    unfold pipesF
    rw [he]
    rfl⟩
theorem ends_ge {p : Part} (h : PartOk p) : 2 ≤ p.ends.length := by
  cases p with
  | arc ld x y w => exact Nat.le_of_ble_eq_true rfl
  | hub ps w => exact h.2.1
abbrev s_as_pipes : Stmt := top 51
abbrev N_as_pipes : List Str := ["net", "part"]
theorem sc_as_pipes : FnScope N_as_pipes ["net"] (defScope s_as_pipes) := C8.fnScope_by (by decide +kernel)
theorem fk_as_pipes (T : Tx w K mg base) : ∃ fd, FunD K "as_pipes" "as_pipes" (defArgs s_as_pipes) (defBody s_as_pipes) (defScope s_as_pipes) [] [] (He.ga K "as_pipes") fd ∧ FnOk P w K mg base CX0 8 (He.ga K "as_pipes") fd ["net"] (spD K fun ds d => ds.length = 1 ∧ P_as_pipes ds d) := fn_pure T.d_as_pipes sc_as_pipes (fun _ _ h => h.1) fun cdv A outer s H E ds d hr h => ⟨_,
  (pss_cons (ps_if (PW.pt (pw_or (pt_cmpR op_eq (pcl (ok_sort_of T) hr (by decide) pass0 (by rfl) (pa_cons (pv 0) pa_nil)) pe_str (nomark _)) (pw_or1 (pt_val (pe_callB (cr_any rfl) (by rfl) T.n_any bt_any (pa_cons (pe_lc (own := [("part", 1)]) rfl sc_as_pipes.nd (pi_tup (pe_ix (ix_tupK K rfl) (pv 0) pe_int (fun _ _ => rfl))) (blkOk_by (own := [("part", 1)]) (N := N_as_pipes) (sc := defScope s_as_pipes) (by decide +kernel)) (fun _ _ _ _ _ => (pg_name (i := 1) sc_as_pipes.nd rfl (Or.inl rfl))) (fun _ _ _ _ _ => pts_nil) (fun _ _ _ _ _ => (pe_cmpR op_gt (pe_callB (call_lenK K rfl) (by rfl) T.n_len bt_len (pa_cons (pcl (ok_ends T) hr (by decide) pass0 (by rfl) (pa_cons (pv 1) pa_nil)) pa_nil)) pe_int (nomark _)))) pa_nil))))))
    (pss_one ps_never)
    pss_nil)
  (pss_one (ps_ret (pcl (ok_of_parts T) hr (by decide) pass0 (by rfl) (pa_cons (pv 0) (pa_cons (pe_lc (own := [("part", 1)]) rfl sc_as_pipes.nd (pi_tup (pe_ix (ix_tupK K rfl) (pv 0) pe_int (fun _ _ => rfl))) (blkOk_by (own := [("part", 1)]) (N := N_as_pipes) (sc := defScope s_as_pipes) (by decide +kernel)) (fun _ _ _ _ _ => (pg_name (i := 1) sc_as_pipes.nd rfl (Or.inl rfl))) (fun _ _ _ _ _ => pts_nil) (fun _ _ _ _ _ => (pcl (ok_in_pipes T) hr (by decide) pass0 (by rfl) (pa_cons (pv 1) pa_nil)))) pa_nil)))))), by
  replace h := h.2
 
  obtain ⟨xs, ps, n, hk, he, hz, rfl, rfl⟩ := h
  have hl := n.len
  refine bg_skip (b := false) (tg_or (a := false) (b := false) (tg_of (tg_test (eg_op (eg_call (ag_cons (eg_var rfl) ag_nil) ⟨rfl, xs, ps, n, rfl, rfl⟩) eg_str rg_eqS)) (decide_eq_false hk)) fun _ => tg_of (tg_test (eg_cb (ag_cons (eg_lcA (f := fun p : Part => .bool (decide ((3 : Int) < (p.ends.length : Int)))) (ig_tup (g := partD) (xs := ps) (eg_ixT (eg_var rfl) eg_int rfl)) (by omega) (fun j hj => by simpa using hj) fun p hp => eg_of (eg_cmp (eg_cb (ag_cons (eg_call (ag_cons (eg_var rfl) ag_nil) ⟨rfl, p, rfl, rfl⟩) ag_nil) (cg_lenT (ds := p.ends.map .str))) eg_int) ?_) ag_nil) cg_anyM)) ?_) rfl (bg_ret (eg_of (eg_call (ag_cons (eg_var rfl) (ag_cons (eg_lcA (f := fun p => .list ((pipesF p).map partD)) (ig_tup (g := partD) (xs := ps) (eg_ixT (eg_var rfl) eg_int rfl)) (by omega) (fun j hj => by simpa using hj) fun p hp => eg_call (ag_cons (eg_var rfl) ag_nil) ⟨rfl, p, (n.ok p hp).num, ?_, rfl, rfl⟩) ag_nil)) ⟨rfl, xs, ps, ps.map pipesF, by rw [flat_map]; exact hz, ?_, rfl⟩) ?_))
  · rw [List.length_map]
  · refine List.any_eq_false.mpr fun p hp => ?_
    have := he p hp
    simp
    omega
  · have := he p hp
    have := ends_ge (n.ok p hp)
    omega
  · rw [List.map_map]; rfl
  · rw [flat_map]⟩
theorem ok_as_pipes (T : Tx w K mg base) : Cl P w K mg base CX0 8 "as_pipes" (spD K fun ds d => ds.length = 1 ∧ P_as_pipes ds d) := cl_fn (fk_as_pipes T) T.g_as_pipes fun _ _ _ _ _ _ us hl => match us, hl with | [_], _ => rfl
end
end K13
namespace K13
open PySem PySem.Spec PyProof.Rows L2
open Evl (Ex fresh_back ex_l ex_t)
/-- one step of reading an expression's worth -/
local macro_rules | `(tactic| walk_at "eg1") => `(tactic| first
  | exact eg_var rfl | exact eg_int | exact eg_str | exact eg_bl | exact eg_non | exact tg_yes | exact og_none
  | apply og_some
  | apply tg_test | apply tg_B | apply tg_not | apply eg_notV | apply eg_neg
  | apply eg_isi
  | apply eg_ixT | apply eg_ixL
  | apply eg_cmp | apply eg_i0 | apply eg_ic
  | apply eg_op (hr := rg_eqI) | apply eg_op (hr := rg_eqS) | apply eg_op (hr := rg_neI) | apply eg_op (hr := rg_neS)
  | apply eg_cb (hr := cg_gcd)
  | exact (rfl : atI _ _ = _) | exact (rfl : kitB _ _ = _)
  | exact ag_nil | apply ag_cons
  | exact (by assumption : EG _ _ _ _ _) | apply eg_tup | apply eg_lst | exact Nat.le_of_ble_eq_true rfl)
local macro_rules | `(tactic| walk_at "eg") => `(tactic| repeat' walk_at "eg1")
structure Can where
  heads : List Nat
  rooms : List Int
  outs : List (List Nat)
def natG (xs : List Nat) : List GV := xs.map fun n => .d (.int (n : Nat))
def intG (xs : List Int) : List GV := xs.map fun i => .d (.int i)
def outsH : List Addr → List (List Nat) → SH
  | a :: as, o :: os => (a, .lst (natG o)) :: outsH as os
  | _, _ => []
def canO (K : PySem.W.Frag) (dx ah ar ao : Addr) : MO := .ins (He.ga K "Canals") dx [("heads", .r ah), ("rooms", .r ar), ("outs", .r ao)]
def canH (K : PySem.W.Frag) (c dx ah ar ao : Addr) (oas : List Addr) (s : Can) : SH := (c, canO K dx ah ar ao) :: (ah, .lst (natG s.heads)) :: (ar, .lst (intG s.rooms)) :: (ao, .lst (oas.map .r)) :: outsH oas s.outs
def outPut (os : List (List Nat)) (i n : Nat) : List (List Nat) := os.set i (os.getD i [] ++ [n])
def Can.laid (s : Can) (st en : Nat) (th ba : Int) : Can := ⟨s.heads ++ [en, st], s.rooms ++ [th, ba], outPut (outPut s.outs st s.heads.length) en (s.heads.length + 1)⟩
structure CanOk (s : Can) : Prop where
  even : s.rooms.length = s.heads.length
  outs : ∀ o ∈ s.outs, o.length ≤ s.heads.length
theorem natG_len {xs : List Nat} : (natG xs).length = xs.length := by simp [natG]
theorem intG_len {xs : List Int} : (intG xs).length = xs.length := by simp [intG]
theorem natG_app {xs ys : List Nat} : natG xs ++ natG ys = natG (xs ++ ys) := by simp [natG]
theorem intG_app {xs ys : List Int} : intG xs ++ intG ys = intG (xs ++ ys) := by simp [intG]
theorem outsH_keys : ∀ {as : List Addr} {os : List (List Nat)}, as.length = os.length → keysH (outsH as os) = as
  | [], [], _ => rfl
  | a :: as, o :: os, h => by
    have := outsH_keys (as := as) (os := os) (by simpa using h)
    simp only [keysH] at this
    simp [outsH, keysH, this]
theorem outsH_mem : ∀ {as : List Addr} {os : List (List Nat)} {i : Nat} {a : Addr} {o : List Nat}, as[i]? = some a → os[i]? = some o → (a, MO.lst (natG o)) ∈ outsH as os
  | [], _, _, _, _, h, _ => by simp at h
  | _ :: _, [], _, _, _, _, h => by simp at h
  | b :: as, p :: os, 0, a, o, h1, h2 => by simp at h1 h2; subst h1; subst h2; simp [outsH]
  | b :: as, p :: os, i + 1, a, o, h1, h2 => List.mem_cons_of_mem _ (outsH_mem (i := i) (by simpa using h1) (by simpa using h2))
theorem outsH_put : ∀ {as : List Addr} {os : List (List Nat)} {i : Nat} {a : Addr} {o : List Nat}, as.Nodup → as[i]? = some a → i < os.length → putL a (.lst (natG o)) (outsH as os) = outsH as (os.set i o)
  | [], _, _, _, _, _, h, _ => by simp at h
  | _ :: _, [], _, _, _, _, _, h => by simp at h
  | b :: as, p :: os, 0, a, o, nd, h1, h2 => by simp at h1; subst h1; simp [outsH, putL]
  | b :: as, p :: os, i + 1, a, o, nd, h1, h2 => by
    have h1' : as[i]? = some a := by simpa using h1
    have ne : b ≠ a := fun e => (List.nodup_cons.mp nd).1 (e ▸ List.mem_of_getElem? h1')
    have := outsH_put (os := os) (o := o) (List.nodup_cons.mp nd).2 h1' (by simpa using h2)
    simp [outsH, putL, ne, this]
section
variable {P : Program} {w : World} {K : PySem.W.Frag} {mg : Str → Option Value} {base : Heap} {L : SH} {G : Gm} {te : TE} {ts : TS} {R : GV → SH → Prop}
theorem bm_nd (h : (keysH L).Nodup → BM K L G ts R) : BM K L G ts R := fun σ N H D n ex q1 q2 => h n.ms.nd σ N H D n ex q1 q2
theorem sm_nd {Rs : Gm → SH → Prop} (h : (keysH L).Nodup → SM K L G ts Rs) : SM K L G ts Rs := fun σ N H D n ex q => h n.ms.nd σ N H D n ex q
theorem em_nd (h : (keysH L).Nodup → EM K L G te R) : EM K L G te R := fun σ N H n ex Q q => h n.ms.nd σ N H n ex Q q
theorem bm_sub (h : BM K L G ts (fun g L' => ∃ L1, L1.Sublist L' ∧ R g L1)) : BM K L G ts R := fun σ N H D n ex q1 q2 => h σ N H D n ex (fun v g L1 N1 H1 t1 m1 k1 ⟨L2, s, r⟩ => q1 v g L2 N1 H1 (t1.sub s) (m1.sub s) k1 r) fun σ' L1 N1 H1 t1 m1 ⟨L2, s, r⟩ => q2 σ' L2 N1 H1 (t1.sub s) (m1.sub s) r
theorem bm_perm (h : BM K L G ts (fun g L' => ∃ L1, L'.Perm L1 ∧ R g L1)) : BM K L G ts R := fun σ N H D n ex q1 q2 => h σ N H D n ex (fun v g L1 N1 H1 t1 m1 k1 ⟨L2, s, r⟩ => q1 v g L2 N1 H1 (t1.perm s) (m1.perm s) k1 r) fun σ' L1 N1 H1 t1 m1 ⟨L2, s, r⟩ => q2 σ' L2 N1 H1 (t1.perm s) (m1.perm s) r
section
variable {c dx ah ar ao : Addr} {oas : List Addr} {s : Can}
theorem ev_heads (T : Tx w K mg base) (h : EV K L G te (.r c)) (hm : (c, canO K dx ah ar ao) ∈ L) : EV K L G (tFld K te "heads") (.r ah) := ev_fld h hm T.cls_Canals T.no_Canals_heads (by rfl)
theorem ev_rooms (T : Tx w K mg base) (h : EV K L G te (.r c)) (hm : (c, canO K dx ah ar ao) ∈ L) : EV K L G (tFld K te "rooms") (.r ar) := ev_fld h hm T.cls_Canals T.no_Canals_rooms (by rfl)
theorem ev_outs (T : Tx w K mg base) (h : EV K L G te (.r c)) (hm : (c, canO K dx ah ar ao) ∈ L) : EV K L G (tFld K te "outs") (.r ao) := ev_fld h hm T.cls_Canals T.no_Canals_outs (by rfl)
theorem can_nd (h : (keysH (canH K c dx ah ar ao oas s)).Nodup) (l : oas.length = s.outs.length) : c ≠ ah ∧ c ≠ ar ∧ c ≠ ao ∧ ah ≠ ar ∧ ah ≠ ao ∧ ar ≠ ao ∧ c ∉ oas ∧ ah ∉ oas ∧ ar ∉ oas ∧ ao ∉ oas ∧ oas.Nodup := by
  have e : keysH (canH K c dx ah ar ao oas s) = c :: ah :: ar :: ao :: oas := by
    have := outsH_keys l
    simp only [keysH] at this
    simp [canH, keysH, this]
  rw [e] at h
  simp only [List.nodup_cons, List.mem_cons, not_or] at h
  obtain ⟨⟨h1, h2, h3, h4⟩, ⟨h5, h6, h7⟩, ⟨h8, h9⟩, h10, h11⟩ := h
  exact ⟨h1, h2, h3, h5, h6, h8, h4, h7, h9, h10, h11⟩
theorem put_heads {xs : List Nat} (n : c ≠ ah) : putL ah (.lst (natG xs)) (canH K c dx ah ar ao oas s) = canH K c dx ah ar ao oas { s with heads := xs } := by simp [canH, putL, n]
theorem put_rooms {xs : List Int} (n : c ≠ ar) (n2 : ah ≠ ar) : putL ar (.lst (intG xs)) (canH K c dx ah ar ao oas s) = canH K c dx ah ar ao oas { s with rooms := xs } := by simp [canH, putL, n, n2]
theorem put_out {i : Nat} {a : Addr} {o : List Nat} (n1 : c ∉ oas) (n2 : ah ∉ oas) (n3 : ar ∉ oas) (n4 : ao ∉ oas) (nd : oas.Nodup) (h : oas[i]? = some a) (hi : i < s.outs.length) : putL a (.lst (natG o)) (canH K c dx ah ar ao oas s) = canH K c dx ah ar ao oas { s with outs := s.outs.set i o } := by
  have m := List.mem_of_getElem? h
  have e1 : c ≠ a := fun z => n1 (z ▸ m)
  have e2 : ah ≠ a := fun z => n2 (z ▸ m)
  have e3 : ar ≠ a := fun z => n3 (z ▸ m)
  have e4 : ao ≠ a := fun z => n4 (z ▸ m)
  simp [canH, putL, e1, e2, e3, e4, outsH_put nd h hi]
end
section
variable {c dx ah ar ao : Addr} {oas : List Addr} {s : Can}
theorem mem_c : (c, canO K dx ah ar ao) ∈ canH K c dx ah ar ao oas s := List.mem_cons_self
theorem mem_h : (ah, MO.lst (natG s.heads)) ∈ canH K c dx ah ar ao oas s := List.mem_cons_of_mem _ List.mem_cons_self
theorem mem_r : (ar, MO.lst (intG s.rooms)) ∈ canH K c dx ah ar ao oas s := List.mem_cons_of_mem _ (List.mem_cons_of_mem _ List.mem_cons_self)
theorem mem_o : (ao, MO.lst (oas.map .r)) ∈ canH K c dx ah ar ao oas s := List.mem_cons_of_mem _ (List.mem_cons_of_mem _ (List.mem_cons_of_mem _ List.mem_cons_self))
theorem mem_oi {i : Nat} {a : Addr} {o : List Nat} (h1 : oas[i]? = some a) (h2 : s.outs[i]? = some o) : (a, MO.lst (natG o)) ∈ canH K c dx ah ar ao oas s := List.mem_cons_of_mem _ (List.mem_cons_of_mem _ (List.mem_cons_of_mem _ (List.mem_cons_of_mem _ (outsH_mem h1 h2))))
end
theorem am_one {ta : TE} (h : EM K L G ta R) : AM K L G (tCons ta tNil) (fun gs L' => ∃ g, gs = [g] ∧ R g L') := fun σ N H n ex Q q => h σ N H n ex _ fun v g L1 N1 H1 t1 m1 k1 r => q [v] [g] L1 N1 H1 t1 m1 (.cons k1 .nil) ⟨g, rfl, r⟩
theorem Tr.sup {L1 L2 : SH} {N H N1 H1 : Hp} (t : Tr L1 N H L2 N1 H1) (s : L1.Sublist L) : Tr L N H L2 N1 H1 := by
  have m : ∀ x, x ∈ keysH L1 → x ∈ keysH L := fun x h => (s.map (fun q : Addr × MO => q.1)).subset h
  exact ⟨t.a, t.b, fun x o h => t.c x o fun z => h (m x z), fun x o h => t.d x o fun z => h (m x z), fun x h => (t.e x h).imp (m x) id, t.f, t.n⟩
/-- objects that are no longer needed -/
theorem bm_forget {L1 : SH} (s : L1.Sublist L) (h : BM K L1 G ts R) : BM K L G ts R := fun σ N H D n ex q1 q2 => h σ N H D ⟨n.nm, n.ms.sub s⟩ ex (fun v g L2 N2 H2 t2 => q1 v g L2 N2 H2 (t2.sup s)) fun σ2 L2 N2 H2 t2 => q2 σ2 L2 N2 H2 (t2.sup s)
theorem sm_forget {L1 : SH} {Rs : Gm → SH → Prop} (s : L1.Sublist L) (h : SM K L1 G ts Rs) : SM K L G ts Rs := fun σ N H D n ex q => h σ N H D ⟨n.nm, n.ms.sub s⟩ ex fun σ2 G2 L2 N2 H2 t2 => q σ2 G2 L2 N2 H2 (t2.sup s)
theorem small {n : Nat} (h : n ≤ 1000000) : n < sizeLine := Nat.lt_of_le_of_lt h (by decide)
theorem small2 {n : Nat} (h : n ≤ 1000002) : n ≤ sizeLine := Nat.le_trans h (by decide)
def P_Canals_laid (K : PySem.W.Frag) (gs : List GV) (L : SH) (Z : GV → SH → Prop) : Prop := ∃ c dx ah ar ao oas s, ∃ (st en : Nat) (th ba : Int), oas.length = s.outs.length ∧ CanOk s ∧ s.heads.length ≤ 1000000 ∧ st < s.outs.length ∧ en < s.outs.length ∧ gs = [.r c, .d (.int (st : Nat)), .d (.int (en : Nat)), .d (.int th), .d (.int ba)] ∧ L = canH K c dx ah ar ao oas s ∧
  Z = fun g L' => g = .d (.int (s.heads.length : Nat)) ∧ L' = canH K c dx ah ar ao oas (s.laid st en th ba)
theorem getD_le {os : List (List Nat)} {n i : Nat} (h : ∀ o ∈ os, o.length ≤ n) : (os.getD i []).length ≤ n := by
  rw [List.getD_eq_getElem?_getD]
  cases e : os[i]? with
  | none => simp
  | some o => exact h o (List.mem_of_getElem? e)
theorem outPut_le {os : List (List Nat)} {n i k : Nat} (h : ∀ o ∈ os, o.length ≤ n) : ∀ o ∈ outPut os i k, o.length ≤ n + 1 := fun o ho => by
  have := getD_le (i := i) h
  rcases List.mem_or_eq_of_mem_set ho with z | z
  · have := h o z; omega
  · rw [z, List.length_append, List.length_singleton]; omega
theorem outPut_len {os : List (List Nat)} {i k : Nat} : (outPut os i k).length = os.length := by simp [outPut]
abbrev s_Canals_laid : Stmt := inClass (top 53) 2
abbrev N_Canals_laid : List Str := ["self", "start", "end", "there", "back", "many"]
theorem sc_Canals_laid : FnScope N_Canals_laid ["self", "start", "end", "there", "back"] (defScope s_Canals_laid) := C8.fnScope_by (by decide +kernel)
theorem ok_Canals_laid (T : Tx w K mg base) : Mt P w K mg base CX0 1 (He.ga K "Canals") "laid" (spM K fun gs L Z => gs.length = 5 ∧ P_Canals_laid K gs L Z) := mt_mut T.d_Canals_laid T.cls_Canals T.m_Canals_laid sc_Canals_laid (fun _ _ _ h => h.1) (fun _ _ _ _ _ _ us hl => match us, hl with | [_, _, _, _, _], _ => rfl) fun cdv A outer s H E gs L Z hr h => ⟨_,
  (pss_cons (ps_set (i := 5) sc_Canals_laid.nd rfl (Or.inl rfl) (pe_callB (call_lenK K rfl) (by rfl) T.n_len bt_len (pa_cons (pe_fldK K rfl (pv 0) (by rfl)) pa_nil)))
  (pss_cons (ps_expr (pe_bm PySem.F.plainAttrs_list PySem.F.slot_list_append PySem.F.type_list_append mt_append (pe_ix (ix_listK K rfl) (pe_fldK K rfl (pv 0) (by rfl)) (pv 1) (fun _ _ => rfl)) (pa_cons (pv 5) pa_nil)))
  (pss_cons (ps_expr (pe_bm PySem.F.plainAttrs_list PySem.F.slot_list_append PySem.F.type_list_append mt_append (pe_ix (ix_listK K rfl) (pe_fldK K rfl (pv 0) (by rfl)) (pv 2) (fun _ _ => rfl)) (pa_cons (pe_op op_add (pv 5) pe_int) pa_nil)))
  (pss_cons (ps_expr (pe_bm PySem.F.plainAttrs_list PySem.F.slot_list_extend PySem.F.type_list_extend mt_extend (pe_fldK K rfl (pv 0) (by rfl)) (pa_cons (pe_lst (pa_cons (pv 2) (pa_cons (pv 1) pa_nil))) pa_nil)))
  (pss_cons (ps_expr (pe_bm PySem.F.plainAttrs_list PySem.F.slot_list_extend PySem.F.type_list_extend mt_extend (pe_fldK K rfl (pv 0) (by rfl)) (pa_cons (pe_lst (pa_cons (pv 3) (pa_cons (pv 4) pa_nil))) pa_nil)))
  (pss_one (ps_ret (pv 5)))))))), by
  replace h := h.2
 
  obtain ⟨c, dx, ah, ar, ao, oas, s, st, en, th, ba, hl, ok, hz, hst, hen, rfl, rfl, rfl⟩ := h
  obtain ⟨oa, hoa⟩ : ∃ a, oas[st]? = some a := ⟨_, List.getElem?_eq_getElem (by omega)⟩
  obtain ⟨ob, hob⟩ : ∃ a, oas[en]? = some a := ⟨_, List.getElem?_eq_getElem (by omega)⟩
  refine bm_nd fun nd => ?_
  obtain ⟨n1, n2, n3, n4, n5, n6, n7, n8, n9, n10, n11⟩ := can_nd nd hl
  refine bm_seq (sm_asg (em_eg (eg_lenM (p := ah) (av_cons (ev_heads T (ev_var rfl) mem_c) av_nil) (gs := natG s.heads) mem_h))) ?_
  rintro G1 L1 ⟨g, rfl, rfl, rfl⟩
  rw [natG_len]
  have h1 : s.outs[st]? = some (s.outs.getD st []) := by rw [List.getD_eq_getElem?_getD, List.getElem?_eq_getElem hst]; rfl
  have b1 := getD_le (i := st) ok.outs
  refine bm_seq (sm_drop (em_append (p := oa) (gs' := natG (s.outs.getD st [])) (R := fun _ L' => L' = canH K c dx ah ar ao oas { s with outs := outPut s.outs st s.heads.length }) (ev_ixM (ev_outs T (ev_var rfl) mem_c) (eg_var rfl) (gs := oas.map .r) mem_o (atI_nat (by simp [hoa]))) (mem_oi hoa h1) (am_av (av_cons (ev_d (eg_var rfl)) av_nil)) ?_)) ?_
  · rintro as L1 ⟨rfl, rfl⟩
    refine ⟨_, _, rfl, mem_oi hoa h1, by rw [natG_len]; exact small (by omega), ?_⟩
    rw [show natG (s.outs.getD st []) ++ [.d (.int (s.heads.length : Nat))] = natG (s.outs.getD st [] ++ [s.heads.length]) from by simp [natG], put_out n7 n8 n9 n10 n11 hoa hst]
    rfl
  rintro G1 L1 ⟨rfl, g, rfl⟩
  generalize ho1 : outPut s.outs st s.heads.length = os1
  have l1 : os1.length = s.outs.length := by rw [← ho1, outPut_len]
  have k1 : ∀ o ∈ os1, o.length ≤ s.heads.length + 1 := by rw [← ho1]; exact outPut_le ok.outs
  have h2 : os1[en]? = some (os1.getD en []) := by rw [List.getD_eq_getElem?_getD, List.getElem?_eq_getElem (by omega)]; rfl
  have b2 := getD_le (i := en) k1
  refine bm_seq (sm_drop (em_append (p := ob) (gs' := natG (os1.getD en [])) (R := fun _ L' => L' = canH K c dx ah ar ao oas { s with outs := outPut os1 en (s.heads.length + 1) }) (ev_ixM (ev_outs T (ev_var rfl) mem_c) (eg_var rfl) (gs := oas.map .r) mem_o (atI_nat (by simp [hob]))) (mem_oi (s := { s with outs := os1 }) hob h2) (am_av (av_cons (ev_d (eg_i0 (eg_var rfl) eg_int)) av_nil)) ?_)) ?_
  · rintro as L1 ⟨rfl, rfl⟩
    refine ⟨_, _, rfl, mem_oi (s := { s with outs := os1 }) hob h2, by rw [natG_len]; exact Nat.lt_of_le_of_lt (show _ ≤ 1000001 by omega) (by decide), ?_⟩
    rw [show natG (os1.getD en []) ++ [.d (.int ((s.heads.length : Nat) + 1))] = natG (os1.getD en [] ++ [s.heads.length + 1]) from by simp [natG], put_out (s := { s with outs := os1 }) n7 n8 n9 n10 n11 hob (by show en < os1.length; omega)]
    rfl
  rintro G1 L1 ⟨rfl, g, rfl⟩
  refine bm_seq (sm_drop (em_extend (p := ah) (gs' := natG s.heads) (R := fun _ L' => ∃ b, L' = putL ah (.lst (natG (s.heads ++ [en, st]))) ((b, .lst (natG [en, st])) :: canH K c dx ah ar ao oas { s with outs := outPut os1 en (s.heads.length + 1) })) (ev_heads T (ev_var rfl) mem_c) mem_h (am_one (em_lst (gs := natG [en, st]) (av_cons (ev_d (eg_var rfl)) (av_cons (ev_d (eg_var rfl)) av_nil)) (Nat.le_of_ble_eq_true rfl))) ?_)) ?_
  · rintro as L1 ⟨g, rfl, b, rfl, rfl⟩
    refine ⟨b, natG s.heads, natG [en, st], rfl, List.mem_cons_of_mem _ mem_h, List.mem_cons_self, ?_, b, ?_⟩
    · rw [natG_len, natG_len]; exact small2 (by simp; omega)
    · rw [natG_app]
  rintro G1 L1 ⟨rfl, g, b, rfl⟩
  refine bm_nd fun nd2 => ?_
  rw [putL_keys] at nd2
  have nb : b ≠ ah := fun z => by
    have := (List.nodup_cons.mp (show (b :: keysH _).Nodup from nd2)).1
    exact this (z ▸ mem_keys mem_h)
  rw [show putL ah (.lst (natG (s.heads ++ [en, st]))) ((b, .lst (natG [en, st])) :: canH K c dx ah ar ao oas { s with outs := outPut os1 en (s.heads.length + 1) }) = (b, .lst (natG [en, st])) :: canH K c dx ah ar ao oas { s with heads := s.heads ++ [en, st], outs := outPut os1 en (s.heads.length + 1) } from by
    conv => lhs; unfold putL
    rw [if_neg nb, put_heads n1]]
  refine bm_forget (List.sublist_cons_self _ _) ?_
  refine bm_seq (sm_drop (em_extend (p := ar) (gs' := intG s.rooms) (R := fun _ L' => ∃ b, L' = putL ar (.lst (intG (s.rooms ++ [th, ba]))) ((b, .lst (intG [th, ba])) :: canH K c dx ah ar ao oas { s with heads := s.heads ++ [en, st], outs := outPut os1 en (s.heads.length + 1) })) (ev_rooms T (ev_var rfl) mem_c) mem_r (am_one (em_lst (gs := intG [th, ba]) (av_cons (ev_d (eg_var rfl)) (av_cons (ev_d (eg_var rfl)) av_nil)) (Nat.le_of_ble_eq_true rfl))) ?_)) ?_
  · rintro as L1 ⟨g, rfl, b, rfl, rfl⟩
    refine ⟨b, intG s.rooms, intG [th, ba], rfl, List.mem_cons_of_mem _ mem_r, List.mem_cons_self, ?_, b, ?_⟩
    · have := ok.even
      rw [intG_len, intG_len]; exact small2 (by simp; omega)
    · rw [intG_app]
  rintro G1 L1 ⟨rfl, g, b, rfl⟩
  refine bm_nd fun nd2 => ?_
  rw [putL_keys] at nd2
  have nb : b ≠ ar := fun z => by
    have := (List.nodup_cons.mp (show (b :: keysH _).Nodup from nd2)).1
    exact this (z ▸ mem_keys mem_r)
  rw [show putL ar (.lst (intG (s.rooms ++ [th, ba]))) ((b, .lst (intG [th, ba])) :: canH K c dx ah ar ao oas { s with heads := s.heads ++ [en, st], outs := outPut os1 en (s.heads.length + 1) }) = (b, .lst (intG [th, ba])) :: canH K c dx ah ar ao oas (s.laid st en th ba) from by
    conv => lhs; unfold putL
    rw [if_neg nb, put_rooms n2 n4, Can.laid, ho1]]
  refine bm_forget (List.sublist_cons_self _ _) ?_
  exact bm_ret (em_imp (em_eg (eg_var rfl)) fun g L' h => h)⟩
theorem Tr.supP {L1 L2 : SH} {N H N1 H1 : Hp} (t : Tr L1 N H L2 N1 H1) (p : L.Perm L1) : Tr L N H L2 N1 H1 :=
  ⟨t.a, t.b, fun x o h => t.c x o fun z => h ((keys_perm p).mpr z), fun x o h => t.d x o fun z => h ((keys_perm p).mpr z), fun x h => (t.e x h).imp ((keys_perm p).mpr) id, t.f, t.n⟩
theorem bm_permL {L1 : SH} (p : L.Perm L1) (h : BM K L1 G ts R) : BM K L G ts R := fun σ N H D n ex q1 q2 => h σ N H D ⟨n.nm, n.ms.perm p⟩ ex (fun v g L2 N2 H2 t2 => q1 v g L2 N2 H2 (t2.supP p)) fun σ2 L2 N2 H2 t2 => q2 σ2 L2 N2 H2 (t2.supP p)
theorem sm_permL {L1 : SH} {Rs : Gm → SH → Prop} (p : L.Perm L1) (h : SM K L1 G ts Rs) : SM K L G ts Rs := fun σ N H D n ex q => h σ N H D ⟨n.nm, n.ms.perm p⟩ ex fun σ2 G2 L2 N2 H2 t2 => q σ2 G2 L2 N2 H2 (t2.supP p)
theorem outsH_app : ∀ {as : List Addr} {os : List (List Nat)} {b : Addr} {o : List Nat}, as.length = os.length → outsH (as ++ [b]) (os ++ [o]) = outsH as os ++ [(b, .lst (natG o))]
  | [], [], _, _, _ => rfl
  | a :: as, p :: os, b, o, h => by
    have := outsH_app (as := as) (os := os) (b := b) (o := o) (by simpa using h)
    simp [outsH, this]
theorem putL_app {p : Addr} {o : MO} : ∀ {X Y : SH}, p ∉ keysH X → putL p o (X ++ Y) = X ++ putL p o Y
  | [], _, _ => rfl
  | (q, u) :: X, Y, h => by
    have h1 : q ≠ p := fun z => h (by simp [keysH, z])
    have h2 : p ∉ keysH X := fun z => h (List.mem_cons_of_mem _ z)
    rw [List.cons_append, List.cons_append]
    conv => lhs; unfold putL
    rw [if_neg h1, putL_app h2]
theorem nd_app {X Y : SH} {p : Addr} (h : (keysH (X ++ Y)).Nodup) (hp : p ∈ keysH Y) : p ∉ keysH X := fun z => by
  have e : keysH (X ++ Y) = keysH X ++ keysH Y := by simp [keysH]
  rw [e] at h
  exact (List.nodup_append.mp h).2.2 p z p hp rfl
/-- self.f = e, the objects told anew -/
theorem sm_fldP {to tv : TE} {a C dx : Addr} {f : Str} {Rs : SH → Prop} (hv : EM K L G tv R) (ho : ∀ g L1, R g L1 → EV K L1 G to (.r a)) (hc : Cls K C) (hn : NoAttr K C f) (hf : ∀ g L1, R g L1 → ∃ fs Lr, L1.Perm ((a, .ins C dx fs) :: Lr) ∧ fs.length < 1000 ∧ Rs ((a, .ins C dx (putG f g fs)) :: Lr)) :
    SM K L G (sFld K to tv f) (fun G' L' => G' = G ∧ Rs L') := fun σ N H D n ex q =>
  hv σ N H n ex _ fun v g L1 N1 H1 t1 m1 k1 r => ho g L1 r σ N1 H1 (n.trs t1 m1) t1.b _ fun x N2 H2 w2 k2 => by
    obtain rfl : x = .ref a := k2
    obtain ⟨fs, Lr, hp, hl, hr⟩ := hf g L1 r
    have m2 := (m1.step w2).perm hp
    obtain ⟨_, vs, e1, e2⟩ := m2.at_ _ _ List.mem_cons_self
    exact ⟨a, C, dx, vs, rfl, e1, hc, hn, by rw [kvs_len e2]; exact hl, q σ G _ N2 _ (((t1.trans (.of w2)).perm hp).trans (Tr.head m2 w2.b)) ⟨((n.trs t1 m1).step w2).nm, m2.head (mo_ins upd_same (kvs_put f e2 (wd_mono w2.a _ k1)))⟩ ⟨rfl, hr⟩⟩
def P_Canals_dug (K : PySem.W.Frag) (gs : List GV) (L : SH) (Z : GV → SH → Prop) : Prop := ∃ c dx ah ar ao oas s, oas.length = s.outs.length ∧ s.outs.length ≤ 1000000 ∧ gs = [.r c] ∧ L = canH K c dx ah ar ao oas s ∧
  Z = fun g L' => g = .d (.int (s.outs.length : Nat)) ∧ ∃ b, L' = canH K c dx ah ar ao (oas ++ [b]) { s with outs := s.outs ++ [[]] }
abbrev s_Canals_dug : Stmt := inClass (top 53) 1
abbrev N_Canals_dug : List Str := ["self"]
theorem sc_Canals_dug : FnScope N_Canals_dug ["self"] (defScope s_Canals_dug) := C8.fnScope_by (by decide +kernel)
theorem ok_Canals_dug (T : Tx w K mg base) : Mt P w K mg base CX0 1 (He.ga K "Canals") "dug" (spM K fun gs L Z => gs.length = 1 ∧ P_Canals_dug K gs L Z) := mt_mut T.d_Canals_dug T.cls_Canals T.m_Canals_dug sc_Canals_dug (fun _ _ _ h => h.1) (fun _ _ _ _ _ _ us hl => match us, hl with | [_], _ => rfl) fun cdv A outer s H E gs L Z hr h => ⟨_,
  (pss_cons (ps_expr (pe_bm PySem.F.plainAttrs_list PySem.F.slot_list_append PySem.F.type_list_append mt_append (pe_fldK K rfl (pv 0) (by rfl)) (pa_cons (pe_lst pa_nil) pa_nil)))
  (pss_one (ps_ret (pe_op op_sub (pe_callB (call_lenK K rfl) (by rfl) T.n_len bt_len (pa_cons (pe_fldK K rfl (pv 0) (by rfl)) pa_nil)) pe_int)))), by
  replace h := h.2
 
  obtain ⟨c, dx, ah, ar, ao, oas, s, hl, hz, rfl, rfl, rfl⟩ := h
  refine bm_seq (sm_drop (em_append (p := ao) (gs' := oas.map .r) (R := fun _ L' => ∃ b, L' = putL ao (.lst ((oas ++ [b]).map .r)) ((b, .lst (natG [])) :: canH K c dx ah ar ao oas s)) (ev_outs T (ev_var rfl) mem_c) mem_o (am_one (em_lst (gs := natG []) av_nil (Nat.le_of_ble_eq_true rfl))) ?_)) ?_
  · rintro as L1 ⟨g, rfl, b, rfl, rfl⟩
    exact ⟨_, oas.map .r, rfl, List.mem_cons_of_mem _ mem_o, by rw [List.length_map]; exact small (by omega), b, by simp⟩
  rintro G1 L1 ⟨rfl, g, b, rfl⟩
  refine bm_nd fun nd => ?_
  rw [putL_keys] at nd
  have e1 : (b, MO.lst (natG [])) :: canH K c dx ah ar ao oas s = [(b, .lst (natG [])), (c, canO K dx ah ar ao), (ah, .lst (natG s.heads)), (ar, .lst (intG s.rooms))] ++ ((ao, .lst (oas.map .r)) :: outsH oas s.outs) := rfl
  have e2 : putL ao (.lst ((oas ++ [b]).map .r)) ((b, .lst (natG [])) :: canH K c dx ah ar ao oas s) = [(b, .lst (natG [])), (c, canO K dx ah ar ao), (ah, .lst (natG s.heads)), (ar, .lst (intG s.rooms))] ++ ((ao, .lst ((oas ++ [b]).map .r)) :: outsH oas s.outs) := by
    rw [e1] at nd ⊢
    rw [putL_app (nd_app nd (by simp [keysH]))]
    simp [putL]
  rw [e2]
  have e3 : canH K c dx ah ar ao (oas ++ [b]) { s with outs := s.outs ++ [[]] } = [(c, canO K dx ah ar ao), (ah, .lst (natG s.heads)), (ar, .lst (intG s.rooms))] ++ ((ao, .lst ((oas ++ [b]).map .r)) :: outsH oas s.outs) ++ [(b, .lst (natG []))] := by
    unfold canH
    rw [outsH_app hl]
    rfl
  refine bm_permL (L1 := canH K c dx ah ar ao (oas ++ [b]) { s with outs := s.outs ++ [[]] }) ?_ ?_
  · rw [e3]
    exact (List.perm_append_comm (l₁ := [(b, MO.lst (natG []))]))
  · refine bm_ret (em_imp (em_eg (eg_i0 (eg_lenM (p := ao) (gs := (oas ++ [b]).map .r) (av_cons (ev_outs T (ev_var rfl) mem_c) av_nil) mem_o) eg_int)) fun g L' h => ⟨?_, b, h.2⟩)
    rw [h.1, List.length_map, List.length_append, hl]
    simp⟩
def P_Canals___init__ (K : PySem.W.Frag) (gs : List GV) (L : SH) (Z : GV → SH → Prop) : Prop := ∃ c dx, ∃ n : Nat, n ≤ 1000000 ∧ gs = [.r c, .d (.int (n : Nat))] ∧ L = [(c, .ins (He.ga K "Canals") dx [])] ∧
  Z = fun g L' => g = .d .none ∧ ∃ ah ar ao oas, oas.length = n ∧ L' = canH K c dx ah ar ao oas ⟨[], [], List.replicate n []⟩
theorem outsH_rep : ∀ (as : List Addr) (n : Nat), as.length = n → outsH as (List.replicate n []) = as.map fun a => (a, MO.lst (natG []))
  | [], 0, _ => rfl
  | a :: as, n + 1, h => by
    have := outsH_rep as n (by simpa using h)
    simp [List.replicate_succ, outsH, this]
abbrev s_Canals___init__ : Stmt := inClass (top 53) 0
abbrev N_Canals___init__ : List Str := ["self", "many", "turn"]
theorem sc_Canals___init__ : FnScope N_Canals___init__ ["self", "many"] (defScope s_Canals___init__) := C8.fnScope_by (by decide +kernel)
theorem ok_Canals___init__ (T : Tx w K mg base) : Ini P w K mg base CX0 1 "Canals" (spM K fun gs L Z => gs.length = 2 ∧ P_Canals___init__ K gs L Z) := in_mut T.d_Canals___init__ T.mkr_Canals T.g_Canals sc_Canals___init__ (fun _ _ _ h => h.1) (fun _ _ _ _ _ _ us hl => match us, hl with | [_, _], _ => rfl) fun cdv A outer s H E gs L Z hr h => ⟨_,
  (pss_cons (ps_fld (pv 0) (pe_lst pa_nil) rfl)
  (pss_cons (ps_fld (pv 0) (pe_lst pa_nil) rfl)
  (pss_one (ps_fld (pv 0) (pe_lc (own := [("turn", 2)]) rfl sc_Canals___init__.nd (pi_range1 (by rfl) T.n_range (pa_cons (pv 1) pa_nil)) (blkOk_by (own := [("turn", 2)]) (N := N_Canals___init__) (sc := defScope s_Canals___init__) (by decide +kernel)) (fun _ _ _ _ _ => (pg_name (i := 2) sc_Canals___init__.nd rfl (Or.inl rfl))) (fun _ _ _ _ _ => pts_nil) (fun _ _ _ _ _ => (pe_lst pa_nil))) rfl)))), by
  replace h := h.2
 
  obtain ⟨c, dx, n, hn, rfl, rfl, rfl⟩ := h
  refine bm_seq (sm_fldP (a := c) (dx := dx) (C := He.ga K "Canals") (f := "heads") (Rs := fun L' => ∃ ah, L' = [(c, .ins (He.ga K "Canals") dx [("heads", .r ah)]), (ah, .lst (natG []))]) (em_lst (gs := natG []) av_nil (Nat.le_of_ble_eq_true rfl)) (fun g L1 h => ev_var rfl) T.cls_Canals T.no_Canals_heads ?_) ?_
  · rintro g L1 ⟨p, rfl, rfl⟩
    exact ⟨_, _, List.Perm.swap .., Nat.lt_of_lt_of_le (Nat.zero_lt_succ 0) (by decide), p, rfl⟩
  rintro G1 L1 ⟨rfl, ah, rfl⟩
  refine bm_seq (sm_fldP (a := c) (dx := dx) (C := He.ga K "Canals") (f := "rooms") (Rs := fun L' => ∃ ar, L' = [(c, .ins (He.ga K "Canals") dx [("heads", .r ah), ("rooms", .r ar)]), (ar, .lst (intG [])), (ah, .lst (natG []))]) (em_lst (gs := intG []) av_nil (Nat.le_of_ble_eq_true rfl)) (fun g L1 h => ev_var rfl) T.cls_Canals T.no_Canals_rooms ?_) ?_
  · rintro g L1 ⟨p, rfl, rfl⟩
    exact ⟨_, _, List.Perm.swap .., Nat.lt_of_lt_of_le (Nat.succ_lt_succ (Nat.zero_lt_succ 0)) (by decide), p, rfl⟩
  rintro G1 L1 ⟨rfl, ar, rfl⟩
  generalize hX : [(ar, MO.lst (intG [])), (ah, .lst (natG []))] = X
  refine bm_perm (bm_sm (sm_fldP (a := c) (dx := dx) (C := He.ga K "Canals") (f := "outs") (Rs := fun L' => ∃ (ao : Addr) (as : List Addr), as.length = n ∧ L' = (c, canO K dx ah ar ao) :: ((ao, .lst (as.map .r)) :: as.reverse.map (fun a => (a, MO.lst (natG []))) ++ X)) (R := fun g L' => ∃ (ao : Addr) (as : List Addr), as.length = n ∧ g = .r ao ∧ L' = (ao, .lst (as.map .r)) :: (as.reverse.map (fun a => (a, MO.lst (natG []))) ++ ((c, .ins (He.ga K "Canals") dx [("heads", .r ah), ("rooms", .r ar)]) :: X))) (em_lc (W := fun i gs L1 => ∃ as : List Addr, as.length = i ∧ gs = as.map .r ∧ L1 = as.reverse.map (fun a => (a, MO.lst (natG []))) ++ ((c, .ins (He.ga K "Canals") dx [("heads", .r ah), ("rooms", .r ar)]) :: X)) (ig_range (n := n) (by omega) (ag_cons (eg_var rfl) ag_nil)) (by rw [List.length_range]; omega) (fun j hj => by simpa using hj) ⟨[], rfl, rfl, rfl⟩ ?_ ?_ ?_) (fun g L1 h => ev_var rfl) T.cls_Canals T.no_Canals_outs ?_) ?_)
  · rintro i z gs L1 hz ⟨as, rfl, rfl, rfl⟩
    refine em_imp (em_lst (gs := natG []) av_nil (Nat.le_of_ble_eq_true rfl)) ?_
    rintro g L' ⟨p, rfl, rfl⟩
    exact ⟨as ++ [p], by simp, by simp, by simp⟩
  · rintro i gs L1 ⟨as, rfl, rfl, rfl⟩
    simp
  · rintro gs L1 p ⟨as, h1, rfl, rfl⟩
    exact ⟨p, as, by simpa using h1, rfl, rfl⟩
  · rintro g L1 ⟨ao, as, h1, rfl, rfl⟩
    exact ⟨_, (ao, .lst (as.map .r)) :: as.reverse.map (fun a => (a, MO.lst (natG []))) ++ X, List.perm_middle (l₁ := (ao, MO.lst (as.map .r)) :: as.reverse.map (fun a => (a, MO.lst (natG [])))), Nat.lt_of_lt_of_le (Nat.succ_lt_succ (Nat.succ_lt_succ (Nat.zero_lt_succ 0))) (by decide), ao, as, h1, rfl⟩
  · rintro G1 L1 ⟨rfl, ao, as, h1, rfl⟩
    refine ⟨_, ?_, rfl, ah, ar, ao, as, h1, rfl⟩
    unfold canH
    rw [outsH_rep as n h1, ← hX]
    refine .cons _ ?_
    have p1 : (as.reverse.map (fun a => (a, MO.lst (natG []))) ++ [(ar, MO.lst (intG [])), (ah, .lst (natG []))]).Perm ((ar, .lst (intG [])) :: (ah, .lst (natG [])) :: as.map (fun a => (a, MO.lst (natG [])))) :=
      (List.perm_append_comm).trans (.cons _ (.cons _ ((List.reverse_perm as).map _)))
    exact (List.Perm.cons _ p1).trans ((List.Perm.swap ..).trans ((List.Perm.cons _ (.swap ..)).trans (.swap ..)))⟩
end
end K13
namespace K13
open PySem PySem.Spec PyProof.Rows L2
open Evl (Ex fresh_back ex_l ex_t)
/-- one step of reading an expression's worth -/
local macro_rules | `(tactic| walk_at "eg1") => `(tactic| first
  | exact eg_var rfl | exact eg_int | exact eg_str | exact eg_bl | exact eg_non | exact tg_yes | exact og_none
  | apply og_some
  | apply tg_test | apply tg_B | apply tg_not | apply eg_notV | apply eg_neg
  | apply eg_isi
  | apply eg_ixT | apply eg_ixL
  | apply eg_cmp | apply eg_i0 | apply eg_ic
  | apply eg_op (hr := rg_eqI) | apply eg_op (hr := rg_eqS) | apply eg_op (hr := rg_neI) | apply eg_op (hr := rg_neS)
  | apply eg_cb (hr := cg_gcd)
  | exact (rfl : atI _ _ = _) | exact (rfl : kitB _ _ = _)
  | exact ag_nil | apply ag_cons
  | exact (by assumption : EG _ _ _ _ _) | apply eg_tup | apply eg_lst | exact Nat.le_of_ble_eq_true rfl)
local macro_rules | `(tactic| walk_at "eg") => `(tactic| repeat' walk_at "eg1")
def natL (xs : List Nat) : PyData := .list (xs.map fun n => .int (n : Nat))
def bvD : Bv → PyData
  | .no => .none
  | .st => .int (-1)
  | .arc a => .int (a : Nat)
def bvG (bs : List Bv) : List GV := bs.map fun b => .d (bvD b)
def canFO (K : PySem.W.Frag) (dx ar : Addr) (heads : List Nat) (outs : List (List Nat)) : MO := .ins (He.ga K "Canals") dx [("heads", .d (natL heads)), ("rooms", .r ar), ("outs", .d (.list (outs.map natL)))]
def canF (K : PySem.W.Frag) (c dx ar : Addr) (heads : List Nat) (rooms : List Int) (outs : List (List Nat)) : SH := [(c, canFO K dx ar heads outs), (ar, .lst (intG rooms))]
structure Sizes (heads : List Nat) (rooms : List Int) (outs : List (List Nat)) : Prop where
  wir : Wir heads outs
  rl : rooms.length = heads.length
  hz : heads.length ≤ 1000000
  oz : outs.length ≤ 1000000
  iz : ∀ o ∈ outs, o.length ≤ 1000000
section
variable {P : Program} {w : World} {K : PySem.W.Frag} {mg : Str → Option Value} {base : Heap} {L : SH} {G : Gm} {te : TE} {ts : TS} {R : GV → SH → Prop}
section
variable {to ti : TE} {tr : TA} {d : PyData} {gs : List GV}
/-- o[i] = e, the objects told anew -/
theorem sm_setP {p : Addr} {i : Int} {j : Nat} {Lr : SH} (he : EG K L G te d) (ho : EV K L G to (.r p)) (hi : EG K L G ti (.int i)) (hp : L.Perm ((p, .lst gs) :: Lr)) (hj : ixN gs.length i = some j) : SM K L G (tAsg te (gSub to ti rSetL)) (fun G' L' => G' = G ∧ L' = (p, .lst (gs.set j (.d d))) :: Lr) := fun σ N H D n ex q =>
  he σ N H n ex _ fun v N1 H1 w1 k1 => ho σ N1 H1 (n.step w1) w1.b _ fun x N2 H2 w2 k2 => hi σ N2 H2 (n.step (w1.trans w2)) w2.b _ fun y N3 H3 w3 k3 => by
    obtain rfl : x = .ref p := k2
    have w := (w1.trans w2).trans w3
    have m3 := (n.ms.step w).perm hp
    obtain ⟨_, vs, e1, e2⟩ := m3.at_ _ _ List.mem_cons_self
    refine ⟨p, vs, i, j, rfl, dp_int k3, e1, by rw [wds_len e2]; exact hj, q σ G _ N3 _ (((Tr.of w).perm hp).trans (Tr.head m3 w3.b)) ⟨(n.step w).nm, m3.head (mo_lst upd_same (wds_set j e2 (show Wd K N3 v (.d d) from dp_mono (w2.trans w3).a _ _ k1)))⟩ ⟨rfl, rfl⟩⟩
theorem em_appendP {p : Addr} {Ra : List GV → SH → Prop} {gs' : List GV} (ho : EV K L G to (.r p)) (hp : (p, .lst gs') ∈ L) (h : AM K L G tr Ra) (hR : ∀ as L1, Ra as L1 → ∃ g gs Lr, as = [g] ∧ L1.Perm ((p, .lst gs) :: Lr) ∧ gs.length < sizeLine ∧ R (.d .none) ((p, .lst (gs ++ [g])) :: Lr)) : EM K L G (tBM K "list" rAppend to tr) R := fun σ N H n ex Q q =>
  ho σ N H n ex _ fun x N1 H1 w1 k1 => by
    obtain rfl : x = .ref p := k1
    obtain ⟨_, vs', e1', _⟩ := (n.ms.step w1).at_ _ _ hp
    refine ⟨.inl ⟨rfl, vs', SqL.of e1'⟩, h σ N1 H1 (n.step w1) w1.b _ fun as gs0 L2 N2 H2 t2 m2 k2 r2 => ?_⟩
    obtain ⟨g, gs, Lr, rfl, hm, hl, r⟩ := hR gs0 L2 r2
    cases k2 with
    | cons a b =>
      cases b
      have m3 := m2.perm hm
      obtain ⟨_, vs, e1, e2⟩ := m3.at_ _ _ List.mem_cons_self
      exact ⟨p, vs, _, rfl, rfl, e1, by rw [wds_len e2]; exact hl, q _ (.d .none) _ N2 _ ((((Tr.of w1).trans t2).perm hm).trans (Tr.head m3 t2.b)) (m3.head (mo_lst upd_same (wds_app e2 (.cons a .nil)))) .non r⟩
theorem ev_fheads {c dx ar : Addr} {heads : List Nat} {outs : List (List Nat)} (T : Tx w K mg base) (h : EV K L G te (.r c)) (hm : (c, canFO K dx ar heads outs) ∈ L) : EG K L G (tFld K te "heads") (natL heads) := eg_ev (ev_fld h hm T.cls_Canals T.no_Canals_heads (by rfl))
theorem ev_frooms {c dx ar : Addr} {heads : List Nat} {outs : List (List Nat)} (T : Tx w K mg base) (h : EV K L G te (.r c)) (hm : (c, canFO K dx ar heads outs) ∈ L) : EV K L G (tFld K te "rooms") (.r ar) := ev_fld h hm T.cls_Canals T.no_Canals_rooms (by rfl)
theorem ev_fouts {c dx ar : Addr} {heads : List Nat} {outs : List (List Nat)} (T : Tx w K mg base) (h : EV K L G te (.r c)) (hm : (c, canFO K dx ar heads outs) ∈ L) : EG K L G (tFld K te "outs") (.list (outs.map natL)) := eg_ev (ev_fld h hm T.cls_Canals T.no_Canals_outs (by rfl))
end
theorem cg_minM {β : Type} {zs : List β} {f : β → Int} {m : Int} (hm : m ∈ zs.map f) (hl : ∀ y ∈ zs.map f, m ≤ y) : CG K (rMin K) [.list (zs.map fun z => .int (f z))] (.int m) := by
  have h := cg_minI (K := K) hm hl
  rw [List.map_map] at h
  exact h
theorem bvG_len {bs : List Bv} : (bvG bs).length = bs.length := by simp [bvG]
theorem bvG_at {bs : List Bv} {i : Nat} {b : Bv} (h : bs[i]? = some b) : (bvG bs)[i]? = some (.d (bvD b)) := by simp [bvG, h]
theorem bvG_set {bs : List Bv} {i : Nat} {b : Bv} : (bvG bs).set i (.d (bvD b)) = bvG (bs.set i b) := by simp [bvG, List.map_set]
theorem natL_at {xs : List Nat} {i n : Nat} (h : xs[i]? = some n) : atI (xs.map fun n => PyData.int (n : Nat)) (i : Int) = some (.int (n : Nat)) := atI_nat (by simp [h])
theorem natG_at {xs : List Nat} {i n : Nat} (h : xs[i]? = some n) : (natG xs)[i]? = some (.d (.int (n : Nat))) := by simp [natG, h]
theorem intG_at {xs : List Int} {i : Nat} {n : Int} (h : xs[i]? = some n) : (intG xs)[i]? = some (.d (.int n)) := by simp [intG, h]
def P_Canals_reached (K : PySem.W.Frag) (gs : List GV) (L : SH) (Z : GV → SH → Prop) : Prop := ∃ c dx ar heads rooms outs starts, Sizes heads rooms outs ∧ starts.Nodup ∧ (∀ s ∈ starts, s < outs.length) ∧ gs = [.r c, .d (natL starts)] ∧ L = canF K c dx ar heads rooms outs ∧
  Z = fun g L' => L' = L ∧ ∃ bs, Reach heads rooms outs starts bs ∧ g = .d (.list (bs.map bvD))
abbrev s_Canals_reached : Stmt := inClass (top 53) 3
abbrev N_Canals_reached : List Str := ["self", "starts", "by", "start", "queue", "turn", "arc", "out", "there"]
theorem sc_Canals_reached : FnScope N_Canals_reached ["self", "starts"] (defScope s_Canals_reached) := C8.fnScope_by (by decide +kernel)
theorem ok_Canals_reached (T : Tx w K mg base) : Mt P w K mg base CX0 1 (He.ga K "Canals") "reached" (spM K fun gs L Z => gs.length = 2 ∧ P_Canals_reached K gs L Z) := mt_mut T.d_Canals_reached T.cls_Canals T.m_Canals_reached sc_Canals_reached (fun _ _ _ h => h.1) (fun _ _ _ _ _ _ us hl => match us, hl with | [_, _], _ => rfl) fun cdv A outer s H E gs L Z hr h => ⟨_,
  (pss_cons (ps_setLc (i := 2) (own := [("out", 7)]) rfl sc_Canals_reached.nd rfl rfl (sw_true rfl rfl rfl (by decide +kernel)) (pi_list (pe_fldK K rfl (pv 0) (by rfl))) (blkOk_by (own := [("out", 7)]) (N := N_Canals_reached) (sc := defScope s_Canals_reached) (by decide +kernel)) (fun _ _ _ _ _ => (pg_name (i := 7) sc_Canals_reached.nd rfl (Or.inl rfl))) (fun _ _ _ _ _ => pts_nil) (fun _ _ _ _ _ => pe_non))
  (pss_cons (ps_for PassesOwn.never rfl (pi_list (pv 1)) (pg_name (i := 3) sc_Canals_reached.nd rfl (Or.inl rfl))
    (pss_one (ps_asg (pe_un un_neg pe_int) (pg_sub (pv 2) (pv 3) set_list))))
  (pss_cons (ps_par (i := 4) (j := 5) (by rfl) sc_Canals_reached.nd rfl rfl (by decide) rfl rfl (pa_cons (pe_callTy call_list_of (by rfl) T.n_list bt_list (pa_cons (pv 1) pa_nil)) (pa_cons pe_int pa_nil)) (by rfl))
  (pss_cons (ps_while PassesOwn.never (pt_cmpR op_lt (pv 5) (pe_callB (call_lenK K rfl) (by rfl) T.n_len bt_len (pa_cons (pv 4) pa_nil)) (nomark _))
    (pss_cons (ps_for PassesOwn.never rfl (pi_list (pe_ix (ix_listK K rfl) (pe_fldK K rfl (pv 0) (by rfl)) (pe_ix (ix_listK K rfl) (pv 4) (pv 5) (fun _ _ => rfl)) (fun _ _ => rfl))) (pg_name (i := 6) sc_Canals_reached.nd rfl (Or.inl rfl))
    (pss_cons (ps_set (i := 8) sc_Canals_reached.nd rfl (Or.inl rfl) (pe_ix (ix_listK K rfl) (pe_fldK K rfl (pv 0) (by rfl)) (pv 6) (fun _ _ => rfl)))
  (pss_one (ps_if (PW.pt (pw_and (pt_cmpR op_isN (pe_ix (ix_listK K rfl) (pv 2) (pv 8) (fun _ _ => rfl)) pe_non (nomark _)) (pw_and1 (pt_cmpR op_gt (pe_ix (ix_listK K rfl) (pe_fldK K rfl (pv 0) (by rfl)) (pv 6) (fun _ _ => rfl)) pe_int (nomark _)))))
    (pss_cons (ps_asg (pv 6) (pg_sub (pv 2) (pv 8) set_list))
  (pss_one (ps_expr (pe_bm PySem.F.plainAttrs_list PySem.F.slot_list_append PySem.F.type_list_append mt_append (pv 4) (pa_cons (pv 8) pa_nil)))))
    pss_nil))))
  (pss_one (ps_set (i := 5) sc_Canals_reached.nd rfl (Or.inl rfl) (pe_op op_add (pv 5) pe_int)))))
  (pss_one (ps_ret (pv 2))))))), by
  replace h := h.2
 
  obtain ⟨c, dx, ar, heads, rooms, outs, starts, sz, snd, slt, rfl, rfl, rfl⟩ := h
  have hoz := sz.oz
  have hsl : starts.length ≤ outs.length := nd_le _ _ snd slt
  generalize hC : canF K c dx ar heads rooms outs = C
  have mc : (c, canFO K dx ar heads outs) ∈ C := by rw [← hC]; exact List.mem_cons_self
  have mr : (ar, MO.lst (intG rooms)) ∈ C := by rw [← hC]; exact List.mem_cons_of_mem _ List.mem_cons_self
  refine bm_seq (sm_asg (em_lc (W := fun i gs L1 => gs = bvG (List.replicate i .no) ∧ L1 = C) (R := fun g L' => ∃ p, g = .r p ∧ L' = (p, .lst (bvG (List.replicate outs.length .no))) :: C) (ig_lst (g := natL) (xs := outs) (ev_fouts T (ev_var rfl) mc)) (by omega) (fun j hj => by simpa using hj) ⟨rfl, rfl⟩ ?_ ?_ ?_)) ?_
  · rintro i z gs L1 hz ⟨rfl, rfl⟩
    refine em_imp (em_eg eg_non) ?_
    rintro g L' ⟨rfl, rfl⟩
    exact ⟨by simp [bvG, List.replicate_succ', bvD], rfl⟩
  · rintro i gs L1 ⟨rfl, rfl⟩
    simp [bvG]
  · rintro gs L1 p ⟨rfl, rfl⟩
    exact ⟨p, rfl, rfl⟩
  rintro G1 L1 ⟨g, rfl, p, rfl, rfl⟩
  refine bm_seq (sm_for (W := fun i G' L' => G' = [some (.r c), some (.d (natL starts)), some (.r p), none, none, none, none, none, none] ∧ L' = (p, .lst (bvG (begun outs.length (starts.take i)))) :: C) (ig_lst (g := fun n : Nat => PyData.int (n : Nat)) (xs := starts) (eg_var rfl)) ⟨rfl, rfl⟩ ?_) ?_
  · rintro i s0 G1 L1 hi ⟨rfl, rfl⟩
    have hs0 := slt s0 (List.mem_of_getElem? hi)
    refine sm_less (sm_imp (sm_setP (p := p) (gs := bvG (begun outs.length (starts.take i))) (Lr := C) (d := .int (-1)) (eg_neg eg_int) (ev_var rfl) (eg_var rfl) (.refl _) (ixN_nat (by rw [bvG_len, begun_len]; exact hs0))) ?_)
    rintro G2 L2 ⟨rfl, rfl⟩
    refine ⟨_, ?_, rfl, ?_⟩
    · exact ⟨.inr rfl, .inr rfl, .inr rfl, .inl rfl, .inl rfl, .inl rfl, .inl rfl, .inl rfl, .inl rfl, trivial⟩
    · rw [show (PyData.int (-1)) = bvD .st from rfl, bvG_set]
      unfold begun
      rw [fold_step hi]
  rintro G1 L1 ⟨rfl, rfl⟩
  rw [List.take_length]
  refine bm_seq (sm_par2 (em_listOf (ds := starts.map fun n => PyData.int (n : Nat)) (.inl (ag_cons (eg_var rfl) ag_nil))) (R2' := fun g g' L' => g' = .d (.int 0) ∧ ∃ pq, g = .r pq ∧ L' = (pq, .lst ((starts.map fun n => PyData.int (n : Nat)).map GV.d)) :: (p, .lst (bvG (begun outs.length starts))) :: C) fun g L1 h => em_imp (em_eg eg_int) fun g' L' h' => ⟨h'.1, by obtain ⟨pq, e1, e2⟩ := h; exact ⟨pq, e1, h'.2.trans e2⟩⟩) ?_
  rintro G1 L1 ⟨g, g', L2, rfl, _, rfl, pq, rfl, rfl⟩
  have eq0 : (starts.map fun n => PyData.int (n : Nat)).map GV.d = natG starts := by simp [natG]
  rw [eq0]
  refine bm_seq (sm_while (m0 := outs.length) (W := fun m G' L' => ∃ bs q t, Bfs heads rooms outs starts bs q t [] ∧ t ≤ q.length ∧ m = outs.length - t ∧ G' = [some (.r c), some (.d (natL starts)), some (.r p), none, some (.r pq), some (.d (.int (t : Nat))), none, none, none] ∧ L' = (pq, .lst (natG q)) :: (p, .lst (bvG bs)) :: C)
    (Rs := fun G' L' => ∃ bs q, Reach heads rooms outs starts bs ∧ G' = [some (.r c), some (.d (natL starts)), some (.r p), none, some (.r pq), some (.d (.int (q.length : Nat))), none, none, none] ∧ L' = (pq, .lst (natG q)) :: (p, .lst (bvG bs)) :: C) ⟨_, starts, 0, Bfs.start slt snd, Nat.zero_le _, rfl, rfl, rfl⟩ ?_) ?_
  · rintro m G1 L1 ⟨bs, q, t, b, htq, rfl, rfl, rfl⟩
    have hql := b.full
    refine tm_imp (tm_tg (tg_test (eg_cmp (eg_var rfl) (eg_lenM (p := pq) (gs := natG q) (av_cons (ev_var rfl) av_nil) List.mem_cons_self)))) ?_
    rintro v L2 ⟨rfl, rfl⟩
    rw [natG_len]
    refine ⟨fun hv => ?_, fun hv => ?_⟩
    · have ht : t < q.length := by have := of_decide_eq_true hv; omega
      obtain ⟨u, hu⟩ : ∃ u, q[t]? = some u := ⟨_, List.getElem?_eq_getElem ht⟩
      have hul : u < outs.length := by rw [← b.len]; exact b.lt u (List.mem_of_getElem? hu)
      obtain ⟨o, ho⟩ : ∃ o, outs[u]? = some o := ⟨_, List.getElem?_eq_getElem hul⟩
      have hoz := sz.iz o (List.mem_of_getElem? ho)
      refine sm_seq (sm_for (W := fun j G' L' => ∃ bs q, Bfs heads rooms outs starts bs q t (o.take j) ∧ q[t]? = some u ∧ G' = [some (.r c), some (.d (natL starts)), some (.r p), none, some (.r pq), some (.d (.int (t : Nat))), none, none, none] ∧ L' = (pq, .lst (natG q)) :: (p, .lst (bvG bs)) :: C) (ig_lst (g := fun n : Nat => PyData.int (n : Nat)) (xs := o) (eg_ixL (d := natL o) (ev_fouts T (ev_var rfl) (List.mem_cons_of_mem _ (List.mem_cons_of_mem _ mc))) (eg_ev (ev_ixM (p := pq) (gs := natG q) (g := .d (.int (u : Nat))) (ev_var rfl) (eg_var rfl) List.mem_cons_self (atI_nat (natG_at hu)))) (atI_nat (by simp [ho])))) ⟨bs, q, b, hu, rfl, rfl⟩ ?_) ?_
      · rintro j a G1 L1 hj ⟨bs, q, b, hu, rfl, rfl⟩
        have ha := List.mem_of_getElem? hj
        obtain ⟨al, hco⟩ := sz.wir.wired u o a ho ha
        obtain ⟨v, hv⟩ : ∃ v, heads[a]? = some v := ⟨_, List.getElem?_eq_getElem al⟩
        obtain ⟨r, hr⟩ : ∃ r, rooms[a]? = some r := ⟨_, List.getElem?_eq_getElem (by rw [sz.rl]; exact al)⟩
        have hvl := sz.wir.hl a v hv
        obtain ⟨bv, hbv⟩ : ∃ x, bs[v]? = some x := ⟨_, List.getElem?_eq_getElem (by rw [b.len]; exact hvl)⟩
        have hstep : o.take (j + 1) = o.take j ++ [a] := by rw [List.take_add_one, hj]; rfl
        refine sm_seq (sm_asg (em_eg (eg_ixL (d := .int (v : Nat)) (ev_fheads T (ev_var rfl) (List.mem_cons_of_mem _ (List.mem_cons_of_mem _ mc))) (eg_var rfl) (natL_at hv)))) ?_
        rintro G2 L2 ⟨g, rfl, rfl, rfl⟩
        refine sm_if (tg_and (tg_test (eg_op (eg_ev (ev_ixM (p := p) (gs := bvG bs) (ev_var rfl) (eg_var rfl) (List.mem_cons_of_mem _ List.mem_cons_self) (atI_nat (bvG_at hbv)))) eg_non rg_isN)) fun _ => tg_test (eg_cmp (eg_ev (ev_ixM (p := ar) (gs := intG rooms) (ev_frooms T (ev_var rfl) (List.mem_cons_of_mem _ (List.mem_cons_of_mem _ mc))) (eg_var rfl) (List.mem_cons_of_mem _ (List.mem_cons_of_mem _ mr)) (atI_nat (intG_at hr)))) eg_int)) (fun hb => ?_) fun hb => ?_
        · rw [Bool.and_eq_true] at hb
          have h0 : 0 < r := of_decide_eq_true hb.2
          have hno : bv = .no := by
            cases bv with
            | no => rfl
            | st => cases hb.1
            | arc x => cases hb.1
          subst hno
          have b2 := b.add sz.wir hu hco hv hr h0 hbv
          refine sm_seq (sm_setP (p := p) (gs := bvG bs) (Lr := (pq, .lst (natG q)) :: C) (d := .int (a : Nat)) (eg_var rfl) (ev_var rfl) (eg_var rfl) (.swap ..) (ixN_nat (by rw [bvG_len, b.len]; exact hvl))) ?_
          rintro G3 L3 ⟨rfl, rfl⟩
          rw [show (PyData.int (a : Nat)) = bvD (.arc a) from rfl, bvG_set]
          refine sm_less (sm_imp (sm_drop (em_appendP (p := pq) (gs' := natG q) (R := fun _ L' => L' = (pq, .lst (natG (q ++ [v]))) :: (p, .lst (bvG (bs.set v (.arc a)))) :: C) (ev_var rfl) (List.mem_cons_of_mem _ List.mem_cons_self) (am_av (av_cons (ev_d (eg_var rfl)) av_nil)) ?_)) ?_)
          · rintro as L4 ⟨rfl, rfl⟩
            refine ⟨_, natG q, (p, .lst (bvG (bs.set v (.arc a)))) :: C, rfl, .swap .., by rw [natG_len]; have := b.full; exact small (by omega), ?_⟩
            rw [show natG q ++ [.d (.int (v : Nat))] = natG (q ++ [v]) from by simp [natG]]
          · rintro G4 L4 ⟨rfl, g, rfl⟩
            refine ⟨_, ?_, _, q ++ [v], hstep ▸ b2, ?_, rfl, rfl⟩
            · exact ⟨.inr rfl, .inr rfl, .inr rfl, .inl rfl, .inr rfl, .inr rfl, .inl rfl, .inl rfl, .inl rfl, trivial⟩
            · rw [List.getElem?_append_left (List.getElem?_eq_some_iff.mp hu).1]
              exact hu
        · refine sm_less (sm_imp sm_next ?_)
          rintro G4 L4 ⟨rfl, rfl⟩
          refine ⟨_, ?_, bs, q, ?_, hu, rfl, rfl⟩
          · exact ⟨.inr rfl, .inr rfl, .inr rfl, .inl rfl, .inr rfl, .inr rfl, .inl rfl, .inl rfl, .inl rfl, trivial⟩
          · rw [hstep]
            refine b.skip fun r' v' h1 h2 h3 => ?_
            rw [hr] at h1
            rw [hv] at h3
            cases h1
            cases h3
            refine ⟨by rw [b.len]; exact hvl, fun z => ?_⟩
            rw [hbv] at z
            cases z
            rw [show isN (bvD .no) = true from rfl, Bool.true_and] at hb
            exact absurd h2 (of_decide_eq_false hb)
      · rintro G1 L1 ⟨bs, q, b, hu, rfl, rfl⟩
        rw [List.take_length] at b
        have b2 := b.next hu ho
        refine sm_imp (sm_asg (em_eg (eg_i0 (eg_var rfl) eg_int))) ?_
        rintro G2 L2 ⟨g, rfl, rfl, rfl⟩
        have := b.full
        have tl := (List.getElem?_eq_some_iff.mp hu).1
        exact ⟨outs.length - (t + 1), by omega, bs, q, t + 1, b2, tl, rfl, rfl, rfl⟩
    · have ht : t = q.length := by have := of_decide_eq_false hv; omega
      subst ht
      exact ⟨bs, q, b.done, rfl, rfl⟩
  · rintro G1 L1 ⟨bs, q, hr, rfl, rfl⟩
    refine bm_forget (List.sublist_cons_self _ _) (bm_ret (em_freeze (em_imp (em_ev (ev_var rfl)) ?_)))
    rintro g L' ⟨rfl, rfl⟩
    exact ⟨p, bs.map bvD, C, rfl, by simp [bvG], rfl, bs, hr, rfl⟩⟩
theorem bm_eqL {L1 : SH} (e : L = L1) (h : BM K L1 G ts R) : BM K L G ts R := e ▸ h
/-- a list that changes no more, held by one name -/
theorem bm_frz {p : Addr} {i : Nat} {ds : List PyData} {Lr : SH} (hi : G[i]? = some (some (.r p))) (hp : L.Perm ((p, .lst (ds.map .d)) :: Lr)) (h : BM K Lr (G.set i (some (.d (.list ds)))) ts R) : BM K L G ts R := bm_permL hp fun σ N H D n ex q1 q2 => by
  obtain ⟨N1, t1, m1, k1⟩ := nw_freeze n.ms ex
  obtain ⟨v, e1, e2⟩ := n.nm.2 i _ hi
  obtain rfl : v = .ref p := e2
  have es : σ.set i (some (.ref p)) = σ := by
    refine List.ext_getElem? fun j => ?_
    by_cases e : i = j
    · subst e
      rw [List.getElem?_set_self (List.getElem?_eq_some_iff.mp e1).1, e1]
    · rw [List.getElem?_set_ne e]
  have n1 : En0 K (G.set i (some (.d (.list ds)))) σ N1 := by
    have := (n.nm.mono t1.a).setW (j := i) (v := .ref p) (d := .d (.list ds)) k1
    rw [es] at this
    exact this
  exact h σ N1 H D ⟨n1, m1⟩ t1.b (fun v g L2 N2 H2 t2 => q1 v g L2 N2 H2 (t1.trans t2)) fun σ2 L2 N2 H2 t2 => q2 σ2 L2 N2 H2 (t1.trans t2)
theorem sm_augSP {to ti te : TE} {gs : List GV} {p : Addr} {i j z : Int} {k : Nat} {f : Int → Int → Int} {Lr : SH} (ho : EV K L G to (.r p)) (hi : EG K L G ti (.int i)) (hp : L.Perm ((p, .lst gs) :: Lr)) (hk : ixN gs.length i = some k) (hg : gs[k]? = some (.d (.int z))) (he : EG K L G te (.int j)) :
    SM K L G (tAugS to ti te (rIxL K) (ipI f) rSetL) (fun G' L' => G' = G ∧ L' = (p, .lst (gs.set k (.d (.int (f z j))))) :: Lr) := fun σ N H D n ex q =>
  ho σ N H n ex _ fun x N1 H1 w1 k1 => hi σ N1 H1 (n.step w1) w1.b _ fun y N2 H2 w2 k2 => by
    obtain rfl : x = .ref p := k1
    have w := w1.trans w2
    obtain ⟨_, vs, e1, e2⟩ := ((n.ms.step w).perm hp).at_ _ _ List.mem_cons_self
    have hat : atI gs i = some (.d (.int z)) := by
      unfold atI
      rw [hk]
      exact hg
    obtain ⟨v, e3, e4⟩ := wds_atI e2 hat
    refine ⟨p, vs, i, v, rfl, dp_int k2, SqL.of e1, e3, he σ N2 H2 (n.step w) w2.b _ fun u N3 H3 w3 k3 => ?_⟩
    have w' := w.trans w3
    have m3 := (n.ms.step w').perm hp
    obtain ⟨_, vs', f1, f2⟩ := m3.at_ _ _ List.mem_cons_self
    exact ⟨z, j, dp_int e4, dp_int k3, p, vs', i, k, rfl, dp_int k2, f1, by rw [wds_len f2]; exact hk, q σ G _ N3 _ (((Tr.of w').perm hp).trans (Tr.head m3 w3.b)) ⟨(n.step w').nm, m3.head (mo_lst upd_same (wds_set k f2 (show Wd K N3 (.int (f z j)) (.d (.int (f z j))) from .int _)))⟩ ⟨rfl, rfl⟩⟩
theorem bvD_nat (a : Nat) : bvD (.arc a) = .int (a : Int) := rfl
def P_Canals_pushed (K : PySem.W.Frag) (gs : List GV) (L : SH) (Z : GV → SH → Prop) : Prop := ∃ c dx ar heads rooms outs starts bs, ∃ e a0 : Nat, Sizes heads rooms outs ∧ Reach heads rooms outs starts bs ∧ bs[e]? = some (.arc a0) ∧ gs = [.r c, .d (.list (bs.map bvD)), .d (.int (e : Nat))] ∧ L = canF K c dx ar heads rooms outs ∧
  Z = fun g L' => ∃ as m, Pushed heads rooms starts e as m ∧ g = .d (.int m) ∧ L' = canF K c dx ar heads (as.foldl (pushStep m) rooms) outs
theorem intG_set {xs : List Int} {i : Nat} {n : Int} : (intG xs).set i (.d (.int n)) = intG (xs.set i n) := by simp [intG, List.map_set]
abbrev s_Canals_pushed : Stmt := inClass (top 53) 4
abbrev N_Canals_pushed : List Str := ["self", "by", "end", "amount", "arc", "arcs", "here"]
theorem sc_Canals_pushed : FnScope N_Canals_pushed ["self", "by", "end"] (defScope s_Canals_pushed) := C8.fnScope_by (by decide +kernel)
theorem ok_Canals_pushed (T : Tx w K mg base) : Mt P w K mg base CX0 1 (He.ga K "Canals") "pushed" (spM K fun gs L Z => gs.length = 3 ∧ P_Canals_pushed K gs L Z) := mt_mut T.d_Canals_pushed T.cls_Canals T.m_Canals_pushed sc_Canals_pushed (fun _ _ _ h => h.1) (fun _ _ _ _ _ _ us hl => match us, hl with | [_, _, _], _ => rfl) fun cdv A outer s H E gs L Z hr h => ⟨_,
  (pss_cons (ps_par (i := 5) (j := 6) (by rfl) sc_Canals_pushed.nd rfl rfl (by decide) rfl rfl (pa_cons (pe_lst pa_nil) (pa_cons (pv 2) pa_nil)) (by rfl))
  (pss_cons (ps_while PassesOwn.never (pt_cmpR op_ne (pe_ix (ix_listK K rfl) (pv 1) (pv 6) (fun _ _ => rfl)) (pe_un un_neg pe_int) (nomark _))
    (pss_cons (ps_expr (pe_bm PySem.F.plainAttrs_list PySem.F.slot_list_append PySem.F.type_list_append mt_append (pv 5) (pa_cons (pe_ix (ix_listK K rfl) (pv 1) (pv 6) (fun _ _ => rfl)) pa_nil)))
  (pss_one (ps_set (i := 6) sc_Canals_pushed.nd rfl (Or.inl rfl) (pe_ix (ix_listK K rfl) (pe_fldK K rfl (pv 0) (by rfl)) (pe_op op_xor (pe_ix (ix_listK K rfl) (pv 1) (pv 6) (fun _ _ => rfl)) pe_int) (fun _ _ => rfl))))))
  (pss_cons (ps_set (i := 3) sc_Canals_pushed.nd rfl (Or.inl rfl) (pe_callB (cr_min rfl) (by rfl) T.n_min bt_min (pa_cons (pe_lc (own := [("arc", 4)]) rfl sc_Canals_pushed.nd (pi_list (pv 5)) (blkOk_by (own := [("arc", 4)]) (N := N_Canals_pushed) (sc := defScope s_Canals_pushed) (by decide +kernel)) (fun _ _ _ _ _ => (pg_name (i := 4) sc_Canals_pushed.nd rfl (Or.inl rfl))) (fun _ _ _ _ _ => pts_nil) (fun _ _ _ _ _ => (pe_ix (ix_listK K rfl) (pe_fldK K rfl (pv 0) (by rfl)) (pv 4) (fun _ _ => rfl)))) pa_nil)))
  (pss_cons (ps_for PassesOwn.never rfl (pi_list (pv 5)) (pg_name (i := 4) sc_Canals_pushed.nd rfl (Or.inl rfl))
    (pss_cons (ps_augS (pe_fldK K rfl (pv 0) (by rfl)) (pv 4) get_list (pv 3) ip_sub set_list)
  (pss_one (ps_augS (pe_fldK K rfl (pv 0) (by rfl)) (pe_op op_xor (pv 4) pe_int) get_list (pv 3) ip_add set_list))))
  (pss_one (ps_ret (pv 3))))))), by
  replace h := h.2
 
  obtain ⟨c, dx, ar, heads, rooms, outs, starts, bs, e, a0, sz, rc, hea, rfl, rfl, rfl⟩ := h
  have hz := sz.hz
  have hr := sz.rl
  obtain ⟨rk, hrk⟩ := rc.rk
  obtain ⟨C, hC⟩ : ∃ C, canF K c dx ar heads rooms outs = C := ⟨_, rfl⟩
  refine bm_eqL hC ?_
  have mc : (c, canFO K dx ar heads outs) ∈ C := by rw [← hC]; exact List.mem_cons_self
  have mr : (ar, MO.lst (intG rooms)) ∈ C := by rw [← hC]; exact List.mem_cons_of_mem _ List.mem_cons_self
  refine bm_seq (sm_par2 (em_lst (gs := natG []) av_nil (Nat.le_of_ble_eq_true rfl)) (R2' := fun g g' L' => g' = .d (.int (e : Nat)) ∧ ∃ pa, g = .r pa ∧ L' = (pa, .lst (natG [])) :: C) fun g L1 h => em_imp (em_eg (eg_var rfl)) fun g' L' h' => ⟨h'.1, by obtain ⟨pa, e1, e2⟩ := h; exact ⟨pa, e1, h'.2.trans e2⟩⟩) ?_
  rintro G1 L1 ⟨g, g', L2, rfl, _, rfl, pa, rfl, rfl⟩
  refine bm_seq (sm_while (m0 := rk e) (W := fun m G' L' => ∃ as v, Chain heads e as v ∧ v < bs.length ∧ bs[v]? ≠ some .no ∧ m = rk v ∧ as.Nodup ∧ (∀ a ∈ as, a < heads.length ∧ co a < heads.length ∧ 0 < roomAt rooms a ∧ ∃ x, heads[a]? = some x ∧ rk v < rk x) ∧ (as = [] → v = e) ∧ G' = [some (.r c), some (.d (.list (bs.map bvD))), some (.d (.int (e : Nat))), none, none, some (.r pa), some (.d (.int (v : Nat)))] ∧ L' = (pa, .lst (natG as)) :: C)
    (Rs := fun G' L' => ∃ as v, Chain heads e as v ∧ v ∈ starts ∧ as ≠ [] ∧ as.Nodup ∧ (∀ a ∈ as, a < heads.length ∧ co a < heads.length ∧ 0 < roomAt rooms a) ∧ G' = [some (.r c), some (.d (.list (bs.map bvD))), some (.d (.int (e : Nat))), none, none, some (.r pa), some (.d (.int (v : Nat)))] ∧ L' = (pa, .lst (natG as)) :: C) ⟨[], e, .nil, (List.getElem?_eq_some_iff.mp hea).1, by rw [hea]; simp, rfl, .nil, by simp, fun _ => rfl, rfl, rfl⟩ ?_) ?_
  · rintro m G1 L1 ⟨as, v, ch, vl, vn, rfl, nd, ok, e0, rfl, rfl⟩
    obtain ⟨b, hb⟩ : ∃ b, bs[v]? = some b := ⟨_, List.getElem?_eq_getElem vl⟩
    have hat : atI (bs.map bvD) (v : Int) = some (bvD b) := atI_nat (by simp [hb])
    cases b with
    | no => exact absurd hb vn
    | st =>
      refine tm_imp (tm_tg (tg_test (eg_op (eg_ixL (d := .int (-1)) (eg_var rfl) (eg_var rfl) hat) (eg_neg eg_int) rg_neI))) ?_
      rintro t L2 ⟨rfl, rfl⟩
      refine ⟨fun h => by simp at h, fun _ => ⟨as, v, ch, (rc.st v).mp hb, fun z => ?_, nd, fun a ha => ⟨(ok a ha).1, (ok a ha).2.1, (ok a ha).2.2.1⟩, rfl, rfl⟩⟩
      rw [e0 z, hea] at hb
      cases hb
    | arc a =>
      obtain ⟨h1, ⟨r, h2, h3⟩, u, h4, h5, h6, h7⟩ := hrk v a hb
      have al := (List.getElem?_eq_some_iff.mp h1).1
      have cl := (List.getElem?_eq_some_iff.mp h4).1
      have hsl : as.length ≤ heads.length := nd_le _ _ nd fun x hx => (ok x hx).1
      refine tm_imp (tm_tg (tg_test (eg_op (eg_ixL (d := .int (a : Nat)) (eg_var rfl) (eg_var rfl) hat) (eg_neg eg_int) rg_neI))) ?_
      rintro t L2 ⟨rfl, rfl⟩
      refine ⟨fun _ => ?_, fun h => ?_⟩
      · refine sm_seq (sm_drop (em_appendP (p := pa) (gs' := natG as) (R := fun _ L' => L' = (pa, .lst (natG (as ++ [a]))) :: C) (ev_var rfl) List.mem_cons_self (am_av (av_cons (ev_d (eg_ixL (d := .int (a : Nat)) (eg_var rfl) (eg_var rfl) hat)) av_nil)) ?_)) ?_
        · rintro xs L4 ⟨rfl, rfl⟩
          refine ⟨_, natG as, C, rfl, .refl _, by rw [natG_len]; exact small (by omega), ?_⟩
          rw [show natG as ++ [.d (.int (a : Nat))] = natG (as ++ [a]) from by simp [natG]]
        · rintro G2 L3 ⟨rfl, g, rfl⟩
          refine sm_imp (sm_asg (em_eg (eg_ixL (d := .int (u : Nat)) (ev_fheads T (ev_var rfl) (List.mem_cons_of_mem _ mc)) (eg_of (eg_i0 (eg_ixL (d := .int (a : Nat)) (eg_var rfl) (eg_var rfl) hat) eg_int) (by rw [bitXor_one])) (natL_at h4)))) ?_
          rintro G3 L4 ⟨g, rfl, rfl, rfl⟩
          refine ⟨rk u, h7, as ++ [a], u, .snoc ch h1 h4, h5, h6, rfl, ?_, ?_, fun z => by simp at z, rfl, rfl⟩
          · refine List.nodup_append.mpr ⟨nd, by simp, fun x hx y hy exy => ?_⟩
            simp at hy
            subst hy
            subst exy
            obtain ⟨_, _, _, z, hz, hlt⟩ := ok x hx
            rw [h1] at hz
            cases hz
            exact Nat.lt_irrefl _ hlt
          · intro x hx
            rcases List.mem_append.mp hx with k | k
            · obtain ⟨k1, k2, k3, z, k4, k5⟩ := ok x k
              exact ⟨k1, k2, k3, z, k4, Nat.lt_trans h7 k5⟩
            · simp at k
              subst k
              exact ⟨al, cl, by rw [roomAt_of h2]; exact h3, v, h1, h7⟩
      · simp at h
  · rintro G1 L1 ⟨as, v, ch, vs, ne, nd, ok, rfl, rfl⟩
    have hsl : as.length ≤ heads.length := nd_le _ _ nd fun x hx => (ok x hx).1
    obtain ⟨m, hm1, hm2⟩ := least (as.map (roomAt rooms)) (by simpa using ne)
    refine bm_frz (p := pa) (i := 5) (ds := as.map fun n => .int (n : Nat)) (Lr := C) rfl (by rw [show natG as = (as.map fun n => PyData.int (n : Nat)).map GV.d from by simp [natG]]) ?_
    refine bm_seq (sm_asg (em_eg (eg_cb (ag_cons (eg_lcA (f := fun a : Nat => .int (roomAt rooms a)) (ig_lst (g := fun n : Nat => PyData.int (n : Nat)) (xs := as) (eg_var rfl)) (by omega) (fun j hj => by simpa using hj) fun a ha => eg_ev (ev_ixM (p := ar) (gs := intG rooms) (ev_frooms T (ev_var rfl) mc) (eg_var rfl) mr (atI_nat (intG_at (roomAt_get (by rw [hr]; exact (ok a ha).1)))))) ag_nil) (cg_minM (f := roomAt rooms) hm1 hm2)))) ?_
    rintro G1 L1 ⟨g, rfl, rfl, rfl⟩
    refine bm_permL (L1 := (ar, .lst (intG rooms)) :: [(c, canFO K dx ar heads outs)]) (by rw [← hC]; exact .swap ..) ?_
    refine bm_seq (sm_for (W := fun i G' L' => G' = [some (.r c), some (.d (.list (bs.map bvD))), some (.d (.int (e : Nat))), some (.d (.int m)), none, some (.d (natL as)), some (.d (.int (v : Nat)))] ∧ L' = (ar, .lst (intG ((as.take i).foldl (pushStep m) rooms))) :: [(c, canFO K dx ar heads outs)]) (ig_lst (g := fun n : Nat => PyData.int (n : Nat)) (xs := as) (eg_var rfl)) ⟨rfl, rfl⟩ ?_) ?_
    · rintro i a G1 L1 hi ⟨rfl, rfl⟩
      obtain ⟨k1, k2, k3⟩ := ok a (List.mem_of_getElem? hi)
      rw [fold_step hi]
      generalize hrs : (as.take i).foldl (pushStep m) rooms = rs
      have lrs : rs.length = heads.length := by rw [← hrs, pushAll_len, hr]
      refine sm_seq (sm_augSP (p := ar) (gs := intG rs) (Lr := [(c, canFO K dx ar heads outs)]) (k := a) (z := roomAt rs a) (ev_frooms T (ev_var rfl) (List.mem_cons_of_mem _ List.mem_cons_self)) (eg_var rfl) (.refl _) (ixN_nat (by rw [intG_len, lrs]; exact k1)) (intG_at (roomAt_get (by rw [lrs]; exact k1))) (eg_var rfl)) ?_
      rintro G2 L2 ⟨rfl, rfl⟩
      rw [intG_set]
      refine sm_less (sm_imp (sm_augSP (p := ar) (gs := intG (rs.set a (roomAt rs a - m))) (Lr := [(c, canFO K dx ar heads outs)]) (k := co a) (z := roomAt (rs.set a (roomAt rs a - m)) (co a)) (ev_frooms T (ev_var rfl) (List.mem_cons_of_mem _ List.mem_cons_self)) (eg_of (eg_i0 (eg_var rfl) eg_int) (by rw [bitXor_one])) (.refl _) (ixN_nat (by rw [intG_len, List.length_set, lrs]; exact k2)) (intG_at (roomAt_get (by rw [List.length_set, lrs]; exact k2))) (eg_var rfl)) ?_)
      rintro G3 L3 ⟨rfl, rfl⟩
      refine ⟨_, ?_, rfl, ?_⟩
      · exact ⟨.inr rfl, .inr rfl, .inr rfl, .inr rfl, .inl rfl, .inr rfl, .inr rfl, trivial⟩
      · rw [intG_set]
        rfl
    · rintro G1 L1 ⟨rfl, rfl⟩
      rw [List.take_length]
      refine bm_perm (bm_ret (em_imp (em_eg (eg_var rfl)) ?_))
      rintro g L' ⟨rfl, rfl⟩
      exact ⟨_, .swap .., as, m, ⟨⟨v, ch, vs⟩, ne, nd, fun a ha => ⟨(ok a ha).1, (ok a ha).2.1⟩, fun a ha => ⟨(ok a ha).2.2, hm2 _ (List.mem_map.mpr ⟨a, ha, rfl⟩)⟩, hm1⟩, rfl, rfl⟩⟩
end
end K13
namespace K13
open PySem PySem.Spec PyProof.Rows L2
open Evl (Ex fresh_back ex_l ex_t)
/-- one step of reading an expression's worth -/
local macro_rules | `(tactic| walk_at "eg1") => `(tactic| first
  | exact eg_var rfl | exact eg_int | exact eg_str | exact eg_bl | exact eg_non | exact tg_yes | exact og_none
  | apply og_some
  | apply tg_test | apply tg_B | apply tg_not | apply eg_notV | apply eg_neg
  | apply eg_isi
  | apply eg_ixT | apply eg_ixL
  | apply eg_cmp | apply eg_i0 | apply eg_ic
  | apply eg_op (hr := rg_eqI) | apply eg_op (hr := rg_eqS) | apply eg_op (hr := rg_neI) | apply eg_op (hr := rg_neS)
  | apply eg_cb (hr := cg_gcd)
  | exact (rfl : atI _ _ = _) | exact (rfl : kitB _ _ = _)
  | exact ag_nil | apply ag_cons
  | exact (by assumption : EG _ _ _ _ _) | apply eg_tup | apply eg_lst | exact Nat.le_of_ble_eq_true rfl)
local macro_rules | `(tactic| walk_at "eg") => `(tactic| repeat' walk_at "eg1")
abbrev fldOf (fs : List (Str × GV)) (f : Str) : Option GV := fs.lookup f
def filO (K : PySem.W.Frag) (dx : Addr) (fs : List (Str × GV)) : MO := .ins (He.ga K "Filling") dx fs
def layTo (sp : Str → Nat) (en : Nat) (much : Int) (s : Can) (x : Str) : Can := s.laid (sp x) en much 0
def layFrom (sp : Str → Nat) (le : Nat) (much : Int) (s : Can) (x : Str) : Can := s.laid le (sp x) much 0
def addPart (sp : Str → Nat) (much : Int) (s : Can) (q : Part × Int) : Can := match q.1 with
  | .arc ld x y _ => s.laid (sp x) (sp y) q.2 (if ld = true then 0 else q.2)
  | .hub ps _ => ps.foldl (layFrom sp (s.outs.length + 1) much) (ps.foldl (layTo sp s.outs.length much) (Can.laid { s with outs := s.outs ++ [[]] ++ [[]] } s.outs.length (s.outs.length + 1) q.2 0))
theorem laid_ok {s : Can} (ok : CanOk s) {st en : Nat} {th ba : Int} : CanOk (s.laid st en th ba) := by
  refine ⟨?_, fun o ho => ?_⟩
  · show (s.rooms ++ [th, ba]).length = (s.heads ++ [en, st]).length
    rw [List.length_append, List.length_append, ok.even]
    rfl
  · have := outPut_le (i := en) (k := s.heads.length + 1) (outPut_le (i := st) (k := s.heads.length) ok.outs) o ho
    show o.length ≤ (s.heads ++ [en, st]).length
    rw [List.length_append]
    simp only [List.length_cons, List.length_nil]
    omega
theorem laid_outs {s : Can} {st en : Nat} {th ba : Int} : (s.laid st en th ba).outs.length = s.outs.length := by
  show (outPut (outPut s.outs st s.heads.length) en (s.heads.length + 1)).length = _
  rw [outPut_len, outPut_len]
theorem laid_heads {s : Can} {st en : Nat} {th ba : Int} : (s.laid st en th ba).heads.length = s.heads.length + 2 := by
  show (s.heads ++ [en, st]).length = _
  simp
theorem to_inv {sp : Str → Nat} {en : Nat} {much : Int} : ∀ {xs : List Str} {s : Can}, CanOk s → CanOk (xs.foldl (layTo sp en much) s) ∧ (xs.foldl (layTo sp en much) s).outs.length = s.outs.length ∧ (xs.foldl (layTo sp en much) s).heads.length = s.heads.length + 2 * xs.length
  | [], s, ok => ⟨ok, rfl, by simp⟩
  | x :: xs, s, ok => by
    obtain ⟨a, b, c⟩ := to_inv (sp := sp) (en := en) (much := much) (xs := xs) (s := layTo sp en much s x) (laid_ok ok)
    rw [List.foldl_cons]
    refine ⟨a, b.trans laid_outs, ?_⟩
    rw [c, show (layTo sp en much s x).heads.length = _ from laid_heads, List.length_cons]
    omega
theorem from_inv {sp : Str → Nat} {le : Nat} {much : Int} : ∀ {xs : List Str} {s : Can}, CanOk s → CanOk (xs.foldl (layFrom sp le much) s) ∧ (xs.foldl (layFrom sp le much) s).outs.length = s.outs.length ∧ (xs.foldl (layFrom sp le much) s).heads.length = s.heads.length + 2 * xs.length
  | [], s, ok => ⟨ok, rfl, by simp⟩
  | x :: xs, s, ok => by
    obtain ⟨a, b, c⟩ := from_inv (sp := sp) (le := le) (much := much) (xs := xs) (s := layFrom sp le much s x) (laid_ok ok)
    rw [List.foldl_cons]
    refine ⟨a, b.trans laid_outs, ?_⟩
    rw [c, show (layFrom sp le much s x).heads.length = _ from laid_heads, List.length_cons]
    omega
theorem dug_ok {s : Can} (ok : CanOk s) : CanOk { s with outs := s.outs ++ [[]] } := ⟨ok.even, fun o ho => by
  rcases List.mem_append.mp ho with z | z
  · exact ok.outs o z
  · simp at z; rw [z]; simp⟩
section
variable {P : Program} {w : World} {K : PySem.W.Frag} {mg : Str → Option Value} {base : Heap} {L : SH} {G : Gm} {te : TE} {ts : TS} {R : GV → SH → Prop}
theorem ev_num {f dx nd : Addr} {fs : List (Str × GV)} (T : Tx w K mg base) (h : EV K L G te (.r f)) (hm : (f, filO K dx fs) ∈ L) (hf : fldOf fs "numbered" = some (.r nd)) : EV K L G (tFld K te "numbered") (.r nd) := ev_fld h hm T.cls_Filling T.no_Filling_numbered hf
theorem ev_can {f dx c : Addr} {fs : List (Str × GV)} (T : Tx w K mg base) (h : EV K L G te (.r f)) (hm : (f, filO K dx fs) ∈ L) (hf : fldOf fs "canals" = some (.r c)) : EV K L G (tFld K te "canals") (.r c) := ev_fld h hm T.cls_Filling T.no_Filling_canals hf
/-- laid, of the canals c at whatever stands before -/
theorem em_laid (T : Tx w K mg base) {c dx ah ar ao : Addr} {oas : List Addr} {s : Can} {Lr : SH} {st en : Nat} {th ba : Int} {E : XK} {tr : TA} (ho : EV K L G te (.r c)) (hL : L.Perm (canH K c dx ah ar ao oas s ++ Lr)) (hl : oas.length = s.outs.length) (ok : CanOk s) (hz : s.heads.length ≤ 1000000) (hst : st < s.outs.length) (hen : en < s.outs.length)
    (ha : AV K L G tr [.d (.int (st : Nat)), .d (.int (en : Nat)), .d (.int th), .d (.int ba)]) :
    EM K L G (tMeth (He.ga K "Canals") "laid" (spM K fun gs L Z => gs.length = 5 ∧ P_Canals_laid K gs L Z) [] E te tr) (fun g L' => g = .d (.int (s.heads.length : Nat)) ∧ L' = canH K c dx ah ar ao oas (s.laid st en th ba) ++ Lr) := by
  have hm : (c, canO K dx ah ar ao) ∈ L := hL.mem_iff.mpr (List.mem_append_left _ mem_c)
  refine em_meth (a := c) (C := He.ga K "Canals") (dx := dx) ho hm (by rfl) (am_av ha) ?_
  rintro gs L1 ⟨rfl, rfl⟩
  exact ⟨canH K c dx ah ar ao oas s, Lr, _, hL, ⟨rfl, c, dx, ah, ar, ao, oas, s, st, en, th, ba, hl, ok, hz, hst, hen, rfl, rfl, rfl⟩, fun g L' h => ⟨h.1, by rw [h.2]⟩⟩
theorem em_dug (T : Tx w K mg base) {c dx ah ar ao : Addr} {oas : List Addr} {s : Can} {Lr : SH} {E : XK} (ho : EV K L G te (.r c)) (hL : L.Perm (canH K c dx ah ar ao oas s ++ Lr)) (hl : oas.length = s.outs.length) (hz : s.outs.length ≤ 1000000) :
    EM K L G (tMeth (He.ga K "Canals") "dug" (spM K fun gs L Z => gs.length = 1 ∧ P_Canals_dug K gs L Z) [] E te tNil) (fun g L' => g = .d (.int (s.outs.length : Nat)) ∧ ∃ b, L' = canH K c dx ah ar ao (oas ++ [b]) { s with outs := s.outs ++ [[]] } ++ Lr) := by
  have hm : (c, canO K dx ah ar ao) ∈ L := hL.mem_iff.mpr (List.mem_append_left _ mem_c)
  refine em_meth (a := c) (C := He.ga K "Canals") (dx := dx) ho hm (by rfl) am_nil ?_
  rintro gs L1 ⟨rfl, rfl⟩
  exact ⟨canH K c dx ah ar ao oas s, Lr, _, hL, ⟨rfl, c, dx, ah, ar, ao, oas, s, hl, hz, rfl, rfl, rfl⟩, fun g L' h => ⟨h.1, by obtain ⟨b, h2⟩ := h.2; exact ⟨b, by rw [h2]⟩⟩⟩
theorem am_imp {tr : TA} {Ra Rb : List GV → SH → Prop} (h : AM K L G tr Ra) (k : ∀ gs L', Ra gs L' → Rb gs L') : AM K L G tr Rb := fun σ N H n ex Q q => h σ N H n ex _ fun v g L1 N1 H1 t1 m1 k1 r => q v g L1 N1 H1 t1 m1 k1 (k _ _ r)
def P_Filling_arcs_of (K : PySem.W.Frag) (gs : List GV) (L : SH) (Z : GV → SH → Prop) : Prop := ∃ f dxf fs nd kvs c dx ah ar ao oas s, ∃ (p : Part) (room much : Int) (sp : Str → Nat), fldOf fs "numbered" = some (.r nd) ∧ fldOf fs "canals" = some (.r c) ∧ oas.length = s.outs.length ∧ CanOk s ∧ s.heads.length + 4002 ≤ 1000000 ∧ s.outs.length + 2 ≤ 1000000 ∧ p.ends.length ≤ 1000 ∧
  (∀ x ∈ p.ends, valG kvs (.inr x) = some (.d (.int (sp x : Nat))) ∧ sp x < s.outs.length) ∧ gs = [.r f, .d (partD p), .d (.int room), .d (.int much)] ∧ L = canH K c dx ah ar ao oas s ++ [(f, filO K dxf fs), (nd, .dK kvs)] ∧
  Z = fun g L' => ∃ ds oas', g = .d (.list ds) ∧ oas'.length = (addPart sp much s (p, room)).outs.length ∧ L' = canH K c dx ah ar ao oas' (addPart sp much s (p, room)) ++ [(f, filO K dxf fs), (nd, .dK kvs)]
theorem mem_app {α : Type} {x : α} {xs ys : List α} (h : x ∈ ys) : x ∈ xs ++ ys := List.mem_append_right _ h
abbrev s_Filling_arcs_of : Stmt := inClass (top 54) 1
abbrev N_Filling_arcs_of : List Str := ["self", "part", "room", "much", "spots", "found", "enter", "leave", "place", "spot"]
theorem sc_Filling_arcs_of : FnScope N_Filling_arcs_of ["self", "part", "room", "much"] (defScope s_Filling_arcs_of) := C8.fnScope_by (by decide +kernel)
theorem ok_Filling_arcs_of (T : Tx w K mg base) : Mt P w K mg base CX0 2 (He.ga K "Filling") "arcs_of" (spM K fun gs L Z => gs.length = 4 ∧ P_Filling_arcs_of K gs L Z) := mt_mut T.d_Filling_arcs_of T.cls_Filling T.m_Filling_arcs_of sc_Filling_arcs_of (fun _ _ _ h => h.1) (fun _ _ _ _ _ _ us hl => match us, hl with | [_, _, _, _], _ => rfl) fun cdv A outer s H E gs L Z hr h => ⟨_,
  (pss_cons (ps_setLc (i := 4) (own := [("place", 8)]) rfl sc_Filling_arcs_of.nd rfl rfl (sw_true rfl rfl rfl (by decide +kernel)) (pi_tup (pcl (ok_ends T) hr (by decide) pass0 (by rfl) (pa_cons (pv 1) pa_nil))) (blkOk_by (own := [("place", 8)]) (N := N_Filling_arcs_of) (sc := defScope s_Filling_arcs_of) (by decide +kernel)) (fun _ _ _ _ _ => (pg_name (i := 8) sc_Filling_arcs_of.nd rfl (Or.inl rfl))) (fun _ _ _ _ _ => pts_nil) (fun _ _ _ _ _ => (pe_dget (hu_of hr) (pe_fldK K rfl (pv 0) (by rfl)) (pv 8) (fun _ _ => rfl))))
  (pss_cons (ps_if (pt_cmpR op_ne (pe_ix (ix_tupK K rfl) (pv 1) pe_int (fun _ _ => rfl)) pe_str (nomark _))
    (pss_one (ps_ret (pe_lst (pa_cons (pmt (ok_Canals_laid T) hr (by decide) pass0 (pe_fldK K rfl (pv 0) (by rfl)) (pa_cons (pe_ix (ix_listK K rfl) (pv 4) pe_int (fun _ _ => rfl)) (pa_cons (pe_ix (ix_listK K rfl) (pv 4) pe_int (fun _ _ => rfl)) (pa_cons (pv 2) (pa_cons (pe_ifExp (pt_cmpR op_eq (pe_ix (ix_tupK K rfl) (pv 1) pe_int (fun _ _ => rfl)) pe_str (nomark _)) (pv 2) pe_int) pa_nil))))) pa_nil))))
    pss_nil)
  (pss_cons (ps_asg (pe_tup (pa_cons (pmt0 (ok_Canals_dug T) hr (by decide) pass0 (pe_fldK K rfl (pv 0) (by rfl))) (pa_cons (pmt0 (ok_Canals_dug T) hr (by decide) pass0 (pe_fldK K rfl (pv 0) (by rfl))) pa_nil))) (pg_tupK (n := 2) K rfl rfl (pgs_cons (pg_name (i := 6) sc_Filling_arcs_of.nd rfl (by first | exact Or.inl rfl | exact Or.inr rfl) (by first | exact .inl rfl | exact .inr rfl)) (pgs_cons (pg_name (i := 7) sc_Filling_arcs_of.nd rfl (by first | exact Or.inl rfl | exact Or.inr rfl) (by first | exact .inl rfl | exact .inr rfl)) pgs_nil)) (by rfl) (by rfl)))
  (pss_cons (ps_expr (pmt (ok_Canals_laid T) hr (by decide) pass0 (pe_fldK K rfl (pv 0) (by rfl)) (pa_cons (pv 6) (pa_cons (pv 7) (pa_cons (pv 2) (pa_cons pe_int pa_nil))))))
  (pss_cons (ps_setLc (i := 5) (own := [("spot", 9)]) rfl sc_Filling_arcs_of.nd rfl rfl (sw_true rfl rfl rfl (by decide +kernel)) (pi_list (pv 4)) (blkOk_by (own := [("spot", 9)]) (N := N_Filling_arcs_of) (sc := defScope s_Filling_arcs_of) (by decide +kernel)) (fun _ _ _ _ _ => (pg_name (i := 9) sc_Filling_arcs_of.nd rfl (Or.inl rfl))) (fun _ _ _ _ _ => pts_nil) (fun _ _ _ _ _ => (pmt (ok_Canals_laid T) hr (by decide) pass0 (pe_fldK K rfl (pv 0) (by rfl)) (pa_cons (pv 9) (pa_cons (pv 6) (pa_cons (pv 3) (pa_cons pe_int pa_nil)))))))
  (pss_one (ps_ret (pe_op (op_catLK K rfl) (pv 5) (pe_lc (own := [("spot", 9)]) rfl sc_Filling_arcs_of.nd (pi_list (pv 4)) (blkOk_by (own := [("spot", 9)]) (N := N_Filling_arcs_of) (sc := defScope s_Filling_arcs_of) (by decide +kernel)) (fun _ _ _ _ _ => (pg_name (i := 9) sc_Filling_arcs_of.nd rfl (Or.inl rfl))) (fun _ _ _ _ _ => pts_nil) (fun _ _ _ _ _ => (pmt (ok_Canals_laid T) hr (by decide) pass0 (pe_fldK K rfl (pv 0) (by rfl)) (pa_cons (pv 7) (pa_cons (pv 9) (pa_cons (pv 3) (pa_cons pe_int pa_nil))))))))))))))), by
  replace h := h.2
 
  obtain ⟨f, dxf, fs, nd, kvs, c, dx, ah, ar, ao, oas, s, p, room, much, sp, hfn, hfc, hl, ok, hz, hoz, hel, hsp, rfl, rfl, rfl⟩ := h
  have mf : ∀ {X : SH}, (f, filO K dxf fs) ∈ X ++ [(f, filO K dxf fs), (nd, MO.dK kvs)] := fun {X} => mem_app (by simp)
  have mn : ∀ {X : SH}, (nd, MO.dK kvs) ∈ X ++ [(f, filO K dxf fs), (nd, MO.dK kvs)] := fun {X} => mem_app (by simp)
  refine bm_seq (sm_asg (em_eg (eg_lcA (f := fun x : Str => .int (sp x : Nat)) (ig_tup (g := PyData.str) (xs := p.ends) (eg_call (ag_cons (eg_var rfl) ag_nil) ⟨rfl, p, rfl, rfl⟩)) (by omega) (fun j hj => by simpa using hj) fun x hx => eg_ev (ev_dget (p := nd) (k := .inr x) (ev_num T (ev_var rfl) mf hfn) (eg_var rfl) mn (hsp x hx).1)))) ?_
  rintro G1 L1 ⟨g, rfl, rfl, rfl⟩
  have ep : EG K (canH K c dx ah ar ao oas s ++ [(f, filO K dxf fs), (nd, MO.dK kvs)]) _ (tVar 1) (partD p) := eg_var (G := List.set ([GV.r f, GV.d (partD p), GV.d (.int room), GV.d (.int much)].map some ++ List.replicate (N_Filling_arcs_of.length - [GV.r f, GV.d (partD p), GV.d (.int room), GV.d (.int much)].length) none) 4 (some (.d (.list (p.ends.map fun x => .int (sp x : Nat)))))) rfl
  cases p with
  | arc ld x y w =>
    refine bm_when (b := true) (tg_of (tg_test (eg_op (eg_p0 ep) eg_str rg_neS)) (by cases ld <;> rfl)) (fun _ => bm_ret ?_) (fun _ L' z => ?_) (fun z => by cases z)
    · refine em_freeze (em_imp (em_lstM (am_one (em_laid T (Lr := [(f, filO K dxf fs), (nd, .dK kvs)]) (st := sp x) (en := sp y) (th := room) (ba := if ld = true then 0 else room) (ev_can T (ev_var rfl) mf hfc) (.refl _) hl ok (by omega) (hsp x (by simp [Part.ends])).2 (hsp y (by simp [Part.ends])).2 (av_cons (ev_d (eg_ixL (d := .int (sp x : Nat)) (eg_var rfl) eg_int (by rfl))) (av_cons (ev_d (eg_ixL (d := .int (sp y : Nat)) (eg_var rfl) eg_int (by rfl))) (av_cons (ev_d (eg_var rfl)) (av_cons (ev_d (eg_if (tg_test (eg_op (eg_p0 ep) eg_str rg_eqS)) (fun hb => ?_) fun hb => ?_)) av_nil)))))) (fun gs L1 h => by obtain ⟨g, rfl, _⟩ := h; exact Nat.le_of_ble_eq_true rfl)) ?_)
      · cases ld with
        | true => cases hb
        | false => exact eg_var rfl
      · cases ld with
        | true => exact eg_int
        | false => cases hb
      · rintro g L' ⟨q, gs, L1, rfl, ⟨g, rfl, rfl, rfl⟩, rfl⟩
        exact ⟨q, [.int (s.heads.length : Nat)], _, rfl, rfl, [.int (s.heads.length : Nat)], oas, rfl, by rw [hl]; exact laid_outs.symm, rfl⟩
    · obtain ⟨ds, oas', h1, _⟩ := z
      cases h1
  | hub ps w =>
    refine bm_when (b := false) (tg_of (tg_test (eg_op (eg_p0 ep) eg_str rg_neS)) rfl) (fun z => by cases z) (fun z => by cases z) fun _ => ?_
    obtain ⟨F, hF⟩ : ∃ F : SH, F = [(f, filO K dxf fs), (nd, MO.dK kvs)] := ⟨_, rfl⟩
    rw [← hF] at mf mn ⊢
    have ok2 := dug_ok (dug_ok ok)
    refine bm_seq (sm_tup2 (Ra := fun gs L' => gs = [.d (.int (s.outs.length : Nat)), .d (.int ((s.outs.length + 1 : Nat) : Nat))] ∧ ∃ oas', oas'.length = s.outs.length + 2 ∧ L' = canH K c dx ah ar ao oas' { s with outs := s.outs ++ [[]] ++ [[]] } ++ F) (am_imp (am_cons (em_dug T (Lr := F) (ev_can T (ev_var rfl) mf hfc) (.refl _) hl (by omega)) (Ra := fun g gs L' => g = .d (.int (s.outs.length : Nat)) ∧ ∃ g2, gs = [g2] ∧ g2 = .d (.int ((s.outs.length + 1 : Nat) : Nat)) ∧ ∃ oas', oas'.length = s.outs.length + 2 ∧ L' = canH K c dx ah ar ao oas' { s with outs := s.outs ++ [[]] ++ [[]] } ++ F) ?_) ?_) ?_) ?_
    · rintro g L1 ⟨rfl, b, rfl⟩
      refine am_imp (am_one (em_dug T (s := { s with outs := s.outs ++ [[]] }) (Lr := F) (ev_can T (ev_var rfl) mf hfc) (.refl _) (by simp [hl]) (by simp; omega))) ?_
      rintro gs L' ⟨g2, rfl, h1, b2, h2⟩
      refine ⟨rfl, g2, rfl, ?_, oas ++ [b] ++ [b2], by simp [hl], h2⟩
      rw [h1]
      simp
    · rintro gs L' ⟨g, r, rfl, rfl, g2, rfl, rfl, h3⟩
      exact ⟨rfl, h3⟩
    · rintro gs L' ⟨rfl, _⟩
      exact ⟨_, _, rfl⟩
    rintro G1 L1 ⟨d1, d2, rfl, hd, oas', hl', rfl⟩
    cases hd
    obtain ⟨s0, hs0⟩ : ∃ s0 : Can, s0 = { s with outs := s.outs ++ [[]] ++ [[]] } := ⟨_, rfl⟩
    rw [← hs0]
    have ok0 : CanOk s0 := hs0 ▸ ok2
    have lo0 : s0.outs.length = s.outs.length + 2 := by rw [hs0]; simp
    have lh0 : s0.heads.length = s.heads.length := by rw [hs0]
    refine bm_seq (sm_drop (em_laid T (s := s0) (Lr := F) (st := s.outs.length) (en := s.outs.length + 1) (th := room) (ba := 0) (ev_can T (ev_var rfl) mf hfc) (.refl _) (by omega) ok0 (by omega) (by omega) (by omega) (av_cons (ev_d (eg_var rfl)) (av_cons (ev_d (eg_var rfl)) (av_cons (ev_d (eg_var rfl)) (av_cons (ev_d eg_int) av_nil)))))) ?_
    rintro G1 L1 ⟨rfl, g, rfl, rfl⟩
    obtain ⟨s1, hs1⟩ : ∃ s1 : Can, s1 = s0.laid s.outs.length (s.outs.length + 1) room 0 := ⟨_, rfl⟩
    rw [← hs1]
    have ok1 : CanOk s1 := hs1 ▸ laid_ok ok0
    have lo1 : s1.outs.length = s.outs.length + 2 := by rw [hs1, laid_outs, lo0]
    have lh1 : s1.heads.length = s.heads.length + 2 := by rw [hs1, laid_heads, lh0]
    have hel' : ps.length ≤ 1000 := hel
    refine bm_seq (sm_asg (em_lcD (W := fun i ds L1 => ds.length = i ∧ L1 = canH K c dx ah ar ao oas' ((ps.take i).foldl (layTo sp s.outs.length much) s1) ++ F) (R := fun g L' => ∃ ds, ds.length = ps.length ∧ g = .d (.list ds) ∧ L' = canH K c dx ah ar ao oas' (ps.foldl (layTo sp s.outs.length much) s1) ++ F) (ig_lst (g := fun x : Str => PyData.int (sp x : Nat)) (xs := ps) (eg_var rfl)) (by omega) (fun j hj => by simpa using hj) ⟨rfl, rfl⟩ ?_ (fun i ds L1 h => h.1) ?_)) ?_
    · rintro i x ds L1 hi ⟨rfl, rfl⟩
      have hx := (hsp x (List.mem_of_getElem? hi)).2
      obtain ⟨a1, a2, a3⟩ := to_inv (sp := sp) (en := s.outs.length) (much := much) (xs := ps.take ds.length) (s := s1) ok1
      have ltk : (ps.take ds.length).length ≤ 1000 := by rw [List.length_take]; omega
      refine em_imp (em_laid T (s := (ps.take ds.length).foldl (layTo sp s.outs.length much) s1) (Lr := F) (st := sp x) (en := s.outs.length) (th := much) (ba := 0) (ev_can T (ev_var rfl) mf hfc) (.refl _) (by omega) a1 (by omega) (by omega) (by omega) (av_cons (ev_d (eg_var rfl)) (av_cons (ev_d (eg_var rfl)) (av_cons (ev_d (eg_var rfl)) (av_cons (ev_d eg_int) av_nil))))) ?_
      rintro g L' ⟨rfl, rfl⟩
      exact ⟨_, rfl, by simp, by rw [fold_step hi]; rfl⟩
    · rintro ds L1 ⟨h1, rfl⟩
      refine ⟨ds, h1, rfl, ?_⟩
      rw [List.take_length]
    rintro G1 L1 ⟨g, rfl, ds1, hds1, rfl, rfl⟩
    obtain ⟨s2, hs2⟩ : ∃ s2 : Can, s2 = ps.foldl (layTo sp s.outs.length much) s1 := ⟨_, rfl⟩
    rw [← hs2]
    obtain ⟨ok2', lo2, lh2⟩ := to_inv (sp := sp) (en := s.outs.length) (much := much) (xs := ps) (s := s1) ok1
    rw [← hs2] at ok2' lo2 lh2
    refine bm_ret (em_op (em_eg (eg_var rfl)) (R2' := fun g g' L' => g = .d (.list ds1) ∧ ∃ ds, ds.length = ps.length ∧ g' = .d (.list ds) ∧ L' = canH K c dx ah ar ao oas' (ps.foldl (layFrom sp (s.outs.length + 1) much) s2) ++ F) ?_ ?_)
    · rintro g L1 ⟨rfl, rfl⟩
      refine em_lcD (W := fun i ds L1 => ds.length = i ∧ L1 = canH K c dx ah ar ao oas' ((ps.take i).foldl (layFrom sp (s.outs.length + 1) much) s2) ++ F) (ig_lst (g := fun x : Str => PyData.int (sp x : Nat)) (xs := ps) (eg_var rfl)) (by omega) (fun j hj => by simpa using hj) ⟨rfl, rfl⟩ ?_ (fun i ds L1 h => h.1) ?_
      · rintro i x ds L1 hi ⟨rfl, rfl⟩
        have hx := (hsp x (List.mem_of_getElem? hi)).2
        obtain ⟨a1, a2, a3⟩ := from_inv (sp := sp) (le := s.outs.length + 1) (much := much) (xs := ps.take ds.length) (s := s2) ok2'
        have ltk : (ps.take ds.length).length ≤ 1000 := by rw [List.length_take]; omega
        refine em_imp (em_laid T (s := (ps.take ds.length).foldl (layFrom sp (s.outs.length + 1) much) s2) (Lr := F) (st := s.outs.length + 1) (en := sp x) (th := much) (ba := 0) (ev_can T (ev_var rfl) mf hfc) (.refl _) (by omega) a1 (by omega) (by omega) (by omega) (av_cons (ev_d (eg_var rfl)) (av_cons (ev_d (eg_var rfl)) (av_cons (ev_d (eg_var rfl)) (av_cons (ev_d eg_int) av_nil))))) ?_
        rintro g L' ⟨rfl, rfl⟩
        exact ⟨_, rfl, by simp, by rw [fold_step hi]; rfl⟩
      · rintro ds L1 ⟨h1, rfl⟩
        refine ⟨rfl, ds, h1, rfl, ?_⟩
        rw [List.take_length]
    · rintro g L1 g' L2 ⟨rfl, rfl⟩ ⟨_, ds, h1, rfl, rfl⟩
      refine ⟨.list ds1, .list ds, .list (ds1 ++ ds), rfl, rfl, rg_catL ?_, ds1 ++ ds, oas', rfl, ?_, ?_⟩
      · exact small2 (by omega)
      · obtain ⟨_, lo3, _⟩ := from_inv (sp := sp) (le := s.outs.length + 1) (much := much) (xs := ps) (s := s2) ok2'
        show oas'.length = (ps.foldl (layFrom sp (s.outs.length + 1) much) (ps.foldl (layTo sp s.outs.length much) _)).outs.length
        rw [← hs0, ← hs1, ← hs2, lo3]
        omega
      · show _ = canH K c dx ah ar ao oas' (ps.foldl (layFrom sp (s.outs.length + 1) much) (ps.foldl (layTo sp s.outs.length much) _)) ++ _
        rw [← hs0, ← hs1, ← hs2]⟩
end
end K13
namespace K13
open PySem
structure CanW (s : Can) : Prop where
  ok : CanOk s
  ev : s.heads.length % 2 = 0
  hl : ∀ (a v : Nat), s.heads[a]? = some v → v < s.outs.length
  wired : ∀ (u : Nat) (o : List Nat) (a : Nat), s.outs[u]? = some o → a ∈ o → a < s.heads.length ∧ s.heads[co a]? = some u
  full : ∀ a, a < s.heads.length → ∃ u o, s.heads[co a]? = some u ∧ s.outs[u]? = some o ∧ a ∈ o
theorem co_even {n : Nat} (h : n % 2 = 0) : co n = n + 1 := by
  unfold co
  rw [if_pos h]
theorem co_odd {n : Nat} (h : n % 2 = 0) : co (n + 1) = n := by
  unfold co
  rw [if_neg (by omega)]
  omega
theorem co_lt {n a : Nat} (h : n % 2 = 0) (ha : a < n) : co a < n := by
  unfold co
  split <;> omega
theorem outPut_at {os : List (List Nat)} {i k j : Nat} (hi : i < os.length) : (outPut os i k)[j]? = if j = i then some (os.getD i [] ++ [k]) else os[j]? := by
  unfold outPut
  by_cases e : j = i
  · subst e
    rw [List.getElem?_set_self hi, if_pos rfl]
  · rw [List.getElem?_set_ne (Ne.symm e), if_neg e]
theorem outPut_get {os : List (List Nat)} {i k j : Nat} {o : List Nat} (hi : i < os.length) (h : (outPut os i k)[j]? = some o) {a : Nat} (ha : a ∈ o) : (∃ o', os[j]? = some o' ∧ a ∈ o') ∨ (j = i ∧ a = k) := by
  rw [outPut_at hi] at h
  by_cases e : j = i
  · subst e
    rw [if_pos rfl] at h
    cases h
    rcases List.mem_append.mp ha with z | z
    · exact .inl ⟨os.getD j [], by rw [List.getD_eq_getElem?_getD, List.getElem?_eq_getElem hi]; rfl, z⟩
    · exact .inr ⟨rfl, by simpa using z⟩
  · rw [if_neg e] at h
    exact .inl ⟨o, h, ha⟩
theorem outPut_keep {os : List (List Nat)} {i k j : Nat} {o : List Nat} (hi : i < os.length) (h : os[j]? = some o) : ∃ o', (outPut os i k)[j]? = some o' ∧ ∀ a ∈ o, a ∈ o' := by
  rw [outPut_at hi]
  by_cases e : j = i
  · subst e
    rw [if_pos rfl]
    refine ⟨_, rfl, fun a ha => List.mem_append_left _ ?_⟩
    rw [List.getD_eq_getElem?_getD, h]
    exact ha
  · rw [if_neg e]
    exact ⟨o, h, fun _ h => h⟩
theorem outPut_new {os : List (List Nat)} {i k : Nat} (hi : i < os.length) : ∃ o', (outPut os i k)[i]? = some o' ∧ k ∈ o' := by
  rw [outPut_at hi, if_pos rfl]
  exact ⟨_, rfl, by simp⟩
theorem laid_w {s : Can} (w : CanW s) {st en : Nat} {th ba : Int} (hst : st < s.outs.length) (hen : en < s.outs.length) : CanW (s.laid st en th ba) := by
  have ev := w.ev
  have e1 := co_even ev
  have e2 := co_odd ev
  have hd_ : (s.laid st en th ba).heads = s.heads ++ [en, st] := rfl
  have ot : (s.laid st en th ba).outs = outPut (outPut s.outs st s.heads.length) en (s.heads.length + 1) := rfl
  have hen' : en < (outPut s.outs st s.heads.length).length := by rw [outPut_len]; exact hen
  have old : ∀ {a v : Nat}, s.heads[a]? = some v → (s.heads ++ [en, st])[a]? = some v := fun {a v} h => by
    rw [List.getElem?_append_left (List.getElem?_eq_some_iff.mp h).1]
    exact h
  have n0 : (s.heads ++ [en, st])[s.heads.length]? = some en := by simp
  have n1 : (s.heads ++ [en, st])[s.heads.length + 1]? = some st := by simp
  refine ⟨laid_ok w.ok, ?_, fun a v h => ?_, fun u o a h ha => ?_, fun a ha => ?_⟩
  · rw [laid_heads]
    omega
  · rw [hd_] at h
    rw [laid_outs]
    have hm := List.mem_of_getElem? h
    rcases List.mem_append.mp hm with z | z
    · obtain ⟨i, hi, e⟩ := List.mem_iff_getElem.mp z
      exact w.hl i v (by rw [List.getElem?_eq_getElem hi, e])
    · simp at z
      rcases z with z | z <;> omega
  · rw [ot] at h
    rw [laid_heads, hd_]
    rcases outPut_get hen' h ha with ⟨o1, h1, ha1⟩ | ⟨rfl, rfl⟩
    · rcases outPut_get hst h1 ha1 with ⟨o2, h2, ha2⟩ | ⟨rfl, rfl⟩
      · obtain ⟨k1, k2⟩ := w.wired u o2 a h2 ha2
        exact ⟨by omega, old k2⟩
      · exact ⟨by omega, by rw [e1]; exact n1⟩
    · exact ⟨by omega, by rw [e2]; exact n0⟩
  · rw [laid_heads] at ha
    rw [hd_, ot]
    by_cases c : a < s.heads.length
    · obtain ⟨u, o, h1, h2, h3⟩ := w.full a c
      obtain ⟨o1, k1, k2⟩ := outPut_keep (k := s.heads.length) hst h2
      obtain ⟨o2, k3, k4⟩ := outPut_keep (k := s.heads.length + 1) hen' k1
      exact ⟨u, o2, old h1, k3, k4 a (k2 a h3)⟩
    · by_cases c2 : a = s.heads.length
      · subst c2
        obtain ⟨o1, k1, k2⟩ := outPut_new (k := s.heads.length) hst
        obtain ⟨o2, k3, k4⟩ := outPut_keep (k := s.heads.length + 1) hen' k1
        exact ⟨st, o2, by rw [e1]; exact n1, k3, k4 _ k2⟩
      · have c3 : a = s.heads.length + 1 := by omega
        subst c3
        obtain ⟨o1, k1, k2⟩ := outPut_new (k := s.heads.length + 1) hen'
        exact ⟨en, o1, by rw [e2]; exact n0, k1, k2⟩
theorem dug_w {s : Can} (w : CanW s) : CanW { s with outs := s.outs ++ [[]] } := by
  refine ⟨dug_ok w.ok, w.ev, fun a v h => ?_, fun u o a h ha => ?_, fun a ha => ?_⟩
  · have := w.hl a v h
    show v < (s.outs ++ [[]]).length
    rw [List.length_append]
    omega
  · have h : (s.outs ++ [[]])[u]? = some o := h
    by_cases c : u < s.outs.length
    · rw [List.getElem?_append_left c] at h
      exact w.wired u o a h ha
    · rw [List.getElem?_append_right (by omega)] at h
      have hm := List.mem_of_getElem? h
      simp at hm
      subst hm
      cases ha
  · obtain ⟨u, o, h1, h2, h3⟩ := w.full a ha
    refine ⟨u, o, h1, ?_, h3⟩
    show (s.outs ++ [[]])[u]? = some o
    rw [List.getElem?_append_left (List.getElem?_eq_some_iff.mp h2).1]
    exact h2
theorem to_w {sp : Str → Nat} {en : Nat} {much : Int} : ∀ {xs : List Str} {s : Can}, CanW s → en < s.outs.length → (∀ x ∈ xs, sp x < s.outs.length) → CanW (xs.foldl (layTo sp en much) s)
  | [], s, w, _, _ => w
  | x :: xs, s, w, he, h => by
    rw [List.foldl_cons]
    exact to_w (laid_w w (h x (by simp)) he) (by rw [show (layTo sp en much s x).outs.length = _ from laid_outs]; exact he) fun y hy => by rw [show (layTo sp en much s x).outs.length = _ from laid_outs]; exact h y (by simp [hy])
theorem from_w {sp : Str → Nat} {le : Nat} {much : Int} : ∀ {xs : List Str} {s : Can}, CanW s → le < s.outs.length → (∀ x ∈ xs, sp x < s.outs.length) → CanW (xs.foldl (layFrom sp le much) s)
  | [], s, w, _, _ => w
  | x :: xs, s, w, he, h => by
    rw [List.foldl_cons]
    exact from_w (laid_w w he (h x (by simp))) (by rw [show (layFrom sp le much s x).outs.length = _ from laid_outs]; exact he) fun y hy => by rw [show (layFrom sp le much s x).outs.length = _ from laid_outs]; exact h y (by simp [hy])
/-- one part more -/
theorem part_w {sp : Str → Nat} {much : Int} {s : Can} (w : CanW s) {p : Part} {r : Int} (h : ∀ x ∈ p.ends, sp x < s.outs.length) : CanW (addPart sp much s (p, r)) ∧ s.outs.length ≤ (addPart sp much s (p, r)).outs.length ∧ (addPart sp much s (p, r)).outs.length ≤ s.outs.length + 2 ∧ (addPart sp much s (p, r)).heads.length ≤ s.heads.length + 2 + 4 * p.ends.length := by
  cases p with
  | arc ld x y q =>
    have e : addPart sp much s (.arc ld x y q, r) = s.laid (sp x) (sp y) r (if ld = true then 0 else r) := rfl
    rw [e]
    refine ⟨laid_w w (h x (by simp [Part.ends])) (h y (by simp [Part.ends])), ?_, ?_, ?_⟩
    · rw [laid_outs]; omega
    · rw [laid_outs]; omega
    · rw [laid_heads]; omega
  | hub ps q =>
    obtain ⟨s0, hs0⟩ : ∃ s0 : Can, s0 = { s with outs := s.outs ++ [[]] ++ [[]] } := ⟨_, rfl⟩
    have w0 : CanW s0 := hs0 ▸ dug_w (dug_w w)
    have l0 : s0.outs.length = s.outs.length + 2 := by rw [hs0]; simp
    have k0 : s0.heads.length = s.heads.length := by rw [hs0]
    obtain ⟨s1, hs1⟩ : ∃ s1 : Can, s1 = s0.laid s.outs.length (s.outs.length + 1) r 0 := ⟨_, rfl⟩
    have w1 : CanW s1 := hs1 ▸ laid_w w0 (by omega) (by omega)
    have l1 : s1.outs.length = s.outs.length + 2 := by rw [hs1, laid_outs, l0]
    have k1 : s1.heads.length = s.heads.length + 2 := by rw [hs1, laid_heads, k0]
    have h' : ∀ x ∈ ps, sp x < s.outs.length := h
    have w2 := to_w (sp := sp) (en := s.outs.length) (much := much) (xs := ps) w1 (by omega) fun x hx => by have := h' x hx; omega
    obtain ⟨_, l2, k2⟩ := to_inv (sp := sp) (en := s.outs.length) (much := much) (xs := ps) w1.ok
    have w3 := from_w (sp := sp) (le := s.outs.length + 1) (much := much) (xs := ps) w2 (by omega) fun x hx => by have := h' x hx; omega
    obtain ⟨_, l3, k3⟩ := from_inv (sp := sp) (le := s.outs.length + 1) (much := much) (xs := ps) w2.ok
    have e : addPart sp much s (.hub ps q, r) = ps.foldl (layFrom sp (s.outs.length + 1) much) (ps.foldl (layTo sp s.outs.length much) s1) := by
      rw [hs1, hs0]
      rfl
    rw [e]
    refine ⟨w3, by omega, by omega, ?_⟩
    show _ ≤ s.heads.length + 2 + 4 * ps.length
    omega
theorem begin_w (n : Nat) : CanW ⟨[], [], List.replicate n []⟩ := by
  refine ⟨⟨rfl, fun o ho => ?_⟩, rfl, fun a v h => by simp at h, fun u o a h ha => ?_, fun a ha => by simp at ha⟩
  · rw [(List.mem_replicate.mp ho).2]
    exact Nat.le_refl _
  · have hm := List.mem_of_getElem? h
    rw [(List.mem_replicate.mp hm).2] at ha
    cases ha
/-- all parts -/
def addAll (sp : Str → Nat) (much : Int) (s : Can) (qs : List (Part × Int)) : Can := qs.foldl (addPart sp much) s
theorem all_w {sp : Str → Nat} {much : Int} {n : Nat} : ∀ {qs : List (Part × Int)} {s : Can}, CanW s → n ≤ s.outs.length → (∀ q ∈ qs, (∀ x ∈ q.1.ends, sp x < n) ∧ q.1.ends.length ≤ 1000) →
    CanW (addAll sp much s qs) ∧ s.outs.length ≤ (addAll sp much s qs).outs.length ∧ (addAll sp much s qs).outs.length ≤ s.outs.length + 2 * qs.length ∧ (addAll sp much s qs).heads.length ≤ s.heads.length + 4002 * qs.length
  | [], s, w, _, _ => ⟨w, Nat.le_refl _, Nat.le_refl _, Nat.le_refl _⟩
  | q :: qs, s, w, hn, h => by
    obtain ⟨h1, h2⟩ := h q (by simp)
    obtain ⟨a, b, c, d⟩ := part_w (sp := sp) (much := much) (r := q.2) w (p := q.1) fun x hx => by have := h1 x hx; omega
    obtain ⟨a', b', c', d'⟩ := all_w (sp := sp) (much := much) (n := n) (qs := qs) a (by omega) fun q' hq' => h q' (by simp [hq'])
    refine ⟨a', Nat.le_trans b b', ?_, ?_⟩
    · rw [List.length_cons]
      show (addAll sp much (addPart sp much s q) qs).outs.length ≤ _
      have : (addAll sp much (addPart sp much s (q.1, q.2)) qs) = addAll sp much (addPart sp much s q) qs := rfl
      rw [this] at c'
      omega
    · rw [List.length_cons]
      show (addAll sp much (addPart sp much s q) qs).heads.length ≤ _
      have : (addAll sp much (addPart sp much s (q.1, q.2)) qs) = addAll sp much (addPart sp much s q) qs := rfl
      rw [this] at d'
      omega
end K13
namespace K13
open PySem PySem.Spec PyProof.Rows L2
open Evl (Ex fresh_back ex_l ex_t)
/-- one step of reading an expression's worth -/
local macro_rules | `(tactic| walk_at "eg1") => `(tactic| first
  | exact eg_var rfl | exact eg_int | exact eg_str | exact eg_bl | exact eg_non | exact tg_yes | exact og_none
  | apply og_some
  | apply tg_test | apply tg_B | apply tg_not | apply eg_notV | apply eg_neg
  | apply eg_isi
  | apply eg_ixT | apply eg_ixL
  | apply eg_cmp | apply eg_i0 | apply eg_ic
  | apply eg_op (hr := rg_eqI) | apply eg_op (hr := rg_eqS) | apply eg_op (hr := rg_neI) | apply eg_op (hr := rg_neS)
  | apply eg_cb (hr := cg_gcd)
  | exact (rfl : atI _ _ = _) | exact (rfl : kitB _ _ = _)
  | exact ag_nil | apply ag_cons
  | exact (by assumption : EG _ _ _ _ _) | apply eg_tup | apply eg_lst | exact Nat.le_of_ble_eq_true rfl)
local macro_rules | `(tactic| walk_at "eg") => `(tactic| repeat' walk_at "eg1")
theorem lay_ints : ∀ xs : List Nat, PyData.canLayAll0 (xs.map fun n => .int (n : Nat)) = true
  | [] => rfl
  | x :: xs => by
    show (true && PyData.canLayAll0 (xs.map fun n => .int (n : Nat))) = true
    rw [lay_ints xs]
    rfl
theorem depth_nats : ∀ xs : List Nat, PyData.depthAll (xs.map fun n => .int (n : Nat)) = 0
  | [] => rfl
  | x :: xs => by
    show max 0 (PyData.depthAll (xs.map fun n => .int (n : Nat))) = 0
    rw [depth_nats xs]
    rfl
theorem shaped_nats (xs : List Nat) : SeqAt.shaped (natL xs) = true := by
  show (PyData.canLayAll0 (xs.map fun n => .int (n : Nat)) && decide (PyData.depthAll (xs.map fun n => .int (n : Nat)) + 1 ≤ 64)) = true
  rw [lay_ints, depth_nats]
  rfl
theorem eqv_nats (xs : List Nat) : PyData.eqv (natL xs) (natL []) = decide (xs = []) := by
  cases xs <;> rfl
section
variable {P : Program} {w : World} {K : PySem.W.Frag} {mg : Str → Option Value} {base : Heap} {L : SH} {G : Gm} {te : TE} {ts : TS} {R : GV → SH → Prop}
/-- self.f op= e, the objects told anew -/
theorem sm_fldaugP {to tv : TE} {a C dx : Addr} {f : Str} {fs : List (Str × GV)} {rd : V → V → Hp → VK → Prop} {d1 : PyData} {z : GV → PyData} {Rs : SH → Prop} (ho : EV K L G to (.r a)) (hm : (a, .ins C dx fs) ∈ L) (hc : Cls K C) (hn : NoAttr K C f) (hl : fs.lookup f = some (.d d1)) (hv : EM K L G tv R)
    (hr : ∀ g L1, R g L1 → ∃ e fs' Lr, g = .d e ∧ RG K rd d1 e (z g) ∧ L1.Perm ((a, .ins C dx fs') :: Lr) ∧ fs'.length < 1000 ∧ Rs ((a, .ins C dx (putG f (.d (z g)) fs')) :: Lr)) :
    SM K L G (sFldAug K to tv rd f) (fun G' L' => G' = G ∧ Rs L') := fun σ N H D n ex q =>
  ho σ N H n ex _ fun x N1 H1 w1 k1 => by
    obtain rfl : x = .ref a := k1
    have m1 := n.ms.step w1
    obtain ⟨_, vs, e1, e2⟩ := m1.at_ _ _ hm
    obtain ⟨v, e3, e4⟩ := kv_look e2 hl
    refine ⟨a, C, dx, vs, v, rfl, e1, hc, hn, e3, hv σ N1 H1 (n.step w1) w1.b _ fun y g L2 N2 H2 t2 m2 k2 r2 => ?_⟩
    obtain ⟨e, fs', Lr, rfl, hrg, hp, hl', hrs⟩ := hr g L2 r2
    refine hrg v y N2 H2 t2.b (dp_mono t2.a _ _ e4) k2 _ fun u N3 H3 w3 k3 => ?_
    have m3 := (m2.step w3).perm hp
    obtain ⟨_, us, f1, f2⟩ := m3.at_ _ _ List.mem_cons_self
    exact ⟨dx, us, f1, by rw [kvs_len f2]; exact hl', q σ G _ N3 _ ((((Tr.of w1).trans (t2.trans (.of w3))).perm hp).trans (Tr.head m3 w3.b)) ⟨(((n.step w1).trs t2 m2).step w3).nm, m3.head (mo_ins upd_same (kvs_put f f2 (show Wd K N3 u (.d (z (.d e))) from k3)))⟩ ⟨rfl, hrs⟩⟩
/-- the fields of a filling whose canals are laid -/
structure FilF (fs : List (Str × GV)) (c : Addr) (starts finish : List Nat) (am : Int) : Prop where
  c_ : fldOf fs "canals" = some (.r c)
  s_ : fldOf fs "starts" = some (.d (natL starts))
  f_ : fldOf fs "finish" = some (.d (natL finish))
  a_ : fldOf fs "amount" = some (.d (.int am))
  len : fs.length < 1000
theorem lookup_putG (f g : Str) (v : GV) : ∀ fs : List (Str × GV), (putG f v fs).lookup g = if g = f then some v else fs.lookup g
  | [] => by
    show List.lookup g [(f, v)] = _
    by_cases h : g = f
    · subst h; simp
    · simp [h, List.lookup_cons, beq_eq_false_iff_ne.mpr h]
  | (x, u) :: r => by
    unfold putG
    by_cases h : x = f
    · subst h
      rw [if_pos rfl, List.lookup_cons, List.lookup_cons]
      by_cases e : g = x
      · subst e; simp
      · simp [beq_eq_false_iff_ne.mpr e, e]
    · rw [if_neg h, List.lookup_cons, List.lookup_cons, lookup_putG f g v r]
      by_cases e : g = x
      · subst e; simp [h]
      · simp [beq_eq_false_iff_ne.mpr e]
theorem putG_len (f : Str) (v : GV) : ∀ fs : List (Str × GV), (putG f v fs).length ≤ fs.length + 1
  | [] => Nat.le_refl _
  | (x, u) :: r => by
    unfold putG
    have := putG_len f v r
    split
    · simp
    · simp only [List.length_cons]; omega
theorem putG_len' (f : Str) (v : GV) : ∀ (fs : List (Str × GV)) {g : GV}, fs.lookup f = some g → (putG f v fs).length = fs.length
  | [], _, h => by cases h
  | (x, u) :: r, g, h => by
    unfold putG
    by_cases e : x = f
    · rw [if_pos e]; rfl
    · rw [if_neg e]
      rw [List.lookup_cons, beq_eq_false_iff_ne.mpr (Ne.symm e)] at h
      simp [putG_len' f v r h]
theorem FilF.put {fs : List (Str × GV)} {c : Addr} {starts finish : List Nat} {am : Int} (F : FilF fs c starts finish am) (b : Int) : FilF (putG "amount" (.d (.int b)) fs) c starts finish b := by
  refine ⟨?_, ?_, ?_, ?_, ?_⟩
  · show List.lookup ("canals" : Str) (putG "amount" _ fs) = _
    rw [lookup_putG, if_neg (by decide)]; exact F.c_
  · show List.lookup ("starts" : Str) (putG "amount" _ fs) = _
    rw [lookup_putG, if_neg (by decide)]; exact F.s_
  · show List.lookup ("finish" : Str) (putG "amount" _ fs) = _
    rw [lookup_putG, if_neg (by decide)]; exact F.f_
  · show List.lookup ("amount" : Str) (putG "amount" _ fs) = _
    rw [lookup_putG, if_pos rfl]
  · rw [putG_len' "amount" _ fs F.a_]; exact F.len
def P_Filling_fill (K : PySem.W.Frag) (gs : List GV) (L : SH) (Z : GV → SH → Prop) : Prop := ∃ f dxf fs c dx ar heads rooms outs starts finish am, FilF fs c starts finish am ∧ Sizes heads rooms outs ∧ starts.Nodup ∧ (∀ s ∈ starts, s < outs.length) ∧ finish.length ≤ 1000000 ∧ (∀ v ∈ finish, v < outs.length ∧ v ∉ starts) ∧ gs = [.r f] ∧ L = (f, filO K dxf fs) :: canF K c dx ar heads rooms outs ∧
  Z = fun g L' => (g = .d (.bool false) ∧ L' = L ∧ ∃ bs, Reach heads rooms outs starts bs ∧ ∀ v ∈ finish, bs[v]? = some .no) ∨ (g = .d (.bool true) ∧ ∃ e ∈ finish, ∃ as m, Pushed heads rooms starts e as m ∧ L' = (f, filO K dxf (putG "amount" (.d (.int (am + m))) fs)) :: canF K c dx ar heads (as.foldl (pushStep m) rooms) outs)
abbrev s_Filling_fill : Stmt := inClass (top 54) 2
abbrev N_Filling_fill : List Str := ["self", "by", "near", "spot"]
theorem sc_Filling_fill : FnScope N_Filling_fill ["self"] (defScope s_Filling_fill) := C8.fnScope_by (by decide +kernel)
theorem ok_Filling_fill (T : Tx w K mg base) : Mt P w K mg base CX0 2 (He.ga K "Filling") "fill" (spM K fun gs L Z => gs.length = 1 ∧ P_Filling_fill K gs L Z) := mt_mut T.d_Filling_fill T.cls_Filling T.m_Filling_fill sc_Filling_fill (fun _ _ _ h => h.1) (fun _ _ _ _ _ _ us hl => match us, hl with | [_], _ => rfl) fun cdv A outer s H E gs L Z hr h => ⟨_,
  (pss_cons (ps_set (i := 1) sc_Filling_fill.nd rfl (Or.inr rfl) (pmt (ok_Canals_reached T) hr (by decide) pass0 (pe_fldK K rfl (pv 0) (by rfl)) (pa_cons (pe_fldK K rfl (pv 0) (by rfl)) pa_nil)))
  (pss_cons (ps_setLc (i := 2) (own := [("spot", 3)]) rfl sc_Filling_fill.nd rfl rfl (sw_true rfl rfl rfl (by decide +kernel)) (pi_list (pe_fldK K rfl (pv 0) (by rfl))) (blkOk_by (own := [("spot", 3)]) (N := N_Filling_fill) (sc := defScope s_Filling_fill) (by decide +kernel)) (fun _ _ _ _ _ => (pg_name (i := 3) sc_Filling_fill.nd rfl (Or.inl rfl))) (fun _ _ _ _ _ => pts_one (pt_cmpR op_notN (pe_ix (ix_listK K rfl) (pv 1) (pv 3) (fun _ _ => rfl)) pe_non (nomark _))) (fun _ _ _ _ _ => (pv 3)))
  (pss_cons (ps_if (pt_cmpR (op_eqDK K rfl hr.units) (pv 2) (pe_lst pa_nil) (nomark _))
    (pss_one (ps_ret pe_bl))
    pss_nil)
  (pss_cons (ps_fldaug (pv 0) (pmt (ok_Canals_pushed T) hr (by decide) pass0 (pe_fldK K rfl (pv 0) (by rfl)) (pa_cons (pv 1) (pa_cons (pe_ix (ix_listK K rfl) (pv 2) pe_int (fun _ _ => rfl)) pa_nil))) in_add)
  (pss_one (ps_ret pe_bl)))))), by
  replace h := h.2
 
  obtain ⟨f, dxf, fs, c, dx, ar, heads, rooms, outs, starts, finish, am, F, sz, snd, slt, hfz, hfin, rfl, rfl, rfl⟩ := h
  obtain ⟨C, hC⟩ : ∃ C, C = canF K c dx ar heads rooms outs := ⟨_, rfl⟩
  refine bm_eqL (L1 := (f, filO K dxf fs) :: C) (by rw [hC]) ?_
  have mf : (f, filO K dxf fs) ∈ (f, filO K dxf fs) :: C := List.mem_cons_self
  have mc : (c, canFO K dx ar heads outs) ∈ (f, filO K dxf fs) :: C := List.mem_cons_of_mem _ (by rw [hC]; exact List.mem_cons_self)
  have hp : ((f, filO K dxf fs) :: C).Perm (C ++ [(f, filO K dxf fs)]) := List.perm_append_comm (l₁ := [(f, filO K dxf fs)])
  refine bm_seq (sm_asg (em_perm (em_meth (a := c) (C := He.ga K "Canals") (dx := dx) (fs := [("heads", .d (natL heads)), ("rooms", .r ar), ("outs", .d (.list (outs.map natL)))]) (R := fun g L' => ∃ L1, L'.Perm L1 ∧ L1 = (f, filO K dxf fs) :: C ∧ ∃ bs, Reach heads rooms outs starts bs ∧ g = .d (.list (bs.map bvD))) (ev_can T (ev_var rfl) mf F.c_) mc (by rfl) (am_av (av_cons (ev_d (eg_ev (ev_fld (ev_var rfl) mf T.cls_Filling T.no_Filling_starts F.s_))) av_nil)) ?_))) ?_
  · rintro gs L1 ⟨rfl, rfl⟩
    refine ⟨C, [(f, filO K dxf fs)], _, hp, ⟨rfl, c, dx, ar, heads, rooms, outs, starts, sz, snd, slt, rfl, hC, rfl⟩, ?_⟩
    rintro g L' ⟨rfl, bs, h1, h2⟩
    exact ⟨_, hp.symm, rfl, bs, h1, h2⟩
  rintro G1 L1 ⟨g, rfl, rfl, bs, rc, rfl⟩
  have bget : ∀ v ∈ finish, bs[v]? = some (bs.getD v .no) := fun v hv => by
    rw [List.getD_eq_getElem?_getD, List.getElem?_eq_getElem (by rw [rc.len]; exact (hfin v hv).1)]
    rfl
  refine bm_seq (sm_asg (em_eg (eg_lc (p := fun v => !isN (bvD (bs.getD v .no))) (f := fun v : Nat => .int (v : Nat)) (ig_lst (g := fun v : Nat => PyData.int (v : Nat)) (xs := finish) (eg_ev (ev_fld (ev_var rfl) mf T.cls_Filling T.no_Filling_finish F.f_))) hfz (fun j hj => by simpa using hj) (fun v hv => tg_test (eg_op (eg_ixL (d := bvD (bs.getD v .no)) (eg_var rfl) (eg_var rfl) (atI_nat (by rw [List.getElem?_map, bget v hv]; rfl))) eg_non rg_notN)) fun v hv _ => eg_var rfl))) ?_
  rintro G1 L1 ⟨g, rfl, rfl, rfl⟩
  generalize hnear : finish.filter (fun v => !isN (bvD (bs.getD v .no))) = near
  refine bm_when (tg_of (tg_test (eg_eqD (d := natL near) (e := natL []) (eg_var rfl) (eg_lst ag_nil (Nat.le_of_ble_eq_true rfl)) (shaped_nats _) (shaped_nats _))) (eqv_nats near)) (fun hb => bm_ret (em_imp (em_eg eg_bl) ?_)) (fun _ L' z => ?_) fun hb => ?_
  · rintro g L' ⟨rfl, rfl⟩
    refine .inl ⟨rfl, by rw [hC], bs, rc, fun v hv => ?_⟩
    have hnil := of_decide_eq_true hb
    rw [hnil] at hnear
    have := List.filter_eq_nil_iff.mp hnear v hv
    rw [bget v hv]
    cases hbv : bs.getD v .no with
    | no => rfl
    | st => rw [hbv] at this; exact absurd rfl this
    | arc a => rw [hbv] at this; exact absurd rfl this
  · rcases z with z | z
    · cases z.1
    · cases z.1
  · cases hn : near with
    | nil => rw [hn] at hb; simp at hb
    | cons e rest =>
      have hm : e ∈ finish.filter (fun v => !isN (bvD (bs.getD v .no))) := by rw [hnear, hn]; simp
      obtain ⟨he, hpe⟩ := List.mem_filter.mp hm
      obtain ⟨hel, hes⟩ := hfin e he
      obtain ⟨a0, ha0⟩ : ∃ a0, bs[e]? = some (.arc a0) := by
        have hb2 := bget e he
        cases hbv : bs.getD e .no with
        | no => rw [hbv] at hpe; cases hpe
        | st => rw [hbv] at hb2; exact absurd ((rc.st e).mp hb2) hes
        | arc a => rw [hbv] at hb2; exact ⟨a, hb2⟩
      refine bm_seq (sm_fldaugP (a := f) (C := He.ga K "Filling") (dx := dxf) (fs := fs) (f := "amount") (d1 := .int am) (z := fun g => match g with | .d (.int m) => .int (am + m) | _ => .none) (Rs := fun L' => ∃ as m, Pushed heads rooms starts e as m ∧ L' = (f, filO K dxf (putG "amount" (.d (.int (am + m))) fs)) :: canF K c dx ar heads (as.foldl (pushStep m) rooms) outs) (R := fun g L' => ∃ as m, Pushed heads rooms starts e as m ∧ g = .d (.int m) ∧ L' = canF K c dx ar heads (as.foldl (pushStep m) rooms) outs ++ [(f, filO K dxf fs)]) (ev_var rfl) mf T.cls_Filling T.no_Filling_amount F.a_ (em_meth (a := c) (C := He.ga K "Canals") (dx := dx) (fs := [("heads", .d (natL heads)), ("rooms", .r ar), ("outs", .d (.list (outs.map natL)))]) (ev_can T (ev_var rfl) mf F.c_) mc (by rfl) (am_av (av_cons (ev_d (eg_var rfl)) (av_cons (ev_d (eg_ixL (d := .int (e : Nat)) (eg_var rfl) eg_int (atI_nat (k := 0) (by rfl)))) av_nil))) ?_) ?_) ?_
      · rintro gs L1 ⟨rfl, rfl⟩
        refine ⟨C, [(f, filO K dxf fs)], _, hp, ⟨rfl, c, dx, ar, heads, rooms, outs, starts, bs, e, a0, sz, rc, ha0, rfl, hC, rfl⟩, ?_⟩
        rintro g L' ⟨as, m, h1, rfl, rfl⟩
        exact ⟨as, m, h1, rfl, rfl⟩
      · rintro g L1 ⟨as, m, h1, rfl, rfl⟩
        exact ⟨.int m, fs, _, rfl, rg_addI, (List.perm_append_comm (l₂ := [(f, filO K dxf fs)])), F.len, as, m, h1, rfl⟩
      · rintro G2 L2 ⟨rfl, as, m, h1, rfl⟩
        refine bm_ret (em_imp (em_eg eg_bl) ?_)
        rintro g L' ⟨rfl, rfl⟩
        exact .inr ⟨rfl, e, he, as, m, h1, rfl⟩⟩
def P_Filling_worth (K : PySem.W.Frag) (gs : List GV) (L : SH) (Z : GV → SH → Prop) : Prop := ∃ f dxf fs, ∃ am co_ : Int, 0 < co_ ∧ co_ < 1073741824 ∧ fldOf fs "amount" = some (.d (.int am)) ∧ fldOf fs "common" = some (.d (.int co_)) ∧ gs = [.r f] ∧ L = [(f, filO K dxf fs)] ∧ Z = fun g L' => g = .d (numD (red am co_)) ∧ L' = L
abbrev s_Filling_worth : Stmt := inClass (top 54) 5
abbrev N_Filling_worth : List Str := ["self"]
theorem sc_Filling_worth : FnScope N_Filling_worth ["self"] (defScope s_Filling_worth) := C8.fnScope_by (by decide +kernel)
theorem ok_Filling_worth (T : Tx w K mg base) : Mt P w K mg base CX0 2 (He.ga K "Filling") "worth" (spM K fun gs L Z => gs.length = 1 ∧ P_Filling_worth K gs L Z) := mt_mut T.d_Filling_worth T.cls_Filling T.m_Filling_worth sc_Filling_worth (fun _ _ _ h => h.1) (fun _ _ _ _ _ _ us hl => match us, hl with | [_], _ => rfl) fun cdv A outer s H E gs L Z hr h => ⟨_,
  (pss_one (ps_ret (pcl (ok_made T) hr (by decide) pass0 (by rfl) (pa_cons (pe_fldK K rfl (pv 0) (by rfl)) (pa_cons (pe_fldK K rfl (pv 0) (by rfl)) pa_nil))))), by
  replace h := h.2
 
  obtain ⟨f, dxf, fs, am, co_, h0, h1, h2, h3, rfl, rfl, rfl⟩ := h
  refine bm_ret (em_imp (em_eg (eg_call (ag_cons (eg_ev (ev_fld (ev_var rfl) List.mem_cons_self T.cls_Filling T.no_Filling_amount h2)) (ag_cons (eg_ev (ev_fld (ev_var rfl) List.mem_cons_self T.cls_Filling T.no_Filling_common h3)) ag_nil)) ⟨rfl, am, co_, h0, h1, rfl, rfl⟩)) ?_)
  exact fun g L' h => h⟩
end
end K13
namespace K13
open PySem PySem.Spec PyProof.Rows L2
open Evl (Ex fresh_back ex_l ex_t)
/-- one step of reading an expression's worth -/
local macro_rules | `(tactic| walk_at "eg1") => `(tactic| first
  | exact eg_var rfl | exact eg_int | exact eg_str | exact eg_bl | exact eg_non | exact tg_yes | exact og_none
  | apply og_some
  | apply tg_test | apply tg_B | apply tg_not | apply eg_notV | apply eg_neg
  | apply eg_isi
  | apply eg_ixT | apply eg_ixL
  | apply eg_cmp | apply eg_i0 | apply eg_ic
  | apply eg_op (hr := rg_eqI) | apply eg_op (hr := rg_eqS) | apply eg_op (hr := rg_neI) | apply eg_op (hr := rg_neS)
  | apply eg_cb (hr := cg_gcd)
  | exact (rfl : atI _ _ = _) | exact (rfl : kitB _ _ = _)
  | exact ag_nil | apply ag_cons
  | exact (by assumption : EG _ _ _ _ _) | apply eg_tup | apply eg_lst | exact Nat.le_of_ble_eq_true rfl)
local macro_rules | `(tactic| walk_at "eg") => `(tactic| repeat' walk_at "eg1")
section
variable {P : Program} {w : World} {K : PySem.W.Frag} {mg : Str → Option Value} {base : Heap} {L : SH} {G : Gm} {te : TE} {ts : TS} {R : GV → SH → Prop}
section
variable {N H : Hp}
theorem Ms.retell {p : Addr} {o o' : MO} (m : Ms K ((p, o) :: L) N H) (k : MoAt K N H p o') : Ms K ((p, o') :: L) N H := ⟨m.nd, fun x u h => by
  rcases List.mem_cons.mp h with z | z
  · cases z
    exact ⟨(m.at_ _ _ List.mem_cons_self).1, k⟩
  · exact m.at_ x u (List.mem_cons_of_mem _ z)⟩
theorem Tr.retell {p : Addr} {o o' : MO} {L0 : SH} {N0 H0 : Hp} (t : Tr L0 N0 H0 ((p, o) :: L) N H) : Tr L0 N0 H0 ((p, o') :: L) N H := ⟨t.a, t.b, t.c, t.d, t.e, t.f, t.n⟩
theorem frz_outs : ∀ {as : List Addr} {os : List (List Nat)} {X : SH} {N H : Hp}, as.length = os.length → Ms K (outsH as os ++ X) N H → Ex N H → ∃ N', Tr (outsH as os ++ X) N H X N' H ∧ Ms K X N' H ∧ DpAll K N' (as.map V.ref) (os.map natL)
  | [], [], X, N, H, _, m, e => ⟨N, .refl e, m, .nil⟩
  | a :: as, o :: os, X, N, H, h, m, e => by
    have hq : natG o = (o.map fun n => PyData.int (n : Nat)).map GV.d := by simp [natG]
    have m' : Ms K ((a, .lst ((o.map fun n => PyData.int (n : Nat)).map GV.d)) :: (outsH as os ++ X)) N H := by rw [← hq]; exact m
    obtain ⟨N1, t1, m1, k1⟩ := nw_freeze m' e
    obtain ⟨N2, t2, m2, k2⟩ := frz_outs (as := as) (os := os) (by simpa using h) m1 t1.b
    refine ⟨N2, ?_, m2, .cons (dp_mono t2.a _ _ k1) k2⟩
    have t1' : Tr ((a, MO.lst (natG o)) :: (outsH as os ++ X)) N H (outsH as os ++ X) N1 H := by rw [hq]; exact t1
    exact t1'.trans t2
theorem wds_refs : ∀ {as : List Addr} {vs : List V}, WdAll K N vs (as.map GV.r) → vs = as.map V.ref
  | [], _, h => by cases h; rfl
  | a :: as, _, h => by
    cases h with
    | cons h1 h2 => rw [show _ = V.ref a from h1, wds_refs h2]; rfl
/-- the canals are laid: heads and outs change no more -/
theorem can_frz {c dx ah ar ao : Addr} {oas : List Addr} {s : Can} {X : SH} (hl : oas.length = s.outs.length) (m : Ms K (canH K c dx ah ar ao oas s ++ X) N H) (e : Ex N H) :
    ∃ N', Tr (canH K c dx ah ar ao oas s ++ X) N H (canF K c dx ar s.heads s.rooms s.outs ++ X) N' H ∧ Ms K (canF K c dx ar s.heads s.rooms s.outs ++ X) N' H := by
  have p1 : (canH K c dx ah ar ao oas s ++ X).Perm (outsH oas s.outs ++ ((ao, .lst (oas.map .r)) :: (ah, .lst (natG s.heads)) :: (c, canO K dx ah ar ao) :: (ar, .lst (intG s.rooms)) :: X)) := by
    have e1 : canH K c dx ah ar ao oas s ++ X = [(c, canO K dx ah ar ao), (ah, .lst (natG s.heads)), (ar, .lst (intG s.rooms)), (ao, .lst (oas.map .r))] ++ (outsH oas s.outs ++ X) := rfl
    rw [e1]
    refine (List.perm_append_comm_assoc ..).trans (.append_left _ ?_)
    show ((c, canO K dx ah ar ao) :: (ah, MO.lst (natG s.heads)) :: (ar, .lst (intG s.rooms)) :: (ao, .lst (oas.map .r)) :: X).Perm _
    refine (List.Perm.swap ..).trans ?_
    refine (List.Perm.cons _ ((List.Perm.cons _ (.swap ..)).trans (.swap ..))).trans (.swap ..)
  have m1 := m.perm p1
  obtain ⟨N1, t1, m1, k1⟩ := frz_outs hl m1 e
  obtain ⟨_, vs, e1, e2⟩ := m1.at_ ao _ List.mem_cons_self
  rw [wds_refs e2] at e1
  have m2 := m1.retell (o' := .lst ((s.outs.map natL).map .d)) (mo_lst e1 (wds_of k1))
  obtain ⟨N3, t3, m3, k3⟩ := nw_freeze m2 t1.b
  have hq : natG s.heads = (s.heads.map fun n => PyData.int (n : Nat)).map GV.d := by simp [natG]
  rw [hq] at m3
  obtain ⟨N4, t4, m4, k4⟩ := nw_freeze m3 t3.b
  obtain ⟨_, fsv, f1, f2⟩ := m4.at_ c _ List.mem_cons_self
  have m5 := m4.retell (o' := canFO K dx ar s.heads s.outs) (by
    match fsv, f2 with
    | [(_, v1), (_, v2), (_, v3)], .cons a1 (.cons a2 (.cons a3 .nil)) =>
      refine mo_ins f1 (.cons ?_ (.cons a2 (.cons ?_ .nil)))
      · rw [show v1 = V.ref ah from a1]; exact k4
      · rw [show v3 = V.ref ao from a3]; exact dp_mono t4.a _ _ k3)
  have t13 : Tr (canH K c dx ah ar ao oas s ++ X) N H ((ah, .lst (natG s.heads)) :: (c, canO K dx ah ar ao) :: (ar, .lst (intG s.rooms)) :: X) N3 H := by
    have t0 : Tr (canH K c dx ah ar ao oas s ++ X) N H (outsH oas s.outs ++ ((ao, .lst (oas.map .r)) :: (ah, .lst (natG s.heads)) :: (c, canO K dx ah ar ao) :: (ar, .lst (intG s.rooms)) :: X)) N H := (Tr.refl e).perm p1
    exact (t0.trans t1).trans ((Tr.retell (Tr.refl t1.b)).trans t3)
  rw [hq] at t13
  exact ⟨N4, (t13.trans t4).retell, m5⟩
end
theorem bm_can {c dx ah ar ao : Addr} {oas : List Addr} {s : Can} {X : SH} (hl : oas.length = s.outs.length) (h : BM K (canF K c dx ar s.heads s.rooms s.outs ++ X) G ts R) : BM K (canH K c dx ah ar ao oas s ++ X) G ts R := fun σ N H D n ex q1 q2 => by
  obtain ⟨N1, t1, m1⟩ := can_frz hl n.ms ex
  exact h σ N1 H D ⟨n.nm.mono t1.a, m1⟩ t1.b (fun v g L2 N2 H2 t2 => q1 v g L2 N2 H2 (t1.trans t2)) fun σ2 L2 N2 H2 t2 => q2 σ2 L2 N2 H2 (t1.trans t2)
theorem tm_em {Rt : Bool → SH → Prop} (h : EM K L G te R) (k : ∀ g L', R g L' → ∃ b, g = .d (.bool b) ∧ Rt b L') : TM K L G (tTest te) Rt := fun σ N H n ex Q q => h σ N H n ex _ fun v g L1 N1 H1 t1 m1 k1 r => by
  obtain ⟨b, rfl, r'⟩ := k g L1 r
  exact ⟨b, dp_bool k1, q b L1 N1 H1 t1 m1 r'⟩
/-- the canals of a net -/
def idx (zs : List Str) (x : Str) : Nat := zs.idxOf x
def widths (ps : List Part) : List Q2 := ps.map Part.w
def loads (ps : List Part) : List Int := (widths ps).map (loadF (comm (widths ps)))
def netCan (zs : List Str) (ps : List Part) : Can := addAll (idx zs) (loads ps).sum ⟨[], [], List.replicate zs.length []⟩ (ps.zip (loads ps))
def NetMin (xs : List Str) (ps : List Part) (src tgt : List Str) (am : Int) : Prop := IsMin (netCan (placesF xs ps) ps).heads (netCan (placesF xs ps) ps).rooms (src.map (idx (placesF xs ps))) (tgt.map (idx (placesF xs ps))) am
def numK (zs : List Str) : List (Key × GV) := zs.zipIdx.foldl (fun acc z => putGK acc (.inr z.1) (.d (.int (z.2 : Nat)))) []
structure Places (xs : List Str) (ps : List Part) : Prop where
  nd : (placesF xs ps).Nodup
  xs_ : ∀ x ∈ xs, x ∈ placesF xs ps
  es_ : ∀ p ∈ ps, ∀ x ∈ p.ends, x ∈ placesF xs ps
theorem addK_mem {acc : List Str} {x y : Str} : y ∈ addK acc x ↔ y ∈ acc ∨ y = x := by
  unfold addK
  by_cases h : x ∈ acc
  · rw [if_pos h]
    constructor
    · exact .inl
    · rintro (z | z)
      · exact z
      · exact z ▸ h
  · rw [if_neg h]
    simp
theorem addK_nd {acc : List Str} {x : Str} (h : acc.Nodup) : (addK acc x).Nodup := by
  unfold addK
  by_cases e : x ∈ acc
  · rw [if_pos e]; exact h
  · rw [if_neg e]
    exact List.nodup_append.mpr ⟨h, by simp, fun a ha b hb e2 => by simp at hb; subst hb; subst e2; exact e ha⟩
theorem addKs {xs : List Str} : ∀ {acc : List Str}, (acc.Nodup → (xs.foldl addK acc).Nodup) ∧ ∀ y, y ∈ xs.foldl addK acc ↔ y ∈ acc ∨ y ∈ xs := by
  induction xs with
  | nil => intro acc; exact ⟨id, fun y => by simp⟩
  | cons x r ih =>
    intro acc
    obtain ⟨a, b⟩ := ih (acc := addK acc x)
    exact ⟨fun h => a (addK_nd h), fun y => by rw [List.foldl_cons, b, addK_mem, List.mem_cons, or_assoc]⟩
theorem stepKs {ps : List Part} : ∀ {acc : List Str}, (acc.Nodup → (ps.foldl stepK acc).Nodup) ∧ ∀ y, y ∈ ps.foldl stepK acc ↔ y ∈ acc ∨ ∃ p ∈ ps, y ∈ p.ends := by
  induction ps with
  | nil => intro acc; exact ⟨id, fun y => by simp⟩
  | cons p r ih =>
    intro acc
    obtain ⟨a, b⟩ := ih (acc := stepK acc p)
    obtain ⟨c, d⟩ := addKs (xs := p.ends) (acc := acc)
    refine ⟨fun h => a (c h), fun y => ?_⟩
    rw [List.foldl_cons, b]
    have d' : y ∈ stepK acc p ↔ y ∈ acc ∨ y ∈ p.ends := d y
    rw [d']
    constructor
    · rintro ((z | z) | ⟨q, hq, z⟩)
      · exact .inl z
      · exact .inr ⟨p, by simp, z⟩
      · exact .inr ⟨q, by simp [hq], z⟩
    · rintro (z | ⟨q, hq, z⟩)
      · exact .inl (.inl z)
      · rcases List.mem_cons.mp hq with e | e
        · exact .inl (.inr (e ▸ z))
        · exact .inr ⟨q, e, z⟩
theorem places_mem {xs : List Str} {ps : List Part} {y : Str} : y ∈ placesF xs ps ↔ y ∈ xs ∨ ∃ p ∈ ps, y ∈ p.ends := by
  unfold placesF sortS
  rw [List.mem_mergeSort]
  show y ∈ ps.foldl stepK (xs.foldl addK []) ↔ _
  rw [stepKs.2, addKs.2]
  simp
theorem places_ok (xs : List Str) (ps : List Part) : Places xs ps := by
  refine ⟨?_, fun x h => places_mem.mpr (.inl h), fun p hp x h => places_mem.mpr (.inr ⟨p, hp, h⟩)⟩
  unfold placesF sortS
  refine (List.mergeSort_perm _ _).nodup_iff.mpr ?_
  exact stepKs.1 (addKs.1 .nil)
theorem idx_lt {zs : List Str} {x : Str} (h : x ∈ zs) : idx zs x < zs.length := List.idxOf_lt_length_iff.mpr h
theorem idx_inj {zs : List Str} {x y : Str} (hx : x ∈ zs) (h : idx zs x = idx zs y) : x = y := by
  have h1 : zs[idx zs x]'(idx_lt hx) = x := List.getElem_idxOf (idx_lt hx)
  have ly : idx zs y < zs.length := h ▸ idx_lt hx
  have h2 : zs[idx zs y]'ly = y := List.getElem_idxOf ly
  rw [← h1, ← h2]
  simp [h]
theorem numK_gen : ∀ (zs : List Str) (k : Nat) (acc : List (Key × GV)) (x : Str), (x ∉ zs → valG ((zs.zipIdx k).foldl (fun acc z => putGK acc (.inr z.1) (.d (.int (z.2 : Nat)))) acc) (.inr x) = valG acc (.inr x)) ∧ (zs.Nodup → x ∈ zs → valG ((zs.zipIdx k).foldl (fun acc z => putGK acc (.inr z.1) (.d (.int (z.2 : Nat)))) acc) (.inr x) = some (.d (.int ((k + zs.idxOf x : Nat) : Nat))))
  | [], k, acc, x => ⟨fun _ => rfl, fun _ h => by cases h⟩
  | y :: zs, k, acc, x => by
    obtain ⟨a, b⟩ := numK_gen zs (k + 1) (putGK acc (.inr y) (.d (.int (k : Nat)))) x
    rw [List.zipIdx_cons, List.foldl_cons]
    refine ⟨fun h => ?_, fun nd h => ?_⟩
    · rw [a (fun z => h (List.mem_cons_of_mem _ z)), valG_put, if_neg (fun z => h (by cases z; exact List.mem_cons_self))]
    · by_cases e : x = y
      · subst e
        rw [a (List.nodup_cons.mp nd).1, valG_put, if_pos rfl]
        simp
      · have hz : x ∈ zs := (List.mem_cons.mp h).resolve_left e
        rw [b (List.nodup_cons.mp nd).2 hz, List.idxOf_cons]
        rw [show (y == x) = false from beq_eq_false_iff_ne.mpr (Ne.symm e)]
        show some (GV.d (.int ((k + 1 + zs.idxOf x : Nat) : Int))) = some (GV.d (.int ((k + (zs.idxOf x + 1) : Nat) : Int)))
        rw [show k + 1 + zs.idxOf x = k + (zs.idxOf x + 1) from by omega]
theorem numK_val {zs : List Str} (nd : zs.Nodup) {x : Str} (hx : x ∈ zs) : valG (numK zs) (.inr x) = some (.d (.int (idx zs x : Nat))) := by
  have := (numK_gen zs 0 [] x).2 nd hx
  rw [Nat.zero_add] at this
  exact this
def RoomsNN (s : Can) : Prop := ∀ r ∈ s.rooms, (0 : Int) ≤ r
theorem laid_nn {s : Can} {st en : Nat} {th ba : Int} (h : RoomsNN s) (h1 : 0 ≤ th) (h2 : 0 ≤ ba) : RoomsNN (s.laid st en th ba) := fun r hr => by
  have hr : r ∈ s.rooms ++ [th, ba] := hr
  rcases List.mem_append.mp hr with z | z
  · exact h r z
  · simp at z
    rcases z with z | z <;> omega
theorem to_nn {sp : Str → Nat} {en : Nat} {much : Int} (hm : 0 ≤ much) : ∀ {xs : List Str} {s : Can}, RoomsNN s → RoomsNN (xs.foldl (layTo sp en much) s)
  | [], s, h => h
  | x :: xs, s, h => by rw [List.foldl_cons]; exact to_nn hm (laid_nn h hm (Int.le_refl 0))
theorem from_nn {sp : Str → Nat} {le : Nat} {much : Int} (hm : 0 ≤ much) : ∀ {xs : List Str} {s : Can}, RoomsNN s → RoomsNN (xs.foldl (layFrom sp le much) s)
  | [], s, h => h
  | x :: xs, s, h => by rw [List.foldl_cons]; exact from_nn hm (laid_nn h hm (Int.le_refl 0))
theorem all_nn {sp : Str → Nat} {much : Int} (hm : 0 ≤ much) : ∀ {qs : List (Part × Int)} {s : Can}, (∀ q ∈ qs, 0 ≤ q.2) → RoomsNN s → RoomsNN (addAll sp much s qs)
  | [], s, _, h => h
  | (p, r) :: qs, s, hq, h => by
    have hr : 0 ≤ r := hq (p, r) (by simp)
    refine all_nn hm (s := addPart sp much s (p, r)) (fun q h => hq q (by simp [h])) ?_
    cases p with
    | arc ld x y w => exact laid_nn h hr (by split <;> omega)
    | hub ps w => exact from_nn hm (to_nn hm (laid_nn (s := { s with outs := s.outs ++ [[]] ++ [[]] }) h hr (Int.le_refl 0)))
theorem roomAt_nn {rs : List Int} (h : ∀ r ∈ rs, (0 : Int) ≤ r) (x : Nat) : 0 ≤ roomAt rs x := by
  unfold roomAt
  rw [List.getD_eq_getElem?_getD]
  cases e : rs[x]? with
  | none => exact Int.le_refl 0
  | some r => exact h r (List.mem_of_getElem? e)
theorem load_nn {c : Int} {q : Q2} (n : Num q) (hc : 0 < c) : 0 ≤ loadF c q := Int.mul_nonneg n.lo (Int.ediv_nonneg (Int.le_of_lt hc) (Int.le_of_lt n.pos))
theorem sum_nn : ∀ {xs : List Int}, (∀ x ∈ xs, 0 ≤ x) → 0 ≤ xs.sum
  | [], _ => Int.le_refl 0
  | x :: xs, h => by
    have h1 := h x (by simp)
    have h2 := sum_nn (xs := xs) fun y hy => h y (by simp [hy])
    rw [List.sum_cons]
    omega
def P_Filling___init__ (K : PySem.W.Frag) (gs : List GV) (L : SH) (Z : GV → SH → Prop) : Prop := ∃ f dxf xs ps src tgt, NetOk xs ps ∧ src.Nodup ∧ src.length ≤ 1000 ∧ tgt.length ≤ 1000 ∧ (∀ x ∈ src, x ∈ xs) ∧ (∀ x ∈ tgt, x ∈ xs ∧ x ∉ src) ∧ gs = [.r f, .d (netD xs ps), .d (strsD src), .d (strsD tgt)] ∧ L = [(f, filO K dxf [])] ∧
  Z = fun g L' => g = .d .none ∧ ∃ fs am Lr, NetMin xs ps src tgt am ∧ fldOf fs "amount" = some (.d (.int am)) ∧ fldOf fs "common" = some (.d (.int (comm (widths ps)))) ∧ fldOf fs "worth" = none ∧ L' = (f, filO K dxf fs) :: Lr
abbrev s_Filling___init__ : Stmt := inClass (top 54) 0
abbrev N_Filling___init__ : List Str := ["self", "net", "source", "target", "widths", "rooms", "part", "place", "turn", "room"]
theorem sc_Filling___init__ : FnScope N_Filling___init__ ["self", "net", "source", "target"] (defScope s_Filling___init__) := C8.fnScope_by (by decide +kernel)
theorem ok_Filling___init__ (T : Tx w K mg base) : Ini P w K mg base CX0 3 "Filling" (spM K fun gs L Z => gs.length = 4 ∧ P_Filling___init__ K gs L Z) := in_mut T.d_Filling___init__ T.mkr_Filling T.g_Filling sc_Filling___init__ (fun _ _ _ h => h.1) (fun _ _ _ _ _ _ us hl => match us, hl with | [_, _, _, _], _ => rfl) fun cdv A outer s H E gs L Z hr h => ⟨_,
  (pss_cons (ps_fld (pv 0) (pe_ix (ix_tupK K rfl) (pv 1) pe_int (fun _ _ => rfl)) rfl)
  (pss_cons (ps_fld (pv 0) (pcl (ok_named_places T) hr (by decide) pass0 (by rfl) (pa_cons (pe_ix (ix_tupK K rfl) (pv 1) pe_int (fun _ _ => rfl)) (pa_cons (pe_ix (ix_tupK K rfl) (pv 1) pe_int (fun _ _ => rfl)) pa_nil))) rfl)
  (pss_cons (ps_fld (pv 0) (pe_dc (own := [("turn", 8), ("place", 7)]) rfl sc_Filling___init__.nd (pi_enum (by rfl) T.n_enumerate (pa_cons (pe_fldK K rfl (pv 0) (by rfl)) pa_nil)) (blkOk_by (own := [("turn", 8), ("place", 7)]) (N := N_Filling___init__) (sc := defScope s_Filling___init__) (by decide +kernel)) (fun _ _ _ _ _ => (pg_tupK (n := 2) K rfl rfl (pgs_cons (pg_name (i := 8) sc_Filling___init__.nd rfl (Or.inl rfl) (.inr rfl)) (pgs_cons (pg_name (i := 7) sc_Filling___init__.nd rfl (Or.inl rfl) (.inr rfl)) pgs_nil)) (by rfl) (by rfl))) (fun _ _ _ _ _ => pts_nil) (fun _ _ _ _ _ => (pv 7)) (fun _ _ _ _ _ => (pv 8))) rfl)
  (pss_cons (ps_setLc (i := 4) (own := [("part", 6)]) rfl sc_Filling___init__.nd rfl rfl (sw_true rfl rfl rfl (by decide +kernel)) (pi_tup (pe_ix (ix_tupK K rfl) (pv 1) pe_int (fun _ _ => rfl))) (blkOk_by (own := [("part", 6)]) (N := N_Filling___init__) (sc := defScope s_Filling___init__) (by decide +kernel)) (fun _ _ _ _ _ => (pg_name (i := 6) sc_Filling___init__.nd rfl (Or.inl rfl))) (fun _ _ _ _ _ => pts_nil) (fun _ _ _ _ _ => (pe_ix (ix_tupK K rfl) (pv 6) (pe_un un_neg pe_int) (fun _ _ => rfl))))
  (pss_cons (ps_fld (pv 0) (pcl (ok_common_bottom T) hr (by decide) pass0 (by rfl) (pa_cons (pv 4) pa_nil)) rfl)
  (pss_cons (ps_set (i := 5) sc_Filling___init__.nd rfl (Or.inr rfl) (pcl (ok_in_wholes T) hr (by decide) pass0 (by rfl) (pa_cons (pv 4) (pa_cons (pe_fldK K rfl (pv 0) (by rfl)) pa_nil))))
  (pss_cons (ps_fld (pv 0) (pini (ok_Canals___init__ T) hr (by decide) pass0 (by rfl) (pa_cons (pe_callB (call_lenK K rfl) (by rfl) T.n_len bt_len (pa_cons (pe_fldK K rfl (pv 0) (by rfl)) pa_nil)) pa_nil)) rfl)
  (pss_cons (ps_fld (pv 0) (pe_lc (own := [("part", 6), ("room", 9)]) rfl sc_Filling___init__.nd (pi_zipM (by rfl) T.n_zip (pa_cons (pe_ix (ix_tupK K rfl) (pv 1) pe_int (fun _ _ => rfl)) (pa_cons (pv 5) pa_nil))) (blkOk_by (own := [("part", 6), ("room", 9)]) (N := N_Filling___init__) (sc := defScope s_Filling___init__) (by decide +kernel)) (fun _ _ _ _ _ => (pg_tupK (n := 2) K rfl rfl (pgs_cons (pg_name (i := 6) sc_Filling___init__.nd rfl (Or.inl rfl) (.inr rfl)) (pgs_cons (pg_name (i := 9) sc_Filling___init__.nd rfl (Or.inl rfl) (.inr rfl)) pgs_nil)) (by rfl) (by rfl))) (fun _ _ _ _ _ => pts_nil) (fun _ _ _ _ _ => (pmt (ok_Filling_arcs_of T) hr (by decide) pass0 (pv 0) (pa_cons (pv 6) (pa_cons (pv 9) (pa_cons (pe_callB (cr_sumK K rfl rfl) (by rfl) T.n_sum bt_sum (pa_cons (pv 5) pa_nil)) pa_nil)))))) rfl)
  (pss_cons (ps_fld (pv 0) (pe_lc (own := [("place", 7)]) rfl sc_Filling___init__.nd (pi_tup (pv 2)) (blkOk_by (own := [("place", 7)]) (N := N_Filling___init__) (sc := defScope s_Filling___init__) (by decide +kernel)) (fun _ _ _ _ _ => (pg_name (i := 7) sc_Filling___init__.nd rfl (Or.inl rfl))) (fun _ _ _ _ _ => pts_nil) (fun _ _ _ _ _ => (pe_dget (hu_of hr) (pe_fldK K rfl (pv 0) (by rfl)) (pv 7) (fun _ _ => rfl)))) rfl)
  (pss_cons (ps_fld (pv 0) (pe_lc (own := [("place", 7)]) rfl sc_Filling___init__.nd (pi_tup (pv 3)) (blkOk_by (own := [("place", 7)]) (N := N_Filling___init__) (sc := defScope s_Filling___init__) (by decide +kernel)) (fun _ _ _ _ _ => (pg_name (i := 7) sc_Filling___init__.nd rfl (Or.inl rfl))) (fun _ _ _ _ _ => pts_nil) (fun _ _ _ _ _ => (pe_dget (hu_of hr) (pe_fldK K rfl (pv 0) (by rfl)) (pv 7) (fun _ _ => rfl)))) rfl)
  (pss_cons (ps_fld (pv 0) pe_int rfl)
  (pss_one (ps_while PassesOwn.never (pt_val (pmt0 (ok_Filling_fill T) hr (by decide) pass0 (pv 0)))
    (pss_one ps_pass)))))))))))))), by
  replace h := h.2
 
  obtain ⟨f, dxf, xs, ps, src, tgt, n, hsn, hsl, htl, hsx, htx, rfl, rfl, rfl⟩ := h
  obtain ⟨zs, hzs⟩ : ∃ zs, zs = placesF xs ps := ⟨_, rfl⟩
  have plnd : zs.Nodup := by rw [hzs]; exact (places_ok xs ps).nd
  have plxs : ∀ x ∈ xs, x ∈ zs := by rw [hzs]; exact (places_ok xs ps).xs_
  have ples : ∀ p ∈ ps, ∀ x ∈ p.ends, x ∈ zs := by rw [hzs]; exact (places_ok xs ps).es_
  have few : zs.length ≤ 40 := hzs ▸ n.few
  have hpl := n.len
  have hxl := n.taps.hi
  have wn : ∀ q ∈ widths ps, Num q := fun q hq => by
    obtain ⟨p, hp, rfl⟩ := List.mem_map.mp hq
    exact (n.ok p hp).num
  have wl : (widths ps).length ≤ 1000000 := by unfold widths; rw [List.length_map]; omega
  obtain ⟨cm0, cmd, _⟩ := comm_ok wn (c := 1) (by decide) (by decide)
  have rll : (loads ps).length = ps.length := by simp [loads, widths]
  refine bm_seq (sm_fldP (a := f) (dx := dxf) (C := He.ga K "Filling") (f := "parts") (Rs := fun L' => L' = [(f, filO K dxf [("parts", .d (.tuple (ps.map partD)))])]) (em_eg (eg_ixT (d := .tuple (ps.map partD)) (eg_var rfl) eg_int rfl)) (fun g L1 h => ev_var rfl) T.cls_Filling T.no_Filling_parts ?_) ?_
  · rintro g L1 ⟨rfl, rfl⟩
    exact ⟨_, _, .refl _, by simp, rfl⟩
  rintro G1 L1 ⟨rfl, rfl⟩
  refine bm_seq (sm_fldP (a := f) (dx := dxf) (C := He.ga K "Filling") (f := "places") (Rs := fun L' => L' = [(f, filO K dxf [("parts", .d (.tuple (ps.map partD))), ("places", .d (.list (zs.map .str)))])]) (em_eg (eg_call (ag_cons (eg_ixT (d := strsD xs) (eg_var rfl) eg_int rfl) (ag_cons (eg_ixT (d := .tuple (ps.map partD)) (eg_var rfl) eg_int rfl) ag_nil)) ⟨rfl, xs, ps, by omega, hpl, fun p hp => (n.ok p hp).len, rfl, rfl⟩)) (fun g L1 h => ev_var rfl) T.cls_Filling T.no_Filling_places ?_) ?_
  · rintro g L1 ⟨rfl, rfl⟩
    exact ⟨_, _, .refl _, by simp, by rw [hzs]; rfl⟩
  rintro G1 L1 ⟨rfl, rfl⟩
  refine bm_seq (sm_fldP (a := f) (dx := dxf) (C := He.ga K "Filling") (f := "numbered") (Rs := fun L' => ∃ nd, L' = [(f, filO K dxf [("parts", .d (.tuple (ps.map partD))), ("places", .d (.list (zs.map .str))), ("numbered", .r nd)]), (nd, .dK (numK zs))]) (em_dc (zs := zs.zipIdx) (kf := fun z => .inr z.1) (vf := fun z => .d (.int (z.2 : Nat))) (ig_enum (g := PyData.str) (xs := zs) (ag_cons (eg_ev (ev_fld (ev_var rfl) List.mem_cons_self T.cls_Filling T.no_Filling_places (by rfl))) ag_nil)) (by rw [List.length_zipIdx]; omega) (fun j hj => by simpa using hj) (fun z _ => eg_var rfl) fun z _ => ev_var rfl) (fun g L1 h => ev_var rfl) T.cls_Filling T.no_Filling_numbered ?_) ?_
  · rintro g L1 ⟨nd, rfl, rfl⟩
    exact ⟨_, _, .swap .., by simp, nd, rfl⟩
  rintro G1 L1 ⟨rfl, nd, rfl⟩
  refine bm_seq (sm_asg (em_eg (eg_of (d' := .list ((widths ps).map numD)) (eg_lcA (f := fun p => numD p.w) (ig_tup (g := partD) (xs := ps) (eg_ixT (eg_var rfl) eg_int rfl)) (by omega) (fun j hj => by simpa using hj) fun p _ => eg_pZ (eg_var rfl)) (by simp [widths])))) ?_
  rintro G1 L1 ⟨g, rfl, rfl, rfl⟩
  refine bm_seq (sm_fldP (a := f) (dx := dxf) (C := He.ga K "Filling") (f := "common") (Rs := fun L' => L' = [(f, filO K dxf [("parts", .d (.tuple (ps.map partD))), ("places", .d (.list (zs.map .str))), ("numbered", .r nd), ("common", .d (.int (comm (widths ps))))]), (nd, .dK (numK zs))]) (em_eg (eg_call (ag_cons (eg_var rfl) ag_nil) ⟨rfl, widths ps, wn, wl, rfl, rfl⟩)) (fun g L1 h => ev_var rfl) T.cls_Filling T.no_Filling_common ?_) ?_
  · rintro g L1 ⟨rfl, rfl⟩
    exact ⟨_, _, .refl _, by simp, rfl⟩
  rintro G1 L1 ⟨rfl, rfl⟩
  refine bm_seq (sm_asg (em_eg (eg_of (d' := .list ((loads ps).map .int)) (eg_call (ag_cons (eg_var rfl) (ag_cons (eg_ev (ev_fld (ev_var rfl) List.mem_cons_self T.cls_Filling T.no_Filling_common (by rfl))) ag_nil)) ⟨rfl, widths ps, comm (widths ps), wn, wl, cm0, cmd, rfl, rfl⟩) rfl))) ?_
  rintro G1 L1 ⟨g, rfl, rfl, rfl⟩
  obtain ⟨s00, hs00⟩ : ∃ s00 : Can, s00 = ⟨[], [], List.replicate zs.length []⟩ := ⟨_, rfl⟩
  refine bm_seq (sm_fldP (a := f) (dx := dxf) (C := He.ga K "Filling") (f := "canals") (Rs := fun L' => ∃ c dxc ah ar ao oas, oas.length = zs.length ∧ L' = (f, filO K dxf [("parts", .d (.tuple (ps.map partD))), ("places", .d (.list (zs.map .str))), ("numbered", .r nd), ("common", .d (.int (comm (widths ps)))), ("canals", .r c)]) :: (canH K c dxc ah ar ao oas s00 ++ [(nd, .dK (numK zs))])) (R := fun g L' => ∃ c dxc ah ar ao oas, oas.length = zs.length ∧ g = .r c ∧ L' = canH K c dxc ah ar ao oas s00 ++ [(f, filO K dxf [("parts", .d (.tuple (ps.map partD))), ("places", .d (.list (zs.map .str))), ("numbered", .r nd), ("common", .d (.int (comm (widths ps))))]), (nd, .dK (numK zs))])
    (em_make (C := He.ga K "Canals") (gs := [.d (.int (zs.length : Nat))]) (av_cons (ev_d (eg_of (eg_cb (ag_cons (eg_ev (ev_fld (ev_var rfl) List.mem_cons_self T.cls_Filling T.no_Filling_places (by rfl))) ag_nil) (cg_lenL (ds := zs.map .str))) (by rw [List.length_map]))) av_nil) ?_) (fun g L1 h => ev_var rfl) T.cls_Filling T.no_Filling_canals ?_) ?_
  · intro a dx
    refine ⟨_, ⟨rfl, a, dx, zs.length, by omega, rfl, rfl, rfl⟩, ?_⟩
    rintro g L' ⟨rfl, ah, ar, ao, oas, h1, rfl⟩
    exact ⟨rfl, a, dx, ah, ar, ao, oas, h1, rfl, by subst hs00; rfl⟩
  · rintro g L1 ⟨c, dxc, ah, ar, ao, oas, h1, rfl, rfl⟩
    exact ⟨_, _, List.perm_middle, by simp, c, dxc, ah, ar, ao, oas, h1, rfl⟩
  rintro G1 L1 ⟨rfl, c, dxc, ah, ar, ao, oas, hoas, rfl⟩
  obtain ⟨F7, hF7⟩ : ∃ F7 : List (Str × GV), F7 = ([("parts", .d (.tuple (ps.map partD))), ("places", .d (.list (zs.map .str))), ("numbered", .r nd), ("common", .d (.int (comm (widths ps)))), ("canals", .r c)] : List (Str × GV)) := ⟨_, rfl⟩
  rw [← hF7]
  have f7n : fldOf F7 "numbered" = some (.r nd) := by rw [hF7]; rfl
  have f7c : fldOf F7 "canals" = some (.r c) := by rw [hF7]; rfl
  have f7a : fldOf F7 "arcs_of" = none := by rw [hF7]; rfl
  have w00 : CanW s00 := hs00 ▸ begin_w zs.length
  have o00 : s00.outs.length = zs.length := by rw [hs00]; simp
  have h00 : s00.heads.length = 0 := by rw [hs00]; rfl
  have inz : ∀ z ∈ ps.zip (loads ps), (∀ x ∈ z.1.ends, idx zs x < zs.length) ∧ z.1.ends.length ≤ 1000 := fun z hz => by
    have hp := (List.of_mem_zip hz).1
    exact ⟨fun x hx => idx_lt (ples z.1 hp x hx), (n.ok z.1 hp).len⟩
  have take_w : ∀ i, CanW (addAll (idx zs) (loads ps).sum s00 ((ps.zip (loads ps)).take i)) ∧ s00.outs.length ≤ (addAll (idx zs) (loads ps).sum s00 ((ps.zip (loads ps)).take i)).outs.length ∧ (addAll (idx zs) (loads ps).sum s00 ((ps.zip (loads ps)).take i)).outs.length ≤ s00.outs.length + 2 * ((ps.zip (loads ps)).take i).length ∧ (addAll (idx zs) (loads ps).sum s00 ((ps.zip (loads ps)).take i)).heads.length ≤ s00.heads.length + 4002 * ((ps.zip (loads ps)).take i).length := fun i => all_w (n := zs.length) w00 (by omega) fun q hq => inz q (List.mem_of_mem_take hq)
  have zl : (ps.zip (loads ps)).length = ps.length := by rw [List.length_zip, rll]; omega
  refine bm_permL (L1 := canH K c dxc ah ar ao oas s00 ++ [(f, filO K dxf F7), (nd, .dK (numK zs))]) List.perm_middle.symm ?_
  refine bm_seq (sm_fldP (a := f) (dx := dxf) (C := He.ga K "Filling") (f := "arcs") (Rs := fun L' => ∃ oas ds, oas.length = (netCan zs ps).outs.length ∧ L' = (f, filO K dxf (putG "arcs" (.d (.list ds)) F7)) :: (canH K c dxc ah ar ao oas (netCan zs ps) ++ [(nd, .dK (numK zs))])) (R := fun g L' => ∃ oas ds, oas.length = (netCan zs ps).outs.length ∧ g = .d (.list ds) ∧ L' = canH K c dxc ah ar ao oas (netCan zs ps) ++ [(f, filO K dxf F7), (nd, .dK (numK zs))])
    (em_lcD (W := fun i ds L1 => ds.length = i ∧ ∃ oas, oas.length = (addAll (idx zs) (loads ps).sum s00 ((ps.zip (loads ps)).take i)).outs.length ∧ L1 = canH K c dxc ah ar ao oas (addAll (idx zs) (loads ps).sum s00 ((ps.zip (loads ps)).take i)) ++ [(f, filO K dxf F7), (nd, .dK (numK zs))]) (ig_zipM (g := partD) (h := PyData.int) (xs := ps) (ys := loads ps) (ag_cons (eg_ixT (d := .tuple (ps.map partD)) (eg_var rfl) eg_int rfl) (ag_cons (eg_var rfl) ag_nil))) (by omega) (fun j hj => by simpa using hj) ⟨rfl, oas, by show oas.length = s00.outs.length; omega, rfl⟩ ?_ (fun i ds L1 h => h.1) ?_) (fun g L1 h => ev_var rfl) T.cls_Filling T.no_Filling_arcs ?_) ?_
  · rintro i z ds L1 hi ⟨rfl, oas, ho, rfl⟩
    obtain ⟨t1, t2, t3, t4⟩ := take_w ds.length
    have hlt : ds.length < (ps.zip (loads ps)).length := (List.getElem?_eq_some_iff.mp hi).1
    have tl : ((ps.zip (loads ps)).take ds.length).length ≤ 199 := by rw [List.length_take]; omega
    obtain ⟨iz1, iz2⟩ := inz z (List.mem_of_getElem? hi)
    have hp := (List.of_mem_zip (List.mem_of_getElem? hi)).1
    refine em_meth (a := f) (C := He.ga K "Filling") (dx := dxf) (fs := F7) (ev_var rfl) (mem_app List.mem_cons_self) f7a (am_av (av_cons (ev_d (eg_var rfl)) (av_cons (ev_d (eg_var rfl)) (av_cons (ev_d (eg_cb (ag_cons (eg_var rfl) ag_nil) cg_sum)) av_nil)))) ?_
    rintro gs L2 ⟨rfl, rfl⟩
    refine ⟨_, [], _, by rw [List.append_nil], ⟨rfl, f, dxf, F7, nd, numK zs, c, dxc, ah, ar, ao, oas, _, z.1, z.2, (loads ps).sum, idx zs, f7n, f7c, ho, t1.ok, by omega, by omega, iz2, fun x hx => ⟨numK_val plnd (ples z.1 hp x hx), by have := iz1 x hx; omega⟩, rfl, rfl, rfl⟩, ?_⟩
    rintro g L' ⟨ds', oas', rfl, h2, rfl⟩
    refine ⟨_, rfl, by simp, oas', ?_, ?_⟩
    · rw [h2, addAll, addAll, fold_step hi]
    · rw [List.append_nil, addAll, addAll, fold_step hi]
  · rintro ds L1 ⟨h1, oas, h2, rfl⟩
    rw [List.take_length] at h2 ⊢
    rw [hs00] at h2 ⊢
    exact ⟨oas, ds, h2, rfl, rfl⟩
  · rintro g L1 ⟨oas, ds, h1, rfl, rfl⟩
    refine ⟨_, _, List.perm_middle, by rw [hF7]; simp, oas, ds, h1, rfl⟩
  rintro G1 L1 ⟨rfl, oas, ds, ho, rfl⟩
  obtain ⟨F8, hF8⟩ : ∃ F8, F8 = putG "arcs" (.d (.list ds)) F7 := ⟨_, rfl⟩
  rw [← hF8]
  have l7 : F7.length = 5 := by rw [hF7]; rfl
  have l8 : F8.length ≤ 6 := by rw [hF8]; have := putG_len "arcs" (.d (.list ds)) F7; omega
  have f8n : fldOf F8 "numbered" = some (.r nd) := by rw [hF8, hF7]; rfl
  have mn : ∀ {o : MO}, (nd, MO.dK (numK zs)) ∈ (f, o) :: (canH K c dxc ah ar ao oas (netCan zs ps) ++ [(nd, .dK (numK zs))]) := fun {o} => List.mem_cons_of_mem _ (mem_app List.mem_cons_self)
  refine bm_seq (sm_fldP (a := f) (dx := dxf) (C := He.ga K "Filling") (f := "starts") (Rs := fun L' => L' = (f, filO K dxf (putG "starts" (.d (natL (src.map (idx zs)))) F8)) :: (canH K c dxc ah ar ao oas (netCan zs ps) ++ [(nd, .dK (numK zs))])) (em_eg (eg_of (d' := natL (src.map (idx zs))) (eg_lcA (f := fun x : Str => .int (idx zs x : Nat)) (ig_tup (g := PyData.str) (xs := src) (eg_var rfl)) (by omega) (fun j hj => by simpa using hj) fun x hx => eg_ev (ev_dget (p := nd) (k := .inr x) (ev_num T (ev_var rfl) List.mem_cons_self f8n) (eg_var rfl) mn (numK_val plnd (plxs x (hsx x hx))))) (by simp [natL]))) (fun g L1 h => ev_var rfl) T.cls_Filling T.no_Filling_starts ?_) ?_
  · rintro g L1 ⟨rfl, rfl⟩
    exact ⟨_, _, .refl _, by omega, rfl⟩
  rintro G1 L1 ⟨rfl, rfl⟩
  obtain ⟨F9, hF9⟩ : ∃ F9, F9 = putG "starts" (.d (natL (src.map (idx zs)))) F8 := ⟨_, rfl⟩
  rw [← hF9]
  have l9 : F9.length ≤ 7 := by rw [hF9]; have := putG_len "starts" (.d (natL (src.map (idx zs)))) F8; omega
  have f9n : fldOf F9 "numbered" = some (.r nd) := by rw [hF9, hF8, hF7]; rfl
  refine bm_seq (sm_fldP (a := f) (dx := dxf) (C := He.ga K "Filling") (f := "finish") (Rs := fun L' => L' = (f, filO K dxf (putG "finish" (.d (natL (tgt.map (idx zs)))) F9)) :: (canH K c dxc ah ar ao oas (netCan zs ps) ++ [(nd, .dK (numK zs))])) (em_eg (eg_of (d' := natL (tgt.map (idx zs))) (eg_lcA (f := fun x : Str => .int (idx zs x : Nat)) (ig_tup (g := PyData.str) (xs := tgt) (eg_var rfl)) (by omega) (fun j hj => by simpa using hj) fun x hx => eg_ev (ev_dget (p := nd) (k := .inr x) (ev_num T (ev_var rfl) List.mem_cons_self f9n) (eg_var rfl) mn (numK_val plnd (plxs x (htx x hx).1)))) (by simp [natL]))) (fun g L1 h => ev_var rfl) T.cls_Filling T.no_Filling_finish ?_) ?_
  · rintro g L1 ⟨rfl, rfl⟩
    exact ⟨_, _, .refl _, by have := putG_len "finish" (.d (natL (tgt.map (idx zs)))) F9; omega, rfl⟩
  rintro G1 L1 ⟨rfl, rfl⟩
  refine bm_seq (sm_fldP (a := f) (dx := dxf) (C := He.ga K "Filling") (f := "amount") (Rs := fun L' => L' = (f, filO K dxf (putG "amount" (.d (.int 0)) (putG "finish" (.d (natL (tgt.map (idx zs)))) F9))) :: (canH K c dxc ah ar ao oas (netCan zs ps) ++ [(nd, .dK (numK zs))])) (em_eg eg_int) (fun g L1 h => ev_var rfl) T.cls_Filling T.no_Filling_amount ?_) ?_
  · rintro g L1 ⟨rfl, rfl⟩
    exact ⟨_, _, .refl _, by have := putG_len "finish" (.d (natL (tgt.map (idx zs)))) F9; omega, rfl⟩
  rintro G1 L1 ⟨rfl, rfl⟩
  obtain ⟨FA, hFA⟩ : ∃ FA, FA = putG "amount" (.d (.int 0)) (putG "finish" (.d (natL (tgt.map (idx zs)))) F9) := ⟨_, rfl⟩
  rw [← hFA]
  obtain ⟨heads, rooms0, outs, hhe⟩ : ∃ heads rooms0 outs, netCan zs ps = ⟨heads, rooms0, outs⟩ := ⟨_, _, _, rfl⟩
  have hW : CanW (netCan zs ps) ∧ zs.length ≤ (netCan zs ps).outs.length ∧ (netCan zs ps).outs.length ≤ 1000000 ∧ (netCan zs ps).heads.length ≤ 1000000 := by
    obtain ⟨t1, t2, t3, t4⟩ := take_w (ps.zip (loads ps)).length
    rw [List.take_length] at t1 t2 t3 t4
    rw [hs00] at t1 t2 t3 t4
    have q0 : (List.replicate zs.length ([] : List Nat)).length = zs.length := by simp
    have q1 : ({ heads := [], rooms := [], outs := List.replicate zs.length [] } : Can).outs.length = zs.length := q0
    have q2 : ({ heads := [], rooms := [], outs := List.replicate zs.length [] } : Can).heads.length = 0 := rfl
    refine ⟨t1, ?_, ?_, ?_⟩
    · unfold netCan; omega
    · unfold netCan; omega
    · unfold netCan; omega
  refine bm_permL (L1 := canH K c dxc ah ar ao oas (netCan zs ps) ++ [(f, filO K dxf FA), (nd, .dK (numK zs))]) List.perm_middle.symm ?_
  refine bm_can ho ?_
  refine bm_permL (L1 := (f, filO K dxf FA) :: (canF K c dxc ar (netCan zs ps).heads (netCan zs ps).rooms (netCan zs ps).outs ++ [(nd, .dK (numK zs))])) List.perm_middle ?_
  refine bm_forget (L1 := (f, filO K dxf FA) :: canF K c dxc ar (netCan zs ps).heads (netCan zs ps).rooms (netCan zs ps).outs) (.cons_cons _ (List.sublist_append_left ..)) ?_
  have look : ∀ k : Str, k ≠ "arcs" → k ≠ "starts" → k ≠ "finish" → k ≠ "amount" → List.lookup k FA = List.lookup k F7 := fun k h1 h2 h3 h4 => by
    rw [hFA, lookup_putG, if_neg h4, lookup_putG, if_neg h3, hF9, lookup_putG, if_neg h2, hF8, lookup_putG, if_neg h1]
  have hFil : FilF FA c (src.map (idx zs)) (tgt.map (idx zs)) 0 := by
    refine ⟨(look "canals" (by decide) (by decide) (by decide) (by decide)).trans f7c, ?_, ?_, ?_, ?_⟩
    · show List.lookup ("starts" : Str) FA = _
      rw [hFA, lookup_putG, if_neg (by decide), lookup_putG, if_neg (by decide), hF9, lookup_putG, if_pos rfl]
    · show List.lookup ("finish" : Str) FA = _
      rw [hFA, lookup_putG, if_neg (by decide), lookup_putG, if_pos rfl]
    · show List.lookup ("amount" : Str) FA = _
      rw [hFA, lookup_putG, if_pos rfl]
    · have a1 := putG_len "amount" (.d (.int 0)) (putG "finish" (.d (natL (tgt.map (idx zs)))) F9)
      have a2 := putG_len "finish" (.d (natL (tgt.map (idx zs)))) F9
      rw [hFA]
      omega
  have hcom : fldOf FA "common" = some (.d (.int (comm (widths ps)))) := (look "common" (by decide) (by decide) (by decide) (by decide)).trans (by rw [hF7]; rfl)
  have hwor : fldOf FA "worth" = none := (look "worth" (by decide) (by decide) (by decide) (by decide)).trans (by rw [hF7]; rfl)
  have hfil : fldOf FA "fill" = none := (look "fill" (by decide) (by decide) (by decide) (by decide)).trans (by rw [hF7]; rfl)
  obtain ⟨hW1, hW2, hW3, hW4⟩ := hW
  have rnn : ∀ x, 0 ≤ roomAt (netCan zs ps).rooms x := by
    have ln : ∀ r ∈ loads ps, (0 : Int) ≤ r := fun r hr => by
      obtain ⟨q, hq, rfl⟩ := List.mem_map.mp hr
      exact load_nn (wn q hq) cm0
    exact roomAt_nn (all_nn (sum_nn ln) (fun q hq => ln q.2 (List.of_mem_zip hq).2) fun r hr => by cases hr)
  have sz : ∀ rs : List Int, rs.length = (netCan zs ps).heads.length → Sizes (netCan zs ps).heads rs (netCan zs ps).outs := fun rs hr => ⟨⟨hW1.hl, hW1.wired⟩, hr, hW4, hW3, fun o ho => Nat.le_trans (hW1.ok.outs o ho) hW4⟩
  have stn : (src.map (idx zs)).Nodup := List.pairwise_map.mpr (hsn.imp_of_mem fun ha hb hne e => hne (idx_inj (plxs _ (hsx _ ha)) e))
  have stl : ∀ s ∈ src.map (idx zs), s < (netCan zs ps).outs.length := fun s hs => by
    obtain ⟨x, hx, rfl⟩ := List.mem_map.mp hs
    exact Nat.lt_of_lt_of_le (idx_lt (plxs x (hsx x hx))) hW2
  have fil : ∀ v ∈ tgt.map (idx zs), v < (netCan zs ps).outs.length ∧ v ∉ src.map (idx zs) := fun v hv => by
    obtain ⟨x, hx, rfl⟩ := List.mem_map.mp hv
    refine ⟨Nat.lt_of_lt_of_le (idx_lt (plxs x (htx x hx).1)) hW2, fun z => ?_⟩
    obtain ⟨y, hy, e⟩ := List.mem_map.mp z
    have := idx_inj (plxs y (hsx y hy)) e
    exact (htx x hx).2 (this ▸ hy)
  have adm0 : Adm (src.map (idx zs)) (tgt.map (idx zs)) (fun v => decide (v ∈ src.map (idx zs))) := ⟨fun s hs => decide_eq_true hs, fun v hv => decide_eq_false (fil v hv).2⟩
  refine bm_sm (sm_while (m0 := (cutR (netCan zs ps).heads (fun v => decide (v ∈ src.map (idx zs))) (netCan zs ps).rooms).toNat) (W := fun m G' L' => ∃ fs am rs, FilF fs c (src.map (idx zs)) (tgt.map (idx zs)) am ∧ fldOf fs "common" = some (.d (.int (comm (widths ps)))) ∧ fldOf fs "worth" = none ∧ fldOf fs "fill" = none ∧ FlowSt (netCan zs ps).heads (netCan zs ps).rooms (src.map (idx zs)) (tgt.map (idx zs)) am rs ∧ m = (cutR (netCan zs ps).heads (fun v => decide (v ∈ src.map (idx zs))) rs).toNat ∧ G'[0]? = some (some (.r f)) ∧ L' = (f, filO K dxf fs) :: canF K c dxc ar (netCan zs ps).heads rs (netCan zs ps).outs)
    (Rs := fun G' L' => ∃ fs am Lr, NetMin xs ps src tgt am ∧ fldOf fs "amount" = some (.d (.int am)) ∧ fldOf fs "common" = some (.d (.int (comm (widths ps)))) ∧ fldOf fs "worth" = none ∧ L' = (f, filO K dxf fs) :: Lr)
    ⟨FA, 0, _, hFil, hcom, hwor, hfil, flow_start hW1.ok.even rnn, rfl, rfl, rfl⟩ ?_) fun G' L' h => ⟨rfl, h⟩
  rintro m G1 L1 ⟨fs, am, rs, F, h1, h2, h3, fl, rfl, hG, rfl⟩
  refine tm_em (em_meth (a := f) (C := He.ga K "Filling") (dx := dxf) (fs := fs) (R := fun g L' => ∃ b, g = .d (.bool b) ∧ (b = true → SM K L' G1 tNext (fun G' L' => ∃ m', m' < (cutR (netCan zs ps).heads (fun v => decide (v ∈ src.map (idx zs))) rs).toNat ∧ ∃ fs am rs, FilF fs c (src.map (idx zs)) (tgt.map (idx zs)) am ∧ fldOf fs "common" = some (.d (.int (comm (widths ps)))) ∧ fldOf fs "worth" = none ∧ fldOf fs "fill" = none ∧ FlowSt (netCan zs ps).heads (netCan zs ps).rooms (src.map (idx zs)) (tgt.map (idx zs)) am rs ∧ m' = (cutR (netCan zs ps).heads (fun v => decide (v ∈ src.map (idx zs))) rs).toNat ∧ G'[0]? = some (some (.r f)) ∧ L' = (f, filO K dxf fs) :: canF K c dxc ar (netCan zs ps).heads rs (netCan zs ps).outs)) ∧ (b = false → ∃ fs am Lr, NetMin xs ps src tgt am ∧ fldOf fs "amount" = some (.d (.int am)) ∧ fldOf fs "common" = some (.d (.int (comm (widths ps)))) ∧ fldOf fs "worth" = none ∧ L' = (f, filO K dxf fs) :: Lr)) (ev_var hG) List.mem_cons_self h3 am_nil ?_) fun g L' h => h
  rintro gs L2 ⟨rfl, rfl⟩
  refine ⟨(f, filO K dxf fs) :: canF K c dxc ar (netCan zs ps).heads rs (netCan zs ps).outs, [], _, by rw [List.append_nil], ⟨rfl, f, dxf, fs, c, dxc, ar, (netCan zs ps).heads, rs, (netCan zs ps).outs, src.map (idx zs), tgt.map (idx zs), am, F, sz rs fl.len, stn, stl, by rw [List.length_map]; omega, fil, rfl, rfl, rfl⟩, ?_⟩
  rintro g L' (⟨rfl, rfl, bs, rc, hno⟩ | ⟨rfl, e, he, as, m', pu, rfl⟩)
  · rw [List.append_nil]
    refine ⟨false, rfl, (fun z => by cases z), fun _ => ⟨fs, am, _, ?_, F.a_, h1, h2, rfl⟩⟩
    unfold NetMin
    rw [← hzs]
    refine flow_end (outs := (netCan zs ps).outs) fl rc hno fun a ha => ?_
    obtain ⟨u, o, k1, k2, k3⟩ := hW1.full a ha
    exact ⟨u, _, o, k1, List.getElem?_eq_getElem ha, (List.getElem?_eq_some_iff.mp k2).1, hW1.hl a _ (List.getElem?_eq_getElem ha), k2, k3⟩
  · rw [List.append_nil]
    obtain ⟨f1, f2, f3⟩ := flow_push fl he pu
    refine ⟨true, rfl, fun _ => sm_imp sm_next ?_, (fun z => by cases z)⟩
    rintro G2 L3 ⟨rfl, rfl⟩
    have key := f3 _ adm0
    have nn := cut_nn (heads := (netCan zs ps).heads) (S := fun v => decide (v ∈ src.map (idx zs))) f1.nn
    refine ⟨_, ?_, _, am + m', _, F.put (am + m'), ?_, ?_, ?_, f1, rfl, hG, rfl⟩
    · omega
    · show List.lookup ("common" : Str) (putG "amount" _ fs) = _
      rw [lookup_putG, if_neg (by decide)]
      exact h1
    · show List.lookup ("worth" : Str) (putG "amount" _ fs) = _
      rw [lookup_putG, if_neg (by decide)]
      exact h2
    · show List.lookup ("fill" : Str) (putG "amount" _ fs) = _
      rw [lookup_putG, if_neg (by decide)]
      exact h3⟩
end
end K13
namespace K13
open PySem PySem.Spec PyProof.Rows L2
open Evl (Ex fresh_back ex_l ex_t)
/-- one step of reading an expression's worth -/
local macro_rules | `(tactic| walk_at "eg1") => `(tactic| first
  | exact eg_var rfl | exact eg_int | exact eg_str | exact eg_bl | exact eg_non | exact tg_yes | exact og_none
  | apply og_some
  | apply tg_test | apply tg_B | apply tg_not | apply eg_notV | apply eg_neg
  | apply eg_isi
  | apply eg_ixT | apply eg_ixL
  | apply eg_cmp | apply eg_i0 | apply eg_ic
  | apply eg_op (hr := rg_eqI) | apply eg_op (hr := rg_eqS) | apply eg_op (hr := rg_neI) | apply eg_op (hr := rg_neS)
  | apply eg_cb (hr := cg_gcd)
  | exact (rfl : atI _ _ = _) | exact (rfl : kitB _ _ = _)
  | exact ag_nil | apply ag_cons
  | exact (by assumption : EG _ _ _ _ _) | apply eg_tup | apply eg_lst | exact Nat.le_of_ble_eq_true rfl)
local macro_rules | `(tactic| walk_at "eg") => `(tactic| repeat' walk_at "eg1")
theorem isMin_unique {heads : List Nat} {rooms : List Int} {starts finish : List Nat} {a b : Int} (h : IsMin heads rooms starts finish a) (k : IsMin heads rooms starts finish b) : a = b := by
  obtain ⟨S, s1, s2⟩ := h.eq
  obtain ⟨U, u1, u2⟩ := k.eq
  have h1 := h.le U u1
  have k1 := k.le S s1
  omega
theorem min_exists {heads : List Nat} {rooms : List Int} {starts finish : List Nat} (nn : ∀ x, 0 ≤ roomAt rooms x) {S : Nat → Bool} (hS : Adm starts finish S) : ∃ am, IsMin heads rooms starts finish am := by
  have gen : ∀ n : Nat, (∃ S, Adm starts finish S ∧ (cutR heads S rooms).toNat ≤ n) → ∃ am, IsMin heads rooms starts finish am := by
    intro n
    induction n with
    | zero =>
      rintro ⟨S, h1, h2⟩
      have h3 := cut_nn (heads := heads) (S := S) nn
      exact ⟨cutR heads S rooms, fun U hU => by have := cut_nn (heads := heads) (S := U) nn; omega, S, h1, rfl⟩
    | succ n ih =>
      rintro ⟨S, h1, h2⟩
      by_cases c : ∃ S, Adm starts finish S ∧ (cutR heads S rooms).toNat ≤ n
      · exact ih c
      · have h3 := cut_nn (heads := heads) (S := S) nn
        refine ⟨cutR heads S rooms, fun U hU => ?_, S, h1, rfl⟩
        have h4 := cut_nn (heads := heads) (S := U) nn
        have : ¬ (cutR heads U rooms).toNat ≤ n := fun z => c ⟨U, hU, z⟩
        omega
  exact gen _ ⟨S, hS, Nat.le_refl _⟩
section
variable {P : Program} {w : World} {K : PySem.W.Frag} {mg : Str → Option Value} {base : Heap} {L : SH} {G : Gm} {te : TE} {ts : TS} {R : GV → SH → Prop}
/-- e.m() of an object just made -/
theorem em_methM {Q0 : List GV → SH → (GV → SH → Prop) → Prop} {E : XK} {C : Addr} {m : Str} {R1 : GV → SH → Prop} (ho : EM K L G te R1) (hR : ∀ g L1, R1 g L1 → ∃ a dx fs Lf Lr R0, g = .r a ∧ (a, MO.ins C dx fs) ∈ L1 ∧ fs.lookup m = none ∧ L1.Perm (Lf ++ Lr) ∧ Q0 [.r a] Lf R0 ∧ ∀ g L', R0 g L' → R g (L' ++ Lr)) : EM K L G (tMeth C m (spM K Q0) [] E te tNil) R := fun σ N H n ex Q q =>
  ho σ N H n ex _ fun x g L1 N1 H1 t1 m1 k1 r1 => by
    obtain ⟨a, dx, fs, Lf, Lr, R0, rfl, hm, hf, hp, hP, hR⟩ := hR g L1 r1
    obtain rfl : x = .ref a := k1
    obtain ⟨_, vs0, e1, e2⟩ := m1.at_ _ _ hm
    refine ⟨a, dx, vs0, rfl, e1, kv_none e2 hf, [.r a], Lf, N1, R0, t1.b, by rw [List.append_nil]; exact .cons rfl .nil, ms_sub m1 hp, hP, fun v g L2 N2 H2 t2 m2 k2 r2 => ?_⟩
    obtain ⟨t3, m3⟩ := tr_frame m1 hp t2 m2
    exact q v g (L2 ++ Lr) N2 H2 (t1.trans t3) m3 k2 (hR g L2 r2)
def P_wall_of (ds : List PyData) (d : PyData) : Prop := ∃ xs ps lot am, NetOk xs ps ∧ lot.Nodup ∧ lot.length ≤ 1000 ∧ (∀ x ∈ lot, x ∈ xs) ∧ NetMin xs ps lot (otherF xs lot) am ∧ ds = [netD xs ps, strsD lot] ∧ d = numD (red am (comm (widths ps)))
abbrev s_wall_of : Stmt := top 55
abbrev N_wall_of : List Str := ["net", "lot"]
theorem sc_wall_of : FnScope N_wall_of ["net", "lot"] (defScope s_wall_of) := C8.fnScope_by (by decide +kernel)
theorem ok_wall_of (T : Tx w K mg base) : Cl P w K mg base CX0 5 "wall_of" (spD K fun ds d => ds.length = 2 ∧ P_wall_of ds d) := cl_pureM T.d_wall_of T.g_wall_of sc_wall_of (fun _ _ h => h.1) (fun _ _ _ _ _ _ us hl => match us, hl with | [_, _], _ => rfl) fun cdv A outer s H E ds d hr h => ⟨_,
  (pss_one (ps_ret (pmt0 (ok_Filling_worth T) hr (by decide) pass0 (pini (ok_Filling___init__ T) hr (by decide) pass0 (by rfl) (pa_cons (pv 0) (pa_cons (pv 1) (pa_cons (pcl (ok_other_taps T) hr (by decide) pass0 (by rfl) (pa_cons (pe_ix (ix_tupK K rfl) (pv 0) pe_int (fun _ _ => rfl)) (pa_cons (pv 1) pa_nil))) pa_nil))))))), by
  replace h := h.2
 
  obtain ⟨xs, ps, lot, am, n, ln, ll, lx, hmin, rfl, rfl⟩ := h
  have wn : ∀ q ∈ widths ps, Num q := fun q hq => by
    obtain ⟨p, hp, rfl⟩ := List.mem_map.mp hq
    exact (n.ok p hp).num
  obtain ⟨cm0, cmd, _⟩ := comm_ok wn (c := 1) (by decide) (by decide)
  have cml := Int.le_of_dvd (by decide) cmd
  have hxl := n.taps.hi
  have oth : (otherF xs lot).length ≤ 1000 := Nat.le_trans (List.length_filter_le _ _) (by omega)
  refine bm_ret (em_methM (R1 := fun g L' => ∃ f dxf fs Lr, g = .r f ∧ fldOf fs "amount" = some (.d (.int am)) ∧ fldOf fs "common" = some (.d (.int (comm (widths ps)))) ∧ fldOf fs "worth" = none ∧ L' = (f, filO K dxf fs) :: Lr) (em_make (C := He.ga K "Filling") (gs := [.d (netD xs ps), .d (strsD lot), .d (strsD (otherF xs lot))]) (av_cons (ev_d (eg_var rfl)) (av_cons (ev_d (eg_var rfl)) (av_cons (ev_d (eg_call (ag_cons (eg_ixT (d := strsD xs) (eg_var rfl) eg_int rfl) (ag_cons (eg_var rfl) ag_nil)) ⟨rfl, xs, lot, by omega, rfl, rfl⟩)) av_nil))) ?_) ?_)
  · intro f dxf
    refine ⟨_, ⟨rfl, f, dxf, xs, ps, lot, otherF xs lot, n, ln, ll, oth, lx, fun x hx => ⟨other_mem hx, ?_⟩, rfl, rfl, rfl⟩, ?_⟩
    · have := (List.mem_filter.mp hx).2
      simpa using this
    · rintro g L' ⟨rfl, fs, am', Lr, hm', h1, h2, h3, rfl⟩
      have e : am' = am := isMin_unique hm' hmin
      subst e
      exact ⟨rfl, f, dxf, fs, Lr ++ [], rfl, h1, h2, h3, rfl⟩
  · rintro g L1 ⟨f, dxf, fs, Lr, rfl, h1, h2, h3, rfl⟩
    exact ⟨f, dxf, fs, [(f, filO K dxf fs)], Lr, _, rfl, List.mem_cons_self, h3, .refl _, ⟨rfl, f, dxf, fs, am, comm (widths ps), cm0, by unfold comm; omega, h1, h2, rfl, rfl, rfl⟩, fun g L' h => h.1⟩⟩
def P_alike_nets (ds : List PyData) (d : PyData) : Prop := ∃ xs ps qs, ∃ (ap aq : List Str → Int), NetOk xs ps ∧ NetOk xs qs ∧ (∀ lot ∈ lotsF xs, NetMin xs ps lot (otherF xs lot) (ap lot) ∧ NetMin xs qs lot (otherF xs lot) (aq lot) ∧ red (ap lot) (comm (widths ps)) = red (aq lot) (comm (widths qs))) ∧ ds = [netD xs ps, netD xs qs] ∧ d = .bool true
theorem subs_nd {xs l : List Str} (nd : xs.Nodup) (h : l ∈ subs xs) : l.Nodup := by
  have : ∀ (ys zs : List Str) (f : List (List Str)), (zs ++ ys).Nodup → (∀ l ∈ f, l.Nodup ∧ ∀ y ∈ l, y ∈ zs) → ∀ l ∈ ys.foldl (fun f t => f ++ f.map (· ++ [t])) f, l.Nodup := by
    intro ys
    induction ys with
    | nil => intro zs f _ h l hl; exact (h l hl).1
    | cons t ts ih =>
      intro zs f nd h l hl
      have nd' : ((zs ++ [t]) ++ ts).Nodup := by simpa using nd
      have hz : t ∉ zs := fun z => (List.nodup_append.mp nd).2.2 t z t (by simp) rfl
      refine ih (zs ++ [t]) (f ++ f.map (· ++ [t])) nd' (fun l hl => ?_) l hl
      rcases List.mem_append.mp hl with q | q
      · exact ⟨(h l q).1, fun y hy => List.mem_append_left _ ((h l q).2 y hy)⟩
      · obtain ⟨k, hk, rfl⟩ := List.mem_map.mp q
        obtain ⟨k1, k2⟩ := h k hk
        refine ⟨List.nodup_append.mpr ⟨k1, by simp, fun a ha b hb e => ?_⟩, fun y hy => ?_⟩
        · simp at hb
          subst hb
          subst e
          exact hz (k2 a ha)
        · rcases List.mem_append.mp hy with z | z
          · exact List.mem_append_left _ (k2 y z)
          · exact List.mem_append_right _ z
  exact this xs [] [[]] (by simpa using nd) (fun l hl => by simp at hl; subst hl; exact ⟨.nil, fun y hy => by cases hy⟩) l h
theorem asc_nd {xs : List Str} (h : xs.Pairwise SLt) : xs.Nodup := h.imp fun h e => by
  subst e
  exact List.lt_irrefl _ h
theorem lots_ok {xs lot : List Str} (t : Taps xs) (h : lot ∈ lotsF xs) : lot.Nodup ∧ lot.length ≤ 1000 ∧ ∀ x ∈ lot, x ∈ xs := by
  obtain ⟨h1, h2, h3⟩ := lots_mem h
  have := t.hi
  exact ⟨subs_nd (asc_nd t.nm.asc) h1, by omega, subs_mem h1⟩
theorem numD_shaped (q : Q2) : SeqAt.shaped (numD q) = true := by
  unfold numD
  split <;> rfl
theorem numD_eqv (q : Q2) : PyData.eqv (numD q) (numD q) = true := by
  unfold numD
  split
  · simp [PyData.eqv]
  · simp [PyData.eqv, PyData.eqvAll]
abbrev s_alike_nets : Stmt := top 57
abbrev N_alike_nets : List Str := ["net", "another", "lot"]
theorem sc_alike_nets : FnScope N_alike_nets ["net", "another"] (defScope s_alike_nets) := C8.fnScope_by (by decide +kernel)
theorem ok_alike_nets (T : Tx w K mg base) : Cl P w K mg base CX0 7 "alike_nets" (spD K fun ds d => ds.length = 2 ∧ P_alike_nets ds d) := cl_pure T.d_alike_nets T.g_alike_nets sc_alike_nets (fun _ _ h => h.1) (fun _ _ _ _ _ _ us hl => match us, hl with | [_, _], _ => rfl) fun cdv A outer s H E ds d hr h => ⟨_,
  (pss_cons (ps_expr (pcl (ok_need_net T) hr (by decide) pass0 (by rfl) (pa_cons (pv 0) pa_nil)))
  (pss_cons (ps_expr (pcl (ok_need_net T) hr (by decide) pass0 (by rfl) (pa_cons (pv 1) pa_nil)))
  (pss_cons (ps_if (pt_cmpR (op_neDK K rfl hr.units) (pe_ix (ix_tupK K rfl) (pv 0) pe_int (fun _ _ => rfl)) (pe_ix (ix_tupK K rfl) (pv 1) pe_int (fun _ _ => rfl)) (nomark _))
    (pss_one (ps_ret pe_bl))
    pss_nil)
  (pss_one (ps_ret (pe_callB (cr_all rfl) (by rfl) T.n_all bt_all (pa_cons (pe_lc (own := [("lot", 2)]) rfl sc_alike_nets.nd (pi_list (pcl (ok_lots T) hr (by decide) pass0 (by rfl) (pa_cons (pe_ix (ix_tupK K rfl) (pv 0) pe_int (fun _ _ => rfl)) pa_nil))) (blkOk_by (own := [("lot", 2)]) (N := N_alike_nets) (sc := defScope s_alike_nets) (by decide +kernel)) (fun _ _ _ _ _ => (pg_name (i := 2) sc_alike_nets.nd rfl (Or.inl rfl))) (fun _ _ _ _ _ => pts_nil) (fun _ _ _ _ _ => (pe_cmpR (op_eqDK K rfl hr.units) (pcl (ok_wall_of T) hr (by decide) pass0 (by rfl) (pa_cons (pv 0) (pa_cons (pv 2) pa_nil))) (pcl (ok_wall_of T) hr (by decide) pass0 (by rfl) (pa_cons (pv 1) (pa_cons (pv 2) pa_nil))) (nomark _)))) pa_nil))))))), by
  replace h := h.2
 
  obtain ⟨xs, ps, qs, ap, aq, n, n', hall, rfl, rfl⟩ := h
  have hl : (lotsF xs).length ≤ 64 := by
    unfold lotsF sortL
    rw [List.length_mergeSort]
    have h1 := subs_len (xs := xs)
    have h2 : 2 ^ xs.length ≤ 2 ^ 6 := Nat.pow_le_pow_right (by decide) n.taps.hi
    exact Nat.le_trans (List.length_filter_le _ _) (by omega)
  refine bg_drop (eg_call (ag_cons (eg_var rfl) ag_nil) ⟨rfl, xs, ps, n, rfl, rfl⟩) (bg_drop (eg_call (ag_cons (eg_var rfl) ag_nil) ⟨rfl, xs, qs, n', rfl, rfl⟩) ?_)
  refine bg_skip (b := false) (tg_of (tg_test (eg_neD (d := strsD xs) (e := strsD xs) (eg_ixT (eg_var rfl) eg_int rfl) (eg_ixT (eg_var rfl) eg_int rfl) (shaped_strs n.taps.nm.ok) (shaped_strs n.taps.nm.ok))) (by rw [eqv_strsD]; simp)) rfl ?_
  refine bg_ret (eg_of (eg_cb (ag_cons (eg_lcA (f := fun _ : List Str => .bool true) (ig_lst (g := strsD) (xs := lotsF xs) (eg_call (ag_cons (eg_ixT (d := strsD xs) (eg_var rfl) eg_int rfl) ag_nil) ⟨rfl, xs, n.taps, rfl, rfl⟩)) (by omega) (fun j hj => by simpa using hj) fun lot hlot => ?_) ag_nil) (cg_allM (f := fun _ => true))) (by simp))
  obtain ⟨k1, k2, k3⟩ := hall lot hlot
  obtain ⟨l1, l2, l3⟩ := lots_ok n.taps hlot
  refine eg_of (eg_eqD (eg_call (ag_cons (eg_var rfl) (ag_cons (eg_var rfl) ag_nil)) ⟨rfl, xs, ps, lot, ap lot, n, l1, l2, l3, k1, rfl, rfl⟩) (eg_call (ag_cons (eg_var rfl) (ag_cons (eg_var rfl) ag_nil)) ⟨rfl, xs, qs, lot, aq lot, n', l1, l2, l3, k2, rfl, rfl⟩) (numD_shaped _) (numD_shaped _)) ?_
  rw [k3, numD_eqv]⟩
end
end K13
namespace K13
open PySem PySem.Spec PyProof.Rows L2
open Evl (Ex fresh_back ex_l ex_t)
/-- one step of reading an expression's worth -/
local macro_rules | `(tactic| walk_at "eg1") => `(tactic| first
  | exact eg_var rfl | exact eg_int | exact eg_str | exact eg_bl | exact eg_non | exact tg_yes | exact og_none
  | apply og_some
  | apply tg_test | apply tg_B | apply tg_not | apply eg_notV | apply eg_neg
  | apply eg_isi
  | apply eg_ixT | apply eg_ixL
  | apply eg_cmp | apply eg_i0 | apply eg_ic
  | apply eg_op (hr := rg_eqI) | apply eg_op (hr := rg_eqS) | apply eg_op (hr := rg_neI) | apply eg_op (hr := rg_neS)
  | apply eg_cb (hr := cg_gcd)
  | exact (rfl : atI _ _ = _) | exact (rfl : kitB _ _ = _)
  | exact ag_nil | apply ag_cons
  | exact (by assumption : EG _ _ _ _ _) | apply eg_tup | apply eg_lst | exact Nat.le_of_ble_eq_true rfl)
local macro_rules | `(tactic| walk_at "eg") => `(tactic| repeat' walk_at "eg1")
section
variable {P : Program} {w : World} {K : PySem.W.Frag} {mg : Str → Option Value} {base : Heap} {L : SH} {G : Gm} {te : TE} {ts : TS} {R : GV → SH → Prop}
theorem bm_drop (h : EG K L G te e) (k : BM K L G tz R) : BM K L G (tSeq (tDrop te) tz) R := fun σ N H D n ex q1 q2 =>
  h σ N H n ex _ fun v N1 H1 w1 _ => k σ N1 H1 D (n.step w1) w1.b (fun v g L2 N2 H2 t2 => q1 v g L2 N2 H2 ((Tr.of w1).trans t2)) fun σ2 L2 N2 H2 t2 => q2 σ2 L2 N2 H2 ((Tr.of w1).trans t2)
theorem kind_sort (ps : List Part) : kindF ps ∈ sortsL := by
  unfold kindF
  split
  · decide +kernel
  · split <;> decide +kernel
def lotK (lot : List Str) : List Key := lot.map .inr
def wallsG (ps : List Part) (am : List Str → Int) (ls : List (List Str)) : List (List Key × GV) :=
  ls.foldl (fun acc lot => putGK acc (lotK lot) (.d (numD (red (am lot) (comm (widths ps)))))) []
def P_walls (_K : PySem.W.Frag) (gs : List GV) (L : SH) (Z : GV → SH → Prop) : Prop := ∃ xs ps am, NetOk xs ps ∧ (∀ lot ∈ plainsF xs (kindF ps), NetMin xs ps lot (otherF xs lot) (am lot)) ∧ gs = [.d (netD xs ps)] ∧
  Z = fun g L' => ∃ p, g = .r p ∧ L' = (p, .dT (wallsG ps am (plainsF xs (kindF ps)))) :: L
abbrev s_walls : Stmt := top 56
abbrev N_walls : List Str := ["net", "lot"]
theorem sc_walls : FnScope N_walls ["net"] (defScope s_walls) := C8.fnScope_by (by decide +kernel)
theorem ok_walls (T : Tx w K mg base) : Cl P w K mg base CX0 7 "walls" (spM K fun gs L Z => gs.length = 1 ∧ P_walls K gs L Z) := cl_mut T.d_walls T.g_walls sc_walls (fun _ _ _ h => h.1) (fun _ _ _ _ _ _ us hl => match us, hl with | [_], _ => rfl) fun cdv A outer s H E gs L Z hr h => ⟨_,
  (pss_cons (ps_expr (pcl (ok_need_net T) hr (by decide) pass0 (by rfl) (pa_cons (pv 0) pa_nil)))
  (pss_one (ps_ret (pe_dcTn (room := hr.units0) (own := [("lot", 1)]) rfl sc_walls.nd (pi_list (pcl (ok_plain_lots T) hr (by decide) pass0 (by rfl) (pa_cons (pe_ix (ix_tupK K rfl) (pv 0) pe_int (fun _ _ => rfl)) (pa_cons (pcl (ok_kind_of T) hr (by decide) pass0 (by rfl) (pa_cons (pv 0) pa_nil)) pa_nil)))) (blkOk_by (own := [("lot", 1)]) (N := N_walls) (sc := defScope s_walls) (by decide +kernel)) (fun _ _ _ _ _ => (pg_name (i := 1) sc_walls.nd rfl (Or.inl rfl))) (fun _ _ _ _ _ => pts_nil) (fun _ _ _ _ _ => (pv 1)) (fun _ _ _ _ _ => (pcl (ok_wall_of T) hr (by decide) pass0 (by rfl) (pa_cons (pv 0) (pa_cons (pv 1) pa_nil)))))))), by
  replace h := h.2
 
  obtain ⟨xs, ps, am, n, hall, rfl, rfl⟩ := h
  have hl : ∀ lot ∈ plainsF xs (kindF ps), lot ∈ lotsF xs := fun lot h => by
    unfold plainsF at h
    split at h
    · exact h
    · exact (List.mem_filter.mp h).1
  have few : (lotsF xs).length ≤ 64 := by
    unfold lotsF sortL
    rw [List.length_mergeSort]
    have h1 := subs_len (xs := xs)
    have h2 : 2 ^ xs.length ≤ 2 ^ 6 := Nat.pow_le_pow_right (by decide) n.taps.hi
    exact Nat.le_trans (List.length_filter_le _ _) (by omega)
  have few2 : (plainsF xs (kindF ps)).length ≤ 64 := by
    unfold plainsF
    split
    · exact few
    · exact Nat.le_trans (List.length_filter_le _ _) few
  refine bm_drop (eg_call (ag_cons (eg_var rfl) ag_nil) ⟨rfl, xs, ps, n, rfl, rfl⟩) (bm_ret (em_dcT (zs := plainsF xs (kindF ps)) (kf := lotK) (vf := fun lot => .d (numD (red (am lot) (comm (widths ps)))))
    (ig_lst (g := strsD) (xs := plainsF xs (kindF ps)) (eg_call (ag_cons (eg_ixT (d := strsD xs) (eg_var rfl) eg_int rfl) (ag_cons (eg_call (d := .str (kindF ps)) (ag_cons (eg_var rfl) ag_nil) ⟨rfl, xs, ps, by have := n.len; omega, rfl, rfl⟩) ag_nil)) ⟨rfl, xs, kindF ps, n.taps, kind_sort ps, rfl, rfl⟩)) (by omega) (fun j hj => by simpa using hj) (fun lot hlot => ?_) (fun lot hlot => ?_)))
  · refine eg_of (eg_var rfl) ?_
    simp only [strsD, lotK, List.map_map]
    rfl
  · obtain ⟨l1, l2, l3⟩ := lots_ok n.taps (hl lot hlot)
    exact ev_d (eg_call (ag_cons (eg_var rfl) (ag_cons (eg_var rfl) ag_nil)) ⟨rfl, xs, ps, lot, am lot, n, l1, l2, l3, hall lot hlot, rfl, rfl⟩)⟩
end
end K13
namespace K13
open PySem PySem.Spec PyProof.Rows L2
open Evl (Ex fresh_back ex_l ex_t)
/-- one step of reading an expression's worth -/
local macro_rules | `(tactic| walk_at "eg1") => `(tactic| first
  | exact eg_var rfl | exact eg_int | exact eg_str | exact eg_bl | exact eg_non | exact tg_yes | exact og_none
  | apply og_some
  | apply tg_test | apply tg_B | apply tg_not | apply eg_notV | apply eg_neg
  | apply eg_isi
  | apply eg_ixT | apply eg_ixL
  | apply eg_cmp | apply eg_i0 | apply eg_ic
  | apply eg_op (hr := rg_eqI) | apply eg_op (hr := rg_eqS) | apply eg_op (hr := rg_neI) | apply eg_op (hr := rg_neS)
  | apply eg_cb (hr := cg_gcd)
  | exact (rfl : atI _ _ = _) | exact (rfl : kitB _ _ = _)
  | exact ag_nil | apply ag_cons
  | exact (by assumption : EG _ _ _ _ _) | apply eg_tup | apply eg_lst | exact Nat.le_of_ble_eq_true rfl)
local macro_rules | `(tactic| walk_at "eg") => `(tactic| repeat' walk_at "eg1")
section
variable {P : Program} {w : World} {K : PySem.W.Frag} {mg : Str → Option Value} {base : Heap} {L : SH} {G : Gm} {te : TE} {ts : TS} {R : GV → SH → Prop}
theorem cg_abs {a : Int} : CG K (fun xs H Q => ∃ i, xs = [V.int i] ∧ Q (.int (if i < 0 then -i else i)) H) [.int a] (.int (a.natAbs : Nat)) := by
  have e : (a.natAbs : Int) = if a < 0 then -a else a := by split <;> omega
  rw [e]
  exact cg_val (fun _ => .int _) fun vs H N ex h Q q => by
    cases h with
    | cons a1 a2 =>
      cases a2
      rw [dp_int a1]
      exact ⟨a, rfl, q⟩
theorem cg_int1 {a : Int} : CG K (fun xs H Q => (∃ i, xs = [V.int i] ∧ Q (.int i) H) ∨ ∃ k, xs = [V.bl k] ∧ Q (.int (if k then 1 else 0)) H) [.int a] (.int a) := cg_val (fun _ => .int _) fun vs H N ex h Q q => by
  cases h with
  | cons a1 a2 =>
    cases a2
    rw [dp_int a1]
    exact .inl ⟨a, rfl, q⟩
def P__law_ct_gcd (ds : List PyData) (d : PyData) : Prop := ∃ a b : Int, ds = [.int a, .int b] ∧ d = .int (Int.gcd a b : Nat)
def P__law_ct_made (ds : List PyData) (d : PyData) : Prop := ∃ t b : Int, 0 < b ∧ b < 1073741824 ∧ ds = [.int t, .int b] ∧ d = numD (red t b)
def P__law_ct_top (ds : List PyData) (d : PyData) : Prop := ∃ q, ds = [numD q] ∧ d = .int q.1
def P__law_ct_low (ds : List PyData) (d : PyData) : Prop := ∃ q, ds = [numD q] ∧ d = .int q.2
def P__law_ct_times (ds : List PyData) (d : PyData) : Prop := ∃ q r, Num q ∧ Num r ∧ ds = [numD q, numD r] ∧ d = numD (red (q.1 * r.1) (q.2 * r.2))
def P__law_ct_common (ds : List PyData) (d : PyData) : Prop := ∃ qs : List Q2, (∀ q ∈ qs, Num q) ∧ qs.length ≤ 1000000 ∧ ds = [.list (qs.map numD)] ∧ d = .int (comm qs)
abbrev s__law_ct_gcd : Stmt := top 66
abbrev N__law_ct_gcd : List Str := ["_law_one", "_law_other", "_law_a", "_law_b"]
theorem sc__law_ct_gcd : FnScope N__law_ct_gcd ["_law_one", "_law_other"] (defScope s__law_ct_gcd) := C8.fnScope_by (by decide +kernel)
theorem ok__law_ct_gcd (T : Tx w K mg base) : Cl P w K mg base CX0 1 "_law_ct_gcd" (spD K fun ds d => ds.length = 2 ∧ P__law_ct_gcd ds d) := cl_pureM T.d__law_ct_gcd T.g__law_ct_gcd sc__law_ct_gcd (fun _ _ h => h.1) (fun _ _ _ _ _ _ us hl => match us, hl with | [_, _], _ => rfl) fun cdv A outer s H E ds d hr h => ⟨_,
  (pss_cons (ps_par (i := 2) (j := 3) (by rfl) sc__law_ct_gcd.nd rfl rfl (by decide) rfl rfl (pa_cons (pe_callB call_abs (by rfl) T.n_abs bt_abs (pa_cons (pv 0) pa_nil)) (pa_cons (pe_callB call_abs (by rfl) T.n_abs bt_abs (pa_cons (pv 1) pa_nil)) pa_nil)) (by rfl))
  (pss_cons (ps_while PassesOwn.never (pt_cmpR op_ne (pv 3) pe_int (nomark _))
    (pss_one (ps_par (i := 2) (j := 3) (by rfl) sc__law_ct_gcd.nd rfl rfl (by decide) rfl rfl (pa_cons (pv 3) (pa_cons (pe_op op_mod (pe_callTy call_int1 (by rfl) T.n_int bt_int (pa_cons (pv 2) pa_nil)) (pv 3)) pa_nil)) (by rfl))))
  (pss_one (ps_ret (pv 2))))), by
  replace h := h.2
 
  obtain ⟨a, b, rfl, rfl⟩ := h
  refine bm_seq (sm_sg (sg_par (ag_cons (eg_cb (ag_cons (eg_var rfl) ag_nil) cg_abs) (ag_cons (eg_cb (ag_cons (eg_var rfl) ag_nil) cg_abs) ag_nil)))) ?_
  rintro _ _ ⟨rfl, rfl⟩
  refine bm_seq (sm_while (m0 := b.natAbs) (W := fun m G' L' => ∃ x y : Nat, G' = [some (.d (.int a)), some (.d (.int b)), some (.d (.int (x : Nat))), some (.d (.int (y : Nat)))] ∧ L' = [] ∧ m = y ∧ Nat.gcd x y = Int.gcd a b)
    (Rs := fun G' L' => G' = [some (.d (.int a)), some (.d (.int b)), some (.d (.int (Int.gcd a b : Nat))), some (.d (.int 0))] ∧ L' = []) ⟨a.natAbs, b.natAbs, rfl, rfl, rfl, rfl⟩ ?_) ?_
  · rintro y _ _ ⟨x, _, rfl, rfl, rfl, e⟩
    refine tm_imp (tm_tg (tg_test (eg_op (eg_var rfl) eg_int rg_neI))) ?_
    rintro _ _ ⟨rfl, rfl⟩
    refine ⟨fun hy => ?_, fun hy => ?_⟩
    · have hy0 : 0 < y := by simp at hy; omega
      refine sm_imp (sm_sg (sg_par (ag_cons (eg_var rfl) (ag_cons (eg_ic (eg_cb (ag_cons (eg_var rfl) ag_nil) cg_int1) (eg_var rfl) (by omega)) ag_nil)))) ?_
      rintro _ _ ⟨rfl, rfl⟩
      exact ⟨x % y, Nat.mod_lt _ hy0, y, x % y, by simp, rfl, rfl, by rw [← e, Nat.gcd_comm x y, Nat.gcd_rec y x, Nat.gcd_comm]⟩
    · have hy0 : y = 0 := by simp at hy; omega
      subst hy0
      rw [Nat.gcd_zero_right] at e
      rw [e]
      exact ⟨rfl, rfl⟩
  · rintro _ _ ⟨rfl, rfl⟩
    exact bm_imp (bm_ret (em_eg (eg_var rfl))) fun g L' h => h.1⟩
abbrev s__law_ct_made : Stmt := top 67
abbrev N__law_ct_made : List Str := ["_law_top", "_law_bottom", "_law_common", "_law_high", "_law_low"]
theorem sc__law_ct_made : FnScope N__law_ct_made ["_law_top", "_law_bottom"] (defScope s__law_ct_made) := C8.fnScope_by (by decide +kernel)
theorem ok__law_ct_made (T : Tx w K mg base) : Cl P w K mg base CX0 2 "_law_ct_made" (spD K fun ds d => ds.length = 2 ∧ P__law_ct_made ds d) := cl_pure T.d__law_ct_made T.g__law_ct_made sc__law_ct_made (fun _ _ h => h.1) (fun _ _ _ _ _ _ us hl => match us, hl with | [_, _], _ => rfl) fun cdv A outer s H E ds d hr h => ⟨_,
  (pss_cons (ps_set (i := 2) sc__law_ct_made.nd rfl (Or.inl rfl) (pcl (ok__law_ct_gcd T) hr (by decide) pass0 (by rfl) (pa_cons (pv 0) (pa_cons (pv 1) pa_nil))))
  (pss_cons (ps_set (i := 2) sc__law_ct_made.nd rfl (Or.inl rfl) (pe_ifExp (pt_cmpR op_gt (pv 1) pe_int (nomark _)) (pv 2) (pe_op op_sub pe_int (pv 2))))
  (pss_cons (ps_par (i := 3) (j := 4) (by rfl) sc__law_ct_made.nd rfl rfl (by decide) rfl rfl (pa_cons (pe_op op_fdiv (pv 0) (pv 2)) (pa_cons (pe_op op_fdiv (pv 1) (pv 2)) pa_nil)) (by rfl))
  (pss_one (ps_ret (pe_ifExp (pt_cmpR op_eq (pv 4) pe_int (nomark _)) (pv 3) (pe_tup (pa_cons (pv 3) (pa_cons (pv 4) pa_nil))))))))), by
  replace h := h.2
 
  obtain ⟨t, b, hb, hb2, rfl, rfl⟩ := h
  have g1 := gcd_pos' (t := t) hb
  have g2 := gcd_le' (t := t) hb
  refine bg_asg (eg_call (ag_cons (eg_var rfl) (ag_cons (eg_var rfl) ag_nil)) ⟨rfl, t, b, rfl, rfl⟩) ?_
  refine bg_asg (e := .int (Int.gcd t b : Nat)) (eg_if (b := decide (0 < b)) ?_ (fun _ => ?_) fun z => by simp [hb] at z) ?_
  · exact tg_of (tg_test (eg_cmp (eg_var rfl) eg_int)) (by simp)
  · exact eg_var rfl
  refine bg_par (ag_cons (eg_ic (eg_var rfl) (eg_var rfl) ⟨g1, by omega⟩) (ag_cons (eg_ic (eg_var rfl) (eg_var rfl) ⟨g1, by omega⟩) ag_nil)) ?_
  refine bg_ret (eg_of (eg_ite (tg_test (eg_op (eg_var rfl) eg_int rg_eqI)) (fun _ => eg_var rfl) fun _ => by walk_at "eg") ?_)
  unfold numD red
  simp⟩
abbrev s__law_ct_top : Stmt := top 68
abbrev N__law_ct_top : List Str := ["_law_item"]
theorem sc__law_ct_top : FnScope N__law_ct_top ["_law_item"] (defScope s__law_ct_top) := C8.fnScope_by (by decide +kernel)
theorem ok__law_ct_top (T : Tx w K mg base) : Cl P w K mg base CX0 1 "_law_ct_top" (spD K fun ds d => ds.length = 1 ∧ P__law_ct_top ds d) := cl_pure T.d__law_ct_top T.g__law_ct_top sc__law_ct_top (fun _ _ h => h.1) (fun _ _ _ _ _ _ us hl => match us, hl with | [_], _ => rfl) fun cdv A outer s H E ds d hr h => ⟨_,
  (pss_one (ps_ret (pe_ifExp (pt_val (pe_callB (call_isiK K rfl) (by rfl) T.n_isinstance bt_isinstance (pa_cons (pv 0) (pa_cons (pe_bltn (v := .ty "tuple") (by rfl) T.n_tuple bt_tuple rfl) pa_nil)))) (pe_ix (ix_tupK K rfl) (pv 0) pe_int (fun _ _ => rfl)) (pv 0)))), by
  replace h := h.2
 
  obtain ⟨q, rfl, rfl⟩ := h
  refine bg_ret ?_
  by_cases e : q.2 = 1
  · refine eg_if (b := false) (tg_test (eg_isi (eg_var rfl) (by rw [num_ty, if_pos e]; rfl))) (fun z => by cases z) fun _ => ?_
    unfold numD
    rw [if_pos e]
    exact eg_var rfl
  · refine eg_if (b := true) (tg_test (eg_isi (eg_var rfl) (by rw [num_ty, if_neg e]; rfl))) (fun _ => ?_) fun z => by cases z
    unfold numD
    rw [if_neg e]
    walk_at "eg"⟩
abbrev s__law_ct_low : Stmt := top 69
abbrev N__law_ct_low : List Str := ["_law_item"]
theorem sc__law_ct_low : FnScope N__law_ct_low ["_law_item"] (defScope s__law_ct_low) := C8.fnScope_by (by decide +kernel)
theorem ok__law_ct_low (T : Tx w K mg base) : Cl P w K mg base CX0 1 "_law_ct_low" (spD K fun ds d => ds.length = 1 ∧ P__law_ct_low ds d) := cl_pure T.d__law_ct_low T.g__law_ct_low sc__law_ct_low (fun _ _ h => h.1) (fun _ _ _ _ _ _ us hl => match us, hl with | [_], _ => rfl) fun cdv A outer s H E ds d hr h => ⟨_,
  (pss_one (ps_ret (pe_ifExp (pt_val (pe_callB (call_isiK K rfl) (by rfl) T.n_isinstance bt_isinstance (pa_cons (pv 0) (pa_cons (pe_bltn (v := .ty "tuple") (by rfl) T.n_tuple bt_tuple rfl) pa_nil)))) (pe_ix (ix_tupK K rfl) (pv 0) pe_int (fun _ _ => rfl)) pe_int))), by
  replace h := h.2
 
  obtain ⟨q, rfl, rfl⟩ := h
  refine bg_ret ?_
  by_cases e : q.2 = 1
  · refine eg_if (b := false) (tg_test (eg_isi (eg_var rfl) (by rw [num_ty, if_pos e]; rfl))) (fun z => by cases z) fun _ => ?_
    rw [e]
    exact eg_int
  · refine eg_if (b := true) (tg_test (eg_isi (eg_var rfl) (by rw [num_ty, if_neg e]; rfl))) (fun _ => ?_) fun z => by cases z
    unfold numD
    rw [if_neg e]
    walk_at "eg"⟩
abbrev s__law_ct_times : Stmt := top 70
abbrev N__law_ct_times : List Str := ["_law_one", "_law_other"]
theorem sc__law_ct_times : FnScope N__law_ct_times ["_law_one", "_law_other"] (defScope s__law_ct_times) := C8.fnScope_by (by decide +kernel)
theorem ok__law_ct_times (T : Tx w K mg base) : Cl P w K mg base CX0 3 "_law_ct_times" (spD K fun ds d => ds.length = 2 ∧ P__law_ct_times ds d) := cl_pure T.d__law_ct_times T.g__law_ct_times sc__law_ct_times (fun _ _ h => h.1) (fun _ _ _ _ _ _ us hl => match us, hl with | [_, _], _ => rfl) fun cdv A outer s H E ds d hr h => ⟨_,
  (pss_one (ps_ret (pcl (ok__law_ct_made T) hr (by decide) pass0 (by rfl) (pa_cons (pe_op op_mul (pcl (ok__law_ct_top T) hr (by decide) pass0 (by rfl) (pa_cons (pv 0) pa_nil)) (pcl (ok__law_ct_top T) hr (by decide) pass0 (by rfl) (pa_cons (pv 1) pa_nil))) (pa_cons (pe_op op_mul (pcl (ok__law_ct_low T) hr (by decide) pass0 (by rfl) (pa_cons (pv 0) pa_nil)) (pcl (ok__law_ct_low T) hr (by decide) pass0 (by rfl) (pa_cons (pv 1) pa_nil))) pa_nil))))), by
  replace h := h.2
 
  obtain ⟨q, r, nq, nr, rfl, rfl⟩ := h
  have := nq.pos
  have := nq.le
  have := nq.lo
  have := nq.hi
  have := nr.pos
  have := nr.le
  have := nr.lo
  have := nr.hi
  have m1 : 0 < q.2 * r.2 := Int.mul_pos nq.pos nr.pos
  have m2 : q.2 * r.2 ≤ 12 * 12 := Int.mul_le_mul nq.le nr.le (by omega) (by decide)
  refine bg_ret (eg_call (ag_cons (eg_ic (eg_call (ag_cons (eg_var rfl) ag_nil) ⟨rfl, q, rfl, rfl⟩) (eg_call (ag_cons (eg_var rfl) ag_nil) ⟨rfl, r, rfl, rfl⟩) ?_) (ag_cons (eg_ic (eg_call (ag_cons (eg_var rfl) ag_nil) ⟨rfl, q, rfl, rfl⟩) (eg_call (ag_cons (eg_var rfl) ag_nil) ⟨rfl, r, rfl, rfl⟩) ?_) ag_nil)) ⟨rfl, q.1 * r.1, q.2 * r.2, m1, by omega, rfl, rfl⟩)
  · exact .inl ⟨by omega, by omega⟩
  · exact .inl ⟨by omega, by omega⟩⟩
abbrev s__law_ct_common : Stmt := top 75
abbrev N__law_ct_common : List Str := ["_law_some", "_law_found", "_law_item", "_law_low"]
theorem sc__law_ct_common : FnScope N__law_ct_common ["_law_some"] (defScope s__law_ct_common) := C8.fnScope_by (by decide +kernel)
theorem ok__law_ct_common (T : Tx w K mg base) : Cl P w K mg base CX0 2 "_law_ct_common" (spD K fun ds d => ds.length = 1 ∧ P__law_ct_common ds d) := cl_pure T.d__law_ct_common T.g__law_ct_common sc__law_ct_common (fun _ _ h => h.1) (fun _ _ _ _ _ _ us hl => match us, hl with | [_], _ => rfl) fun cdv A outer s H E ds d hr h => ⟨_,
  (pss_cons (ps_set (i := 1) sc__law_ct_common.nd rfl (Or.inl rfl) pe_int)
  (pss_cons (ps_for PassesOwn.never rfl (pi_list (pv 0)) (pg_name (i := 2) sc__law_ct_common.nd rfl (Or.inl rfl))
    (pss_cons (ps_set (i := 3) sc__law_ct_common.nd rfl (Or.inl rfl) (pcl (ok__law_ct_low T) hr (by decide) pass0 (by rfl) (pa_cons (pv 2) pa_nil)))
  (pss_one (ps_set (i := 1) sc__law_ct_common.nd rfl (Or.inl rfl) (pe_op op_fdiv (pe_op op_mul (pv 1) (pv 3)) (pcl (ok__law_ct_gcd T) hr (by decide) pass0 (by rfl) (pa_cons (pv 1) (pa_cons (pv 3) pa_nil))))))))
  (pss_one (ps_ret (pv 1))))), by
  replace h := h.2
 
  obtain ⟨qs, n, hz, rfl, rfl⟩ := h
  refine bg_asg eg_int ?_
  have hc : ∀ i, 0 < comm (qs.take i) ∧ comm (qs.take i) ∣ 12 := fun i => by
    obtain ⟨a, b, _⟩ := comm_ok (qs := qs.take i) (fun q hq => n q (List.mem_of_mem_take hq)) (c := 1) (by decide) (by decide)
    exact ⟨a, b⟩
  refine bg_seq (sg_for (ig_lst (eg_var rfl)) (fun i => [some (.d (.list (qs.map numD))), some (.d (.int (comm (qs.take i)))), none, none]) rfl fun i q hq => ?_) (bg_ret ?_)
  · have nq := n q (List.mem_of_getElem? hq)
    have c := hc i
    have := Int.le_of_dvd (by decide) c.2
    have := nq.pos
    have := nq.le
    have g1 := gcd_pos' (t := comm (qs.take i)) nq.pos
    have g2 := gcd_le' (t := comm (qs.take i)) nq.pos
    refine sg_weak (sg_seq (sg_asg (eg_call (ag_cons (eg_var rfl) ag_nil) ⟨rfl, q, rfl, rfl⟩)) (sg_asg (eg_ic (eg_ic (eg_var rfl) (eg_var rfl) (.inl ⟨by omega, by omega⟩)) (eg_call (ag_cons (eg_var rfl) (ag_cons (eg_var rfl) ag_nil)) ⟨rfl, comm (qs.take i), q.2, rfl, rfl⟩) ⟨g1, by omega⟩))) ⟨.inr rfl, .inr ?_, .inl rfl, .inl rfl, trivial⟩
    rw [comm, fold_step hq]
    rfl
  · rw [List.take_length]
    exact eg_var rfl⟩
end
end K13
namespace K13
open PySem PySem.Spec PyProof.Rows L2
open Evl (Ex fresh_back ex_l ex_t)
/-- one step of reading an expression's worth -/
local macro_rules | `(tactic| walk_at "eg1") => `(tactic| first
  | exact eg_var rfl | exact eg_int | exact eg_str | exact eg_bl | exact eg_non | exact tg_yes | exact og_none
  | apply og_some
  | apply tg_test | apply tg_B | apply tg_not | apply eg_notV | apply eg_neg
  | apply eg_isi
  | apply eg_ixT | apply eg_ixL
  | apply eg_cmp | apply eg_i0 | apply eg_ic
  | apply eg_op (hr := rg_eqI) | apply eg_op (hr := rg_eqS) | apply eg_op (hr := rg_neI) | apply eg_op (hr := rg_neS)
  | apply eg_cb (hr := cg_gcd)
  | exact (rfl : atI _ _ = _) | exact (rfl : kitB _ _ = _)
  | exact ag_nil | apply ag_cons
  | exact (by assumption : EG _ _ _ _ _) | apply eg_tup | apply eg_lst | exact Nat.le_of_ble_eq_true rfl)
local macro_rules | `(tactic| walk_at "eg") => `(tactic| repeat' walk_at "eg1")
section
variable {P : Program} {w : World} {K : PySem.W.Frag} {mg : Str → Option Value} {base : Heap} {L : SH} {G : Gm} {te : TE} {ts : TS} {R : GV → SH → Prop}
def P__law_an_ends (ds : List PyData) (d : PyData) : Prop := ∃ p : Part, ds = [partD p] ∧ d = strsD p.ends
def P__law_an_common (ds : List PyData) (d : PyData) : Prop := ∃ xs ps, (∀ p ∈ ps, Num p.w) ∧ ps.length ≤ 200 ∧ ds = [netD xs ps] ∧ d = .int (comm (widths ps))
def P__law_an_load (ds : List PyData) (d : PyData) : Prop := ∃ (p : Part) (c : Int), Num p.w ∧ 0 < c ∧ c ∣ 12 ∧ ds = [partD p, .int c] ∧ d = .int (loadF c p.w)
def P__law_an_in_leads (ds : List PyData) (d : PyData) : Prop := ∃ p, isArc p = true ∧ ds = [partD p] ∧ d = .list ((bothF p).map partD)
def P__law_an_in_pipes (ds : List PyData) (d : PyData) : Prop := ∃ p : Part, Num p.w ∧ (p.ends.length = 2 ∨ p.ends.length = 3) ∧ ds = [partD p] ∧ d = .list ((pipesF p).map partD)
abbrev s__law_an_ends : Stmt := top 77
abbrev N__law_an_ends : List Str := ["_law_part"]
theorem sc__law_an_ends : FnScope N__law_an_ends ["_law_part"] (defScope s__law_an_ends) := C8.fnScope_by (by decide +kernel)
theorem ok__law_an_ends (T : Tx w K mg base) : Cl P w K mg base CX0 1 "_law_an_ends" (spD K fun ds d => ds.length = 1 ∧ P__law_an_ends ds d) := cl_pure T.d__law_an_ends T.g__law_an_ends sc__law_an_ends (fun _ _ h => h.1) (fun _ _ _ _ _ _ us hl => match us, hl with | [_], _ => rfl) fun cdv A outer s H E ds d hr h => ⟨_,
  (pss_one (ps_ret (pe_ifExp (pt_cmpR op_eq (pe_ix (ix_tupK K rfl) (pv 0) pe_int (fun _ _ => rfl)) pe_str (nomark _)) (pe_ix (ix_tupK K rfl) (pv 0) pe_int (fun _ _ => rfl)) (pe_slice (sl_tupK K rfl) (pv 0) (po_some pe_int) (po_some pe_int))))), by
  replace h := h.2
 
  obtain ⟨p, rfl, rfl⟩ := h
  have hv : EG K [] ([partD p].map (fun d => some (GV.d d)) ++ List.replicate (N__law_an_ends.length - [partD p].length) none) (tVar 0) (partD p) := eg_var rfl
  refine bg_ret (eg_if (tg_test (eg_op (eg_p0 hv) eg_str rg_eqS)) (fun hb => ?_) fun hb => ?_)
  · cases p with
    | hub ps w => exact eg_ixT (d := strsD ps) hv eg_int rfl
    | arc ld x y w =>
      cases ld
      · exact absurd (show ("pipe" : Str) = "hub" from of_decide_eq_true hb) (by decide)
      · exact absurd (show ("lead" : Str) = "hub" from of_decide_eq_true hb) (by decide)
  · cases p with
    | hub ps w => exact absurd rfl (of_decide_eq_false hb)
    | arc ld x y w => exact eg_of (eg_slT (ds := partL (.arc ld x y w)) hv (og_some eg_int) (og_some eg_int)) rfl⟩
abbrev s__law_an_common : Stmt := top 81
abbrev N__law_an_common : List Str := ["_law_net_here", "_law_part"]
theorem sc__law_an_common : FnScope N__law_an_common ["_law_net_here"] (defScope s__law_an_common) := C8.fnScope_by (by decide +kernel)
theorem ok__law_an_common (T : Tx w K mg base) : Cl P w K mg base CX0 3 "_law_an_common" (spD K fun ds d => ds.length = 1 ∧ P__law_an_common ds d) := cl_pure T.d__law_an_common T.g__law_an_common sc__law_an_common (fun _ _ h => h.1) (fun _ _ _ _ _ _ us hl => match us, hl with | [_], _ => rfl) fun cdv A outer s H E ds d hr h => ⟨_,
  (pss_one (ps_ret (pcl (ok__law_ct_common T) hr (by decide) pass0 (by rfl) (pa_cons (pe_lc (own := [("_law_part", 1)]) rfl sc__law_an_common.nd (pi_tup (pe_ix (ix_tupK K rfl) (pv 0) pe_int (fun _ _ => rfl))) (blkOk_by (own := [("_law_part", 1)]) (N := N__law_an_common) (sc := defScope s__law_an_common) (by decide +kernel)) (fun _ _ _ _ _ => (pg_name (i := 1) sc__law_an_common.nd rfl (Or.inl rfl))) (fun _ _ _ _ _ => pts_nil) (fun _ _ _ _ _ => (pe_ix (ix_tupK K rfl) (pv 1) (pe_un un_neg pe_int) (fun _ _ => rfl)))) pa_nil)))), by
  replace h := h.2
 
  obtain ⟨xs, ps, n, hz, rfl, rfl⟩ := h
  refine bg_ret (eg_call (ag_cons (eg_of (eg_lcA (f := fun p : Part => numD p.w) (ig_tup (g := partD) (xs := ps) (eg_ixT (eg_var rfl) eg_int rfl)) (by omega) (fun j hj => by simpa using hj) fun p hp => eg_pZ (eg_var rfl)) rfl) ag_nil) ⟨rfl, widths ps, fun q hq => ?_, by unfold widths; rw [List.length_map]; omega, by unfold widths; rw [List.map_map]; rfl, rfl⟩)
  obtain ⟨p, hp, rfl⟩ := List.mem_map.mp hq
  exact n p hp⟩
abbrev s__law_an_load : Stmt := top 82
abbrev N__law_an_load : List Str := ["_law_part", "_law_common"]
theorem sc__law_an_load : FnScope N__law_an_load ["_law_part", "_law_common"] (defScope s__law_an_load) := C8.fnScope_by (by decide +kernel)
theorem ok__law_an_load (T : Tx w K mg base) : Cl P w K mg base CX0 2 "_law_an_load" (spD K fun ds d => ds.length = 2 ∧ P__law_an_load ds d) := cl_pure T.d__law_an_load T.g__law_an_load sc__law_an_load (fun _ _ h => h.1) (fun _ _ _ _ _ _ us hl => match us, hl with | [_, _], _ => rfl) fun cdv A outer s H E ds d hr h => ⟨_,
  (pss_one (ps_ret (pe_op op_mul (pcl (ok__law_ct_top T) hr (by decide) pass0 (by rfl) (pa_cons (pe_ix (ix_tupK K rfl) (pv 0) (pe_un un_neg pe_int) (fun _ _ => rfl)) pa_nil)) (pe_op op_fdiv (pv 1) (pcl (ok__law_ct_low T) hr (by decide) pass0 (by rfl) (pa_cons (pe_ix (ix_tupK K rfl) (pv 0) (pe_un un_neg pe_int) (fun _ _ => rfl)) pa_nil)))))), by
  replace h := h.2
 
  obtain ⟨p, c, n, h0, h1, rfl, rfl⟩ := h
  have := n.pos
  have := n.le
  have := n.lo
  have := n.hi
  have := Int.le_of_dvd (by decide) h1
  refine bg_ret (eg_of (eg_ic (eg_call (ag_cons (eg_pZ (eg_var rfl)) ag_nil) ⟨rfl, p.w, rfl, rfl⟩) (eg_ic (eg_var rfl) (eg_call (ag_cons (eg_pZ (eg_var rfl)) ag_nil) ⟨rfl, p.w, rfl, rfl⟩) ⟨n.pos, by omega⟩) (.inl ⟨by omega, by omega⟩)) rfl)⟩
abbrev s__law_an_in_leads : Stmt := top 87
abbrev N__law_an_in_leads : List Str := ["_law_part"]
theorem sc__law_an_in_leads : FnScope N__law_an_in_leads ["_law_part"] (defScope s__law_an_in_leads) := C8.fnScope_by (by decide +kernel)
theorem ok__law_an_in_leads (T : Tx w K mg base) : Cl P w K mg base CX0 1 "_law_an_in_leads" (spD K fun ds d => ds.length = 1 ∧ P__law_an_in_leads ds d) := cl_pure T.d__law_an_in_leads T.g__law_an_in_leads sc__law_an_in_leads (fun _ _ h => h.1) (fun _ _ _ _ _ _ us hl => match us, hl with | [_], _ => rfl) fun cdv A outer s H E ds d hr h => ⟨_,
  (pss_cons (ps_if (pt_cmpR op_eq (pe_ix (ix_tupK K rfl) (pv 0) pe_int (fun _ _ => rfl)) pe_str (nomark _))
    (pss_one (ps_ret (pe_lst (pa_cons (pv 0) pa_nil))))
    pss_nil)
  (pss_one (ps_ret (pe_lst (pa_cons (pe_tup (pa_cons pe_str (pa_cons (pe_ix (ix_tupK K rfl) (pv 0) pe_int (fun _ _ => rfl)) (pa_cons (pe_ix (ix_tupK K rfl) (pv 0) pe_int (fun _ _ => rfl)) (pa_cons (pe_ix (ix_tupK K rfl) (pv 0) pe_int (fun _ _ => rfl)) pa_nil))))) (pa_cons (pe_tup (pa_cons pe_str (pa_cons (pe_ix (ix_tupK K rfl) (pv 0) pe_int (fun _ _ => rfl)) (pa_cons (pe_ix (ix_tupK K rfl) (pv 0) pe_int (fun _ _ => rfl)) (pa_cons (pe_ix (ix_tupK K rfl) (pv 0) pe_int (fun _ _ => rfl)) pa_nil))))) pa_nil)))))), by
  replace h := h.2
 
  obtain ⟨p, hp, rfl, rfl⟩ := h
  have hv : EG K [] ([partD p].map (fun d => some (GV.d d)) ++ List.replicate (N__law_an_in_leads.length - [partD p].length) none) (tVar 0) (partD p) := eg_var rfl
  cases p with
  | hub ps w => cases hp
  | arc ld x y w =>
    have e1 : EG K [] ([partD (.arc ld x y w)].map (fun d => some (GV.d d)) ++ List.replicate (N__law_an_in_leads.length - [partD (.arc ld x y w)].length) none) _ (.str x) := eg_ixT (d := .str x) hv (eg_int (i := 1)) rfl
    have e2 : EG K [] ([partD (.arc ld x y w)].map (fun d => some (GV.d d)) ++ List.replicate (N__law_an_in_leads.length - [partD (.arc ld x y w)].length) none) _ (.str y) := eg_ixT (d := .str y) hv (eg_int (i := 2)) rfl
    have e3 : EG K [] ([partD (.arc ld x y w)].map (fun d => some (GV.d d)) ++ List.replicate (N__law_an_in_leads.length - [partD (.arc ld x y w)].length) none) _ (numD w) := eg_ixT (d := numD w) hv (eg_int (i := 3)) rfl
    cases ld with
    | true => exact bg_take (tg_test (eg_op (eg_p0 hv) eg_str rg_eqS)) rfl (bg_ret (eg_lst (ag_cons hv ag_nil) (Nat.le_of_ble_eq_true rfl))) (fun z => by cases z)
    | false => exact bg_skip (tg_test (eg_op (eg_p0 hv) eg_str rg_eqS)) rfl (bg_ret (eg_lst (ag_cons (eg_tup (ag_cons eg_str (ag_cons e1 (ag_cons e2 (ag_cons e3 ag_nil)))) (Nat.le_of_ble_eq_true rfl)) (ag_cons (eg_tup (ag_cons eg_str (ag_cons e2 (ag_cons e1 (ag_cons e3 ag_nil)))) (Nat.le_of_ble_eq_true rfl)) ag_nil)) (Nat.le_of_ble_eq_true rfl)))⟩
abbrev s__law_an_in_pipes : Stmt := top 88
abbrev N__law_an_in_pipes : List Str := ["_law_part", "_law_some", "_law_half"]
theorem sc__law_an_in_pipes : FnScope N__law_an_in_pipes ["_law_part"] (defScope s__law_an_in_pipes) := C8.fnScope_by (by decide +kernel)
theorem ok__law_an_in_pipes (T : Tx w K mg base) : Cl P w K mg base CX0 4 "_law_an_in_pipes" (spD K fun ds d => ds.length = 1 ∧ P__law_an_in_pipes ds d) := cl_pure T.d__law_an_in_pipes T.g__law_an_in_pipes sc__law_an_in_pipes (fun _ _ h => h.1) (fun _ _ _ _ _ _ us hl => match us, hl with | [_], _ => rfl) fun cdv A outer s H E ds d hr h => ⟨_,
  (pss_cons (ps_set (i := 1) sc__law_an_in_pipes.nd rfl (Or.inl rfl) (pcl (ok__law_an_ends T) hr (by decide) pass0 (by rfl) (pa_cons (pv 0) pa_nil)))
  (pss_cons (ps_if (pt_cmpR op_eq (pe_callB (call_lenK K rfl) (by rfl) T.n_len bt_len (pa_cons (pv 1) pa_nil)) pe_int (nomark _))
    (pss_one (ps_ret (pe_lst (pa_cons (pe_tup (pa_cons pe_str (pa_cons (pe_ix (ix_tupK K rfl) (pv 1) pe_int (fun _ _ => rfl)) (pa_cons (pe_ix (ix_tupK K rfl) (pv 1) pe_int (fun _ _ => rfl)) (pa_cons (pe_ix (ix_tupK K rfl) (pv 0) (pe_un un_neg pe_int) (fun _ _ => rfl)) pa_nil))))) pa_nil))))
    pss_nil)
  (pss_cons (ps_set (i := 2) sc__law_an_in_pipes.nd rfl (Or.inl rfl) (pcl (ok__law_ct_times T) hr (by decide) pass0 (by rfl) (pa_cons (pe_ix (ix_tupK K rfl) (pv 0) (pe_un un_neg pe_int) (fun _ _ => rfl)) (pa_cons (pe_tup (pa_cons pe_int (pa_cons pe_int pa_nil))) pa_nil))))
  (pss_one (ps_ret (pe_lst (pa_cons (pe_tup (pa_cons pe_str (pa_cons (pe_ix (ix_tupK K rfl) (pv 1) pe_int (fun _ _ => rfl)) (pa_cons (pe_ix (ix_tupK K rfl) (pv 1) pe_int (fun _ _ => rfl)) (pa_cons (pv 2) pa_nil))))) (pa_cons (pe_tup (pa_cons pe_str (pa_cons (pe_ix (ix_tupK K rfl) (pv 1) pe_int (fun _ _ => rfl)) (pa_cons (pe_ix (ix_tupK K rfl) (pv 1) pe_int (fun _ _ => rfl)) (pa_cons (pv 2) pa_nil))))) (pa_cons (pe_tup (pa_cons pe_str (pa_cons (pe_ix (ix_tupK K rfl) (pv 1) pe_int (fun _ _ => rfl)) (pa_cons (pe_ix (ix_tupK K rfl) (pv 1) pe_int (fun _ _ => rfl)) (pa_cons (pv 2) pa_nil))))) pa_nil))))))))), by
  replace h := h.2
 
  obtain ⟨p, n, hl, rfl, rfl⟩ := h
  refine bg_asg (eg_call (ag_cons (eg_var rfl) ag_nil) ⟨rfl, p, rfl, rfl⟩) ?_
  show BG K [] [some (.d (partD p)), some (.d (strsD p.ends)), none] _ _
  match he : p.ends, hl with
  | [x, y], _ =>
    have e0 : EG K [] [some (.d (partD p)), some (.d (strsD [x, y])), none] _ (.str x) := eg_ixT (d := .str x) (eg_var rfl : EG K [] _ (tVar 1) _) (eg_int (i := 0)) rfl
    have e1 : EG K [] [some (.d (partD p)), some (.d (strsD [x, y])), none] _ (.str y) := eg_ixT (d := .str y) (eg_var rfl : EG K [] _ (tVar 1) _) (eg_int (i := 1)) rfl
    refine bg_take (tg_test (eg_op (eg_cb (ag_cons (eg_var rfl) ag_nil) cg_lenT) eg_int rg_eqI)) rfl (bg_ret (eg_of (eg_lst (ag_cons (eg_tup (ag_cons eg_str (ag_cons e0 (ag_cons e1 (ag_cons (eg_pZ (eg_var rfl)) ag_nil)))) (Nat.le_of_ble_eq_true rfl)) ag_nil) (Nat.le_of_ble_eq_true rfl)) ?_)) (fun z => by cases z)
    unfold pipesF
    rw [he]
    rfl
  | [x, y, z], _ =>
    have f0 : EG K [] ([some (.d (partD p)), some (.d (strsD [x, y, z])), none].set 2 (some (.d (numD (halfQ p.w))))) _ (.str x) := eg_ixT (d := .str x) (eg_var rfl : EG K [] _ (tVar 1) _) (eg_int (i := 0)) rfl
    have f1 : EG K [] ([some (.d (partD p)), some (.d (strsD [x, y, z])), none].set 2 (some (.d (numD (halfQ p.w))))) _ (.str y) := eg_ixT (d := .str y) (eg_var rfl : EG K [] _ (tVar 1) _) (eg_int (i := 1)) rfl
    have f2 : EG K [] ([some (.d (partD p)), some (.d (strsD [x, y, z])), none].set 2 (some (.d (numD (halfQ p.w))))) _ (.str z) := eg_ixT (d := .str z) (eg_var rfl : EG K [] _ (tVar 1) _) (eg_int (i := 2)) rfl
    refine bg_skip (tg_test (eg_op (eg_cb (ag_cons (eg_var rfl) ag_nil) cg_lenT) eg_int rg_eqI)) rfl ?_
    refine bg_asg (e := numD (halfQ p.w)) (eg_call (ag_cons (eg_pZ (eg_var rfl)) (ag_cons (eg_tup (ag_cons (eg_int (i := 1)) (ag_cons (eg_int (i := 2)) ag_nil)) (Nat.le_of_ble_eq_true rfl)) ag_nil)) ⟨rfl, p.w, (1, 2), n, ⟨by decide, by decide, by decide, by decide, by decide⟩, rfl, ?_⟩) ?_
    · show numD (halfQ p.w) = numD (red (p.w.1 * 1) (p.w.2 * 2))
      rw [Int.mul_one]
      rfl
    refine bg_ret (eg_of (eg_lst (ag_cons (eg_tup (ag_cons eg_str (ag_cons f0 (ag_cons f1 (ag_cons (eg_var rfl) ag_nil)))) (Nat.le_of_ble_eq_true rfl)) (ag_cons (eg_tup (ag_cons eg_str (ag_cons f0 (ag_cons f2 (ag_cons (eg_var rfl) ag_nil)))) (Nat.le_of_ble_eq_true rfl)) (ag_cons (eg_tup (ag_cons eg_str (ag_cons f1 (ag_cons f2 (ag_cons (eg_var rfl) ag_nil)))) (Nat.le_of_ble_eq_true rfl)) ag_nil))) (Nat.le_of_ble_eq_true rfl)) ?_)
    unfold pipesF
    rw [he]
    rfl⟩
end
end K13
namespace K13
open PySem PySem.Spec PyProof.Rows L2
open Evl (Ex fresh_back ex_l ex_t)
/-- one step of reading an expression's worth -/
local macro_rules | `(tactic| walk_at "eg1") => `(tactic| first
  | exact eg_var rfl | exact eg_int | exact eg_str | exact eg_bl | exact eg_non | exact tg_yes | exact og_none
  | apply og_some
  | apply tg_test | apply tg_B | apply tg_not | apply eg_notV | apply eg_neg
  | apply eg_isi
  | apply eg_ixT | apply eg_ixL
  | apply eg_cmp | apply eg_i0 | apply eg_ic
  | apply eg_op (hr := rg_eqI) | apply eg_op (hr := rg_eqS) | apply eg_op (hr := rg_neI) | apply eg_op (hr := rg_neS)
  | apply eg_cb (hr := cg_gcd)
  | exact (rfl : atI _ _ = _) | exact (rfl : kitB _ _ = _)
  | exact ag_nil | apply ag_cons
  | exact (by assumption : EG _ _ _ _ _) | apply eg_tup | apply eg_lst | exact Nat.le_of_ble_eq_true rfl)
local macro_rules | `(tactic| walk_at "eg") => `(tactic| repeat' walk_at "eg1")
section
variable {P : Program} {w : World} {K : PySem.W.Frag} {mg : Str → Option Value} {base : Heap} {L : SH} {G : Gm} {te : TE} {ts : TS} {R : GV → SH → Prop}
def P__law_an_kind (ds : List PyData) (d : PyData) : Prop := ∃ xs ps, ps.length ≤ 200 ∧ ds = [netD xs ps] ∧ d = .str (kindF ps)
def P__law_an_all_of (ds : List PyData) (d : PyData) : Prop := ∃ pss : List (List Part), pss.flatten.length ≤ 1000 ∧ pss.length ≤ 1000 ∧ ds = [.list (pss.map fun l => .list (l.map partD))] ∧ d = .tuple (pss.flatten.map partD)
def P__law_an_groups (ds : List PyData) (d : PyData) : Prop := ∃ xs, Taps xs ∧ ds = [strsD xs] ∧ d = .list ((lotsF xs).map strsD)
abbrev s__law_an_kind : Stmt := top 78
abbrev N__law_an_kind : List Str := ["_law_net_here", "_law_words_here", "_law_part"]
theorem sc__law_an_kind : FnScope N__law_an_kind ["_law_net_here"] (defScope s__law_an_kind) := C8.fnScope_by (by decide +kernel)
theorem ok__law_an_kind (T : Tx w K mg base) : Cl P w K mg base CX0 1 "_law_an_kind" (spD K fun ds d => ds.length = 1 ∧ P__law_an_kind ds d) := cl_pure T.d__law_an_kind T.g__law_an_kind sc__law_an_kind (fun _ _ h => h.1) (fun _ _ _ _ _ _ us hl => match us, hl with | [_], _ => rfl) fun cdv A outer s H E ds d hr h => ⟨_,
  (pss_cons (ps_setLc (i := 1) (own := [("_law_part", 2)]) rfl sc__law_an_kind.nd rfl rfl (sw_true rfl rfl rfl (by decide +kernel)) (pi_tup (pe_ix (ix_tupK K rfl) (pv 0) pe_int (fun _ _ => rfl))) (blkOk_by (own := [("_law_part", 2)]) (N := N__law_an_kind) (sc := defScope s__law_an_kind) (by decide +kernel)) (fun _ _ _ _ _ => (pg_name (i := 2) sc__law_an_kind.nd rfl (Or.inl rfl))) (fun _ _ _ _ _ => pts_nil) (fun _ _ _ _ _ => (pe_ix (ix_tupK K rfl) (pv 2) pe_int (fun _ _ => rfl))))
  (pss_cons (ps_if (pt_cmpR (op_inK K rfl) pe_str (pv 1) (by rfl))
    (pss_one (ps_ret pe_str))
    pss_nil)
  (pss_one (ps_ret (pe_ifExp (pt_cmpR (op_inK K rfl) pe_str (pv 1) (by rfl)) pe_str pe_str))))), by
  replace h := h.2
 
  obtain ⟨xs, ps, hz, rfl, rfl⟩ := h
  refine bg_asg (e := .list ((ps.map Part.kind).map .str)) (eg_of (eg_lcA (f := fun p : Part => .str p.kind) (ig_tup (g := partD) (xs := ps) (eg_ixT (eg_var rfl) eg_int rfl)) (by omega) (fun j hj => by simpa using hj) fun p hp => eg_p0 (eg_var rfl)) (by rw [List.map_map]; rfl)) ?_
  have ak : ∀ k : Str, decide (k ∈ ps.map Part.kind) = anyK ps k := fun k => by
    unfold anyK
    rw [Bool.eq_iff_iff, decide_eq_true_iff, List.any_eq_true]
    constructor
    · intro h
      obtain ⟨p, hp, e⟩ := List.mem_map.mp h
      exact ⟨p, hp, decide_eq_true e⟩
    · rintro ⟨p, hp, e⟩
      exact List.mem_map.mpr ⟨p, hp, of_decide_eq_true e⟩
  refine bg_when (tg_test (eg_op eg_str (eg_var rfl) rg_inL)) (fun hb => bg_ret (eg_of eg_str ?_)) (fun _ z => by cases z) fun hb => bg_ret (eg_of (eg_ite (tg_test (eg_op eg_str (eg_var rfl) rg_inL)) (fun _ => eg_str) fun _ => eg_str) ?_)
  · rw [ak] at hb
    unfold kindF
    rw [if_pos hb]
  · rw [ak] at hb
    rw [ak]
    unfold kindF
    rw [hb]
    cases anyK ps "hub" <;> rfl⟩
abbrev s__law_an_all_of : Stmt := top 89
abbrev N__law_an_all_of : List Str := ["_law_pieces", "_law_found", "_law_some"]
theorem sc__law_an_all_of : FnScope N__law_an_all_of ["_law_pieces"] (defScope s__law_an_all_of) := C8.fnScope_by (by decide +kernel)
theorem ok__law_an_all_of (T : Tx w K mg base) : Cl P w K mg base CX0 1 "_law_an_all_of" (spD K fun ds d => ds.length = 1 ∧ P__law_an_all_of ds d) := cl_pure T.d__law_an_all_of T.g__law_an_all_of sc__law_an_all_of (fun _ _ h => h.1) (fun _ _ _ _ _ _ us hl => match us, hl with | [_], _ => rfl) fun cdv A outer s H E ds d hr h => ⟨_,
  (pss_cons (ps_set (i := 1) sc__law_an_all_of.nd rfl (Or.inl rfl) (pe_tup pa_nil))
  (pss_cons (ps_for PassesOwn.never rfl (pi_list (pv 0)) (pg_name (i := 2) sc__law_an_all_of.nd rfl (Or.inl rfl))
    (pss_one (ps_set (i := 1) sc__law_an_all_of.nd rfl (Or.inl rfl) (pe_op (op_catAK K rfl) (pv 1) (pe_callTy (call_tupK K rfl) (by rfl) T.n_tuple bt_tuple (pa_cons (pv 2) pa_nil))))))
  (pss_one (ps_ret (pv 1))))), by
  replace h := h.2
 
  obtain ⟨pss, hz, hl, rfl, rfl⟩ := h
  have le : ∀ i, (pss.take i).flatten.length ≤ pss.flatten.length := fun i => by
    have : (pss.take i).flatten.length + (pss.drop i).flatten.length = pss.flatten.length := by rw [← List.length_append, ← List.flatten_append, List.take_append_drop]
    omega
  refine bg_asg (e := .tuple []) (eg_tup ag_nil (Nat.le_of_ble_eq_true rfl)) ?_
  refine bg_seq (sg_for (ig_lst (g := fun l : List Part => .list (l.map partD)) (xs := pss) (eg_var rfl)) (fun i => [some (.d (.list (pss.map fun l => .list (l.map partD)))), some (.d (.tuple ((pss.take i).flatten.map partD))), none]) rfl fun i l hl => ?_) (bg_ret ?_)
  · have e : (pss.take (i + 1)).flatten = (pss.take i).flatten ++ l := by
      rw [List.take_add_one, hl]
      simp
    have h1 := le (i + 1)
    rw [e, List.length_append] at h1
    refine sg_weak (sg_asg (eg_catA (ds := (pss.take i).flatten.map partD) (es := l.map partD) (eg_var rfl) (eg_cb (ag_cons (eg_var rfl) ag_nil) cg_tupL) ?_)) ⟨.inr rfl, .inr ?_, .inl rfl, trivial⟩
    · rw [List.length_map, List.length_map, sizeLine_eq]
      omega
    · rw [e, List.map_append]
  · rw [List.take_length]
    exact eg_var rfl⟩
abbrev s__law_an_groups : Stmt := top 84
abbrev N__law_an_groups : List Str := ["_law_taps_here", "_law_found", "_law_spot", "_law_group"]
theorem sc__law_an_groups : FnScope N__law_an_groups ["_law_taps_here"] (defScope s__law_an_groups) := C8.fnScope_by (by decide +kernel)
theorem ok__law_an_groups (T : Tx w K mg base) : Cl P w K mg base CX0 1 "_law_an_groups" (spD K fun ds d => ds.length = 1 ∧ P__law_an_groups ds d) := cl_pure T.d__law_an_groups T.g__law_an_groups sc__law_an_groups (fun _ _ h => h.1) (fun _ _ _ _ _ _ us hl => match us, hl with | [_], _ => rfl) fun cdv A outer s H E ds d hr h => ⟨_,
  (pss_cons (ps_set (i := 1) sc__law_an_groups.nd rfl (Or.inl rfl) (pe_lst (pa_cons (pe_tup pa_nil) pa_nil)))
  (pss_cons (ps_for PassesOwn.never rfl (pi_tup (pv 0)) (pg_name (i := 2) sc__law_an_groups.nd rfl (by first | exact Or.inl rfl | exact Or.inr rfl))
    (pss_one (ps_set (i := 1) sc__law_an_groups.nd rfl (Or.inl rfl) (pe_op (op_catLK K rfl) (pv 1) (pe_lc (own := [("_law_group", 3)]) rfl sc__law_an_groups.nd (pi_list (pv 1)) (blkOk_by (own := [("_law_group", 3)]) (N := N__law_an_groups) (sc := defScope s__law_an_groups) (by decide +kernel)) (fun _ _ _ _ _ => (pg_name (i := 3) sc__law_an_groups.nd rfl (Or.inl rfl))) (fun _ _ _ _ _ => pts_nil) (fun _ _ _ _ _ => (pe_op (op_catAK K rfl) (pv 3) (pe_tup (pa_cons (pv 2) pa_nil)))))))))
  (pss_one (ps_ret (pe_callB (cr_sortedD hr.units) (by rfl) T.n_sorted bt_sorted (pa_cons (pe_lc (own := [("_law_group", 3)]) rfl sc__law_an_groups.nd (pi_list (pv 1)) (blkOk_by (own := [("_law_group", 3)]) (N := N__law_an_groups) (sc := defScope s__law_an_groups) (by decide +kernel)) (fun _ _ _ _ _ => (pg_name (i := 3) sc__law_an_groups.nd rfl (Or.inl rfl))) (fun _ _ _ _ _ => pts_one (pt_chain op_lt op_lt pe_int (pe_callB (call_lenK K rfl) (by rfl) T.n_len bt_len (pa_cons (pv 3) pa_nil)) (pe_callB (call_lenK K rfl) (by rfl) T.n_len bt_len (pa_cons (pv 0) pa_nil)))) (fun _ _ _ _ _ => (pv 3))) pa_nil)))))), by
  replace h := h.2
 
  obtain ⟨xs, n, rfl, rfl⟩ := h
  have h6 := n.hi
  refine bg_asg (by walk_at "eg") ?_
  refine bg_seq (sg_for (ig_tup (g := PyData.str) (xs := xs) (eg_var rfl)) (fun i => [some (.d (strsD xs)), some (.d (.list ((subs (xs.take i)).map strsD))), none, none]) rfl fun i t ht => ?_) (bg_ret ?_)
  · have hi : (xs.take i).length ≤ 6 := by rw [List.length_take]; omega
    have h1 := subs_len (xs := xs.take i)
    have h2 : 2 ^ (xs.take i).length ≤ 2 ^ 6 := Nat.pow_le_pow_right (by decide) hi
    refine sg_weak (sg_asg (eg_op (eg_var rfl) (eg_lcA (f := fun l => strsD (l ++ [t])) (ig_lst (g := strsD) (xs := subs (xs.take i)) (eg_var rfl)) ?_ (fun j hj => by simpa using hj) fun l hl => ?_) (rg_catL ?_))) ⟨.inr rfl, .inr ?_, .inl rfl, .inl rfl, trivial⟩
    · omega
    · have := h1.2 l hl
      refine eg_of (eg_catA (ds := l.map .str) (eg_var rfl) (eg_tup (ds := [.str t]) (ag_cons (eg_var rfl) ag_nil) (Nat.le_of_ble_eq_true rfl)) ?_) ?_
      · rw [List.length_map, sizeLine_eq]
        simp only [List.length_cons, List.length_nil]
        omega
      · simp [strsD]
    · rw [List.length_map, List.length_map, sizeLine_eq]
      omega
    · rw [subs, fold_step ht]
      simp [subs, strsD, Function.comp_def]
  · rw [List.take_length]
    have h1 := subs_len (xs := xs)
    have h2 : 2 ^ xs.length ≤ 2 ^ 6 := Nat.pow_le_pow_right (by decide) h6
    refine eg_cb (ag_cons (eg_lc (p := fun l : List Str => decide (0 < l.length) && decide (l.length < xs.length)) (f := strsD) (ig_lst (g := strsD) (eg_var rfl)) (by omega) (fun j hj => by simpa using hj) (fun l hl => ?_) fun l hl _ => eg_var rfl) ag_nil) (cg_sortLots fun l hl => ?_)
    · refine tg_of (tg_test (eg_chain eg_int (eg_cb (ag_cons (eg_var rfl) ag_nil) (cg_lenT (ds := l.map .str))) rg_b0 (fun _ => eg_cb (ag_cons (eg_var rfl) ag_nil) (cg_lenT (ds := xs.map .str))) fun _ => rg_b0)) ?_
      simp
    · have := (List.mem_filter.mp hl).2
      intro z
      rw [z] at this
      simp at this⟩
end
end K13
namespace K13
open PySem PySem.Spec PyProof.Rows L2
open Evl (Ex fresh_back ex_l ex_t)
/-- one step of reading an expression's worth -/
local macro_rules | `(tactic| walk_at "eg1") => `(tactic| first
  | exact eg_var rfl | exact eg_int | exact eg_str | exact eg_bl | exact eg_non | exact tg_yes | exact og_none
  | apply og_some
  | apply tg_test | apply tg_B | apply tg_not | apply eg_notV | apply eg_neg
  | apply eg_isi
  | apply eg_ixT | apply eg_ixL
  | apply eg_cmp | apply eg_i0 | apply eg_ic
  | apply eg_op (hr := rg_eqI) | apply eg_op (hr := rg_eqS) | apply eg_op (hr := rg_neI) | apply eg_op (hr := rg_neS)
  | apply eg_cb (hr := cg_gcd)
  | exact (rfl : atI _ _ = _) | exact (rfl : kitB _ _ = _)
  | exact ag_nil | apply ag_cons
  | exact (by assumption : EG _ _ _ _ _) | apply eg_tup | apply eg_lst | exact Nat.le_of_ble_eq_true rfl)
local macro_rules | `(tactic| walk_at "eg") => `(tactic| repeat' walk_at "eg1")
section
variable {P : Program} {w : World} {K : PySem.W.Frag} {mg : Str → Option Value} {base : Heap} {L : SH} {G : Gm} {te ta tl : TE} {ts : TS} {R : GV → SH → Prop}
def strG (xs : List Str) : List GV := xs.map fun s => .d (.str s)
theorem wds_strs {N : Hp} : ∀ {xs : List Str} {vs : List V}, WdAll K N vs (strG xs) → vs = xs.map .str
  | [], _, h => by cases h; rfl
  | x :: xs, _, h => by
    cases h with
    | cons a b =>
      have e : _ = V.str x := dp_str a
      rw [e, wds_strs b]
      rfl
/-- x not in a list that changes -/
theorem eg_niM {p : Addr} {x : Str} {xs : List Str} (ha : EG K L G ta (.str x)) (hl : EV K L G tl (.r p)) (hm : (p, .lst (strG xs)) ∈ L) : EG K L G (tOp (rIn K true) ta tl) (.bool (!decide (x ∈ xs))) := fun σ N H n ex Q q =>
  ha σ N H n ex _ fun u N1 H1 w1 k1 => hl σ N1 H1 (n.step w1) w1.b _ fun v N2 H2 w2 k2 => by
    obtain ⟨_, vs, e1, e2⟩ := (n.ms.step (w1.trans w2)).at_ _ _ hm
    obtain rfl : v = .ref p := k2
    rw [wds_strs e2] at e1
    rw [dp_str k1]
    refine ⟨p, _, rfl, .inl (.inl (.inl e1)), rfl, flat_strs, ?_⟩
    rw [if_pos rfl, inV_str]
    exact q _ _ _ (w1.trans w2) (.bl _)
theorem fold_addK_nd : ∀ {xs acc : List Str}, (acc ++ xs).Nodup → xs.foldl addK acc = acc ++ xs
  | [], acc, _ => by simp
  | x :: xs, acc, h => by
    have h1 : x ∉ acc := fun z => (List.nodup_append.mp h).2.2 x z x (by simp) rfl
    rw [List.foldl_cons, addK, if_neg h1, fold_addK_nd (by simpa using h)]
    simp
theorem parts_len : ∀ {ps : List Part} {acc : List Str}, (∀ p ∈ ps, p.ends.length ≤ 1000) → (ps.foldl (fun acc p => p.ends.foldl addK acc) acc).length ≤ acc.length + 1000 * ps.length
  | [], _, _ => by simp
  | p :: ps, acc, h => by
    have h1 := parts_len (ps := ps) (acc := p.ends.foldl addK acc) fun q hq => h q (List.mem_cons_of_mem _ hq)
    have h2 := addKs_len (xs := p.ends) (acc := acc)
    have h3 := h p List.mem_cons_self
    rw [List.foldl_cons, List.length_cons]
    omega
def P__law_an_every (ds : List PyData) (d : PyData) : Prop := ∃ xs ps, xs.Nodup ∧ xs.length ≤ 1000 ∧ ps.length ≤ 200 ∧ (∀ p ∈ ps, p.ends.length ≤ 1000) ∧ ds = [netD xs ps] ∧ d = .list ((placesF xs ps).map .str)
abbrev s__law_an_every : Stmt := top 76
abbrev N__law_an_every : List Str := ["_law_net_here", "_law_found", "_law_part", "_law_place"]
theorem sc__law_an_every : FnScope N__law_an_every ["_law_net_here"] (defScope s__law_an_every) := C8.fnScope_by (by decide +kernel)
theorem ok__law_an_every (T : Tx w K mg base) : Cl P w K mg base CX0 1 "_law_an_every" (spD K fun ds d => ds.length = 1 ∧ P__law_an_every ds d) := cl_pureM T.d__law_an_every T.g__law_an_every sc__law_an_every (fun _ _ h => h.1) (fun _ _ _ _ _ _ us hl => match us, hl with | [_], _ => rfl) fun cdv A outer s H E ds d hr h => ⟨_,
  (pss_cons (ps_set (i := 1) sc__law_an_every.nd rfl (Or.inl rfl) (pe_callTy call_list_of (by rfl) T.n_list bt_list (pa_cons (pe_ix (ix_tupK K rfl) (pv 0) pe_int (fun _ _ => rfl)) pa_nil)))
  (pss_cons (ps_for PassesOwn.never rfl (pi_tup (pe_ix (ix_tupK K rfl) (pv 0) pe_int (fun _ _ => rfl))) (pg_name (i := 2) sc__law_an_every.nd rfl (Or.inl rfl))
    (pss_one (ps_for PassesOwn.never rfl (pi_tup (pe_ifExp (pt_cmpR op_eq (pe_ix (ix_tupK K rfl) (pv 2) pe_int (fun _ _ => rfl)) pe_str (nomark _)) (pe_ix (ix_tupK K rfl) (pv 2) pe_int (fun _ _ => rfl)) (pe_slice (sl_tupK K rfl) (pv 2) (po_some pe_int) (po_some pe_int)))) (pg_name (i := 3) sc__law_an_every.nd rfl (Or.inl rfl))
    (pss_one (ps_if (pt_cmpR (op_niK K rfl) (pv 3) (pv 1) (by rfl))
    (pss_one (ps_expr (pe_bm PySem.F.plainAttrs_list PySem.F.slot_list_append PySem.F.type_list_append mt_append (pv 1) (pa_cons (pv 3) pa_nil))))
    pss_nil)))))
  (pss_one (ps_ret (pe_callB (cr_sortedD hr.units) (by rfl) T.n_sorted bt_sorted (pa_cons (pv 1) pa_nil)))))), by
  replace h := h.2
 
  obtain ⟨xs, ps, nd, h1, h2, h3, rfl, rfl⟩ := h
  refine bm_seq (sm_asg (em_listOf (ds := xs.map .str) (.inr (ag_cons (eg_ixT (d := strsD xs) (eg_var (d := netD xs ps) rfl) eg_int rfl) ag_nil)))) ?_
  rintro _ _ ⟨g, rfl, p, rfl, rfl⟩
  refine bm_seq (sm_for (W := fun i G' L' => ∃ o1 o2, G' = [some (.d (netD xs ps)), some (.r p), o1, o2] ∧ L' = [(p, .lst (strG ((ps.take i).foldl (fun acc p => p.ends.foldl addK acc) xs)))]) (ig_tup (g := partD) (xs := ps) (eg_ixT (eg_var rfl) eg_int rfl)) ?_ ?_) ?_
  · exact ⟨none, none, rfl, by simp [strG]⟩
  · rintro i z _ _ hz ⟨o1, o2, rfl, rfl⟩
    have zm := List.mem_of_getElem? hz
    have hv : EG K [(p, .lst (strG ((ps.take i).foldl (fun acc p => p.ends.foldl addK acc) xs)))] [some (.d (netD xs ps)), some (.r p), some (.d (partD z)), o2] (tVar 2) (partD z) := eg_var rfl
    refine sm_imp (sm_for (W := fun j G' L' => ∃ o2, G' = [some (.d (netD xs ps)), some (.r p), some (.d (partD z)), o2] ∧ L' = [(p, .lst (strG ((z.ends.take j).foldl addK ((ps.take i).foldl (fun acc p => p.ends.foldl addK acc) xs))))]) (ig_tup (g := PyData.str) (xs := z.ends) (eg_if (tg_test (eg_op (eg_p0 hv) eg_str rg_eqS)) (fun hb => ?_) fun hb => ?_)) ?_ ?_) ?_
    · cases z with
      | hub qs w => exact eg_ixT (d := strsD qs) hv eg_int rfl
      | arc ld x y w =>
        cases ld
        · exact absurd (show ("pipe" : Str) = "hub" from of_decide_eq_true hb) (by decide)
        · exact absurd (show ("lead" : Str) = "hub" from of_decide_eq_true hb) (by decide)
    · cases z with
      | hub qs w => exact absurd rfl (of_decide_eq_false hb)
      | arc ld x y w => exact eg_of (eg_slT (ds := partL (.arc ld x y w)) hv (og_some eg_int) (og_some eg_int)) rfl
    · exact ⟨o2, rfl, rfl⟩
    · rintro j x _ _ hx ⟨o3, rfl, rfl⟩
      have l1 := parts_len (ps := ps.take i) (acc := xs) fun q hq => h3 q (List.mem_of_mem_take hq)
      have l2 := addKs_len (xs := z.ends.take j) (acc := (ps.take i).foldl (fun acc p => p.ends.foldl addK acc) xs)
      have l3 := h3 z zm
      rw [List.length_take] at l1 l2
      have e := fold_step (f := addK) (b := (ps.take i).foldl (fun acc p => p.ends.foldl addK acc) xs) hx
      rw [e]
      generalize hc : (z.ends.take j).foldl addK ((ps.take i).foldl (fun acc p => p.ends.foldl addK acc) xs) = cur at l2 ⊢
      have l4 : (strG cur).length < sizeLine := by
        unfold strG
        rw [List.length_map]
        exact Nat.lt_of_lt_of_le (show _ < 1000001 by omega) (by decide)
      refine sm_if (tg_test (eg_niM (p := p) (x := x) (xs := cur) (eg_var rfl) (ev_var rfl) List.mem_cons_self)) (fun hb => ?_) fun hb => ?_
      · have nx : x ∉ cur := by simpa using hb
        refine sm_imp (sm_drop (em_appendP (p := p) (gs' := strG cur) (R := fun _ L' => L' = [(p, .lst (strG (cur ++ [x])))]) (ev_var rfl) List.mem_cons_self (am_av (av_cons (ev_d (d := .str x) (eg_var rfl)) av_nil)) ?_)) ?_
        · rintro as L4 ⟨rfl, rfl⟩
          refine ⟨_, strG cur, [], rfl, .refl _, l4, ?_⟩
          rw [show strG cur ++ [.d (.str x)] = strG (cur ++ [x]) from by simp [strG]]
        · rintro G4 L4 ⟨rfl, g, rfl⟩
          refine ⟨_, rfl, ?_⟩
          rw [addK, if_neg nx]
      · have ix : x ∈ cur := by simpa using hb
        refine sm_imp sm_next ?_
        rintro G4 L4 ⟨rfl, rfl⟩
        refine ⟨_, rfl, ?_⟩
        rw [addK, if_pos ix]
    · rintro _ _ ⟨o3, rfl, rfl⟩
      refine ⟨_, _, rfl, ?_⟩
      rw [fold_step hz, List.take_length]
  · rintro _ _ ⟨o1, o2, rfl, rfl⟩
    rw [List.take_length]
    refine bm_frz (p := p) (i := 1) (ds := ((ps.foldl (fun acc p => p.ends.foldl addK acc) xs)).map .str) (Lr := []) rfl (by rw [List.map_map]; rfl) ?_
    refine bm_ret (em_imp (em_eg (eg_of (eg_cb (ag_cons (eg_var rfl) ag_nil) (cg_sortStrs (xs := ps.foldl (fun acc p => p.ends.foldl addK acc) xs))) ?_)) fun g L h => h.1)
    unfold placesF
    rw [fold_addK_nd (acc := []) (by simpa using nd), List.nil_append]⟩
end
end K13
namespace K13
open PySem PySem.Spec PyProof.Rows L2
open Evl (Ex fresh_back ex_l ex_t)
/-- one step of reading an expression's worth -/
local macro_rules | `(tactic| walk_at "eg1") => `(tactic| first
  | exact eg_var rfl | exact eg_int | exact eg_str | exact eg_bl | exact eg_non | exact tg_yes | exact og_none
  | apply og_some
  | apply tg_test | apply tg_B | apply tg_not | apply eg_notV | apply eg_neg
  | apply eg_isi
  | apply eg_ixT | apply eg_ixL
  | apply eg_cmp | apply eg_i0 | apply eg_ic
  | apply eg_op (hr := rg_eqI) | apply eg_op (hr := rg_eqS) | apply eg_op (hr := rg_neI) | apply eg_op (hr := rg_neS)
  | apply eg_cb (hr := cg_gcd)
  | exact (rfl : atI _ _ = _) | exact (rfl : kitB _ _ = _)
  | exact ag_nil | apply ag_cons
  | exact (by assumption : EG _ _ _ _ _) | apply eg_tup | apply eg_lst | exact Nat.le_of_ble_eq_true rfl)
local macro_rules | `(tactic| walk_at "eg") => `(tactic| repeat' walk_at "eg1")
section
variable {P : Program} {w : World} {K : PySem.W.Frag} {mg : Str → Option Value} {base : Heap} {L : SH} {G : Gm} {te ta tl : TE} {ts : TS} {R : GV → SH → Prop}
def bitStep (acc : List (Key × GV) × Int) (x : Str) : List (Key × GV) × Int := (putGK acc.1 (.inr x) (.d (.int acc.2)), acc.2 + acc.2)
def bitsF (xs : List Str) : List (Key × GV) × Int := xs.foldl bitStep ([], 1)
theorem bits_len : ∀ {xs : List Str} {acc : List (Key × GV) × Int}, (xs.foldl bitStep acc).1.length ≤ acc.1.length + xs.length
  | [], _ => by simp
  | x :: xs, acc => by
    have h1 := bits_len (xs := xs) (acc := bitStep acc x)
    have h2 : (bitStep acc x).1.length ≤ acc.1.length + 1 := putGK_le acc.1 (.inr x) (.d (.int acc.2))
    rw [List.foldl_cons, List.length_cons]
    omega
def P__law_an_bits (_K : PySem.W.Frag) (gs : List GV) (L : SH) (Z : GV → SH → Prop) : Prop := ∃ xs : List Str, xs.length ≤ 1000 ∧ gs = [.d (.list (xs.map .str))] ∧ Z = fun g L' => ∃ p, g = .r p ∧ L' = (p, .dK (bitsF xs).1) :: L
abbrev s__law_an_bits : Stmt := top 79
abbrev N__law_an_bits : List Str := ["_law_every", "_law_place", "_law_found", "_law_power"]
theorem sc__law_an_bits : FnScope N__law_an_bits ["_law_every"] (defScope s__law_an_bits) := C8.fnScope_by (by decide +kernel)
theorem ok__law_an_bits (T : Tx w K mg base) : Cl P w K mg base CX0 1 "_law_an_bits" (spM K fun gs L Z => gs.length = 1 ∧ P__law_an_bits K gs L Z) := cl_mut T.d__law_an_bits T.g__law_an_bits sc__law_an_bits (fun _ _ _ h => h.1) (fun _ _ _ _ _ _ us hl => match us, hl with | [_], _ => rfl) fun cdv A outer s H E gs L Z hr h => ⟨_,
  (pss_cons (ps_par (i := 2) (j := 3) (by rfl) sc__law_an_bits.nd rfl rfl (by decide) rfl rfl (pa_cons pe_dnewK (pa_cons pe_int pa_nil)) (by rfl))
  (pss_cons (ps_for PassesOwn.never rfl (pi_list (pv 0)) (pg_name (i := 1) sc__law_an_bits.nd rfl (Or.inl rfl))
    (pss_cons (ps_dput (hu_of hr) (pv 2) (pv 1) (pv 3) rfl)
  (pss_one (ps_set (i := 3) sc__law_an_bits.nd rfl (Or.inl rfl) (pe_op op_add (pv 3) (pv 3))))))
  (pss_one (ps_ret (pv 2))))), by
  replace h := h.2
 
  obtain ⟨xs, hz, rfl, rfl⟩ := h
  refine bm_seq (sm_par2 (R2' := fun g g' L' => ∃ p, g = .r p ∧ g' = .d (.int 1) ∧ L' = (p, .dK []) :: L) (em_dnewK (by intro σ H Q h; exact h)) ?_) ?_
  · rintro g L1 ⟨p, rfl, rfl⟩
    refine em_imp (em_eg eg_int) ?_
    rintro g' L' ⟨rfl, rfl⟩
    exact ⟨p, rfl, rfl, rfl⟩
  rintro _ _ ⟨g, g', L1, rfl, _, p, rfl, rfl, rfl⟩
  refine bm_seq (sm_for (W := fun i G' L' => ∃ o, G' = [some (.d (.list (xs.map .str))), o, some (.r p), some (.d (.int (bitsF (xs.take i)).2))] ∧ L' = (p, .dK (bitsF (xs.take i)).1) :: L) (ig_lst (g := PyData.str) (xs := xs) (eg_var rfl)) ?_ ?_) ?_
  · exact ⟨none, rfl, rfl⟩
  · rintro i x _ _ hx ⟨o, rfl, rfl⟩
    have hl := bits_len (xs := xs.take i) (acc := ([], 1))
    rw [List.length_take, List.length_nil] at hl
    have e : bitsF (xs.take (i + 1)) = bitStep (bitsF (xs.take i)) x := fold_step hx
    rw [e]
    refine sm_seq (sm_dput (p := p) (k := .inr x) (kvs := (bitsF (xs.take i)).1) (R := fun g L1 => g = .d (.int (bitsF (xs.take i)).2) ∧ L1 = (p, .dK (bitsF (xs.take i)).1) :: L) (em_eg (eg_var rfl)) (fun g L1 r => ev_var rfl) (fun g L1 r => eg_var rfl) (fun g L1 r => r.2 ▸ List.mem_cons_self) (Nat.lt_of_le_of_lt hl (Nat.lt_of_lt_of_le (show _ < 1000001 by omega) (by decide)))) ?_
    rintro G3 L3 ⟨rfl, g, L1, ⟨rfl, rfl⟩, rfl⟩
    refine sm_imp (sm_asg (em_eg (eg_op (eg_var rfl) (eg_var rfl) rg_addI))) ?_
    rintro _ _ ⟨g, rfl, rfl, rfl⟩
    exact ⟨some (.d (.str x)), rfl, by unfold putL; rw [if_pos rfl]; rfl⟩
  · rintro _ _ ⟨o, rfl, rfl⟩
    rw [List.take_length]
    exact bm_imp (bm_ret (em_ev (ev_var rfl))) fun g L' h => ⟨p, h.1, h.2⟩⟩
def P__law_an_mask (_K : PySem.W.Frag) (gs : List GV) (L : SH) (Z : GV → SH → Prop) : Prop := ∃ (p : Addr) (kvs : List (Key × GV)) (xs : List Str) (f : Str → Int), xs.length ≤ 1000 ∧ (p, .dK kvs) ∈ L ∧ (∀ x ∈ xs, valG kvs (.inr x) = some (.d (.int (f x)))) ∧ gs = [.r p, .d (strsD xs)] ∧
  Z = fun g L' => g = .d (.int (xs.map f).sum) ∧ L' = L
abbrev s__law_an_mask : Stmt := top 80
abbrev N__law_an_mask : List Str := ["_law_bits", "_law_some", "_law_place"]
theorem sc__law_an_mask : FnScope N__law_an_mask ["_law_bits", "_law_some"] (defScope s__law_an_mask) := C8.fnScope_by (by decide +kernel)
theorem ok__law_an_mask (T : Tx w K mg base) : Cl P w K mg base CX0 1 "_law_an_mask" (spM K fun gs L Z => gs.length = 2 ∧ P__law_an_mask K gs L Z) := cl_mut T.d__law_an_mask T.g__law_an_mask sc__law_an_mask (fun _ _ _ h => h.1) (fun _ _ _ _ _ _ us hl => match us, hl with | [_, _], _ => rfl) fun cdv A outer s H E gs L Z hr h => ⟨_,
  (pss_one (ps_ret (pe_callB (cr_sumK K rfl rfl) (by rfl) T.n_sum bt_sum (pa_cons (pe_lc (own := [("_law_place", 2)]) rfl sc__law_an_mask.nd (pi_tup (pv 1)) (blkOk_by (own := [("_law_place", 2)]) (N := N__law_an_mask) (sc := defScope s__law_an_mask) (by decide +kernel)) (fun _ _ _ _ _ => (pg_name (i := 2) sc__law_an_mask.nd rfl (Or.inl rfl))) (fun _ _ _ _ _ => pts_nil) (fun _ _ _ _ _ => (pe_dget (hu_of hr) (pv 0) (pv 2) (fun _ _ => rfl)))) pa_nil)))), by
  replace h := h.2
 
  obtain ⟨p, kvs, xs, f, hz, hm, hv, rfl, rfl⟩ := h
  exact bm_ret (em_eg (eg_cb (ag_cons (eg_lcA (f := fun x => .int (f x)) (ig_tup (g := PyData.str) (xs := xs) (eg_var rfl)) (by omega) (fun j hj => by simpa using hj) fun x hx => eg_ev (ev_dget (p := p) (k := .inr x) (kvs := kvs) (ev_var rfl) (eg_var rfl) hm (hv x hx))) ag_nil) (cg_sumM (f := f))))⟩
end
end K13
namespace K13
open PySem PySem.Spec PyProof.Rows L2
open Evl (Ex fresh_back ex_l ex_t)
/-- one step of reading an expression's worth -/
local macro_rules | `(tactic| walk_at "eg1") => `(tactic| first
  | exact eg_var rfl | exact eg_int | exact eg_str | exact eg_bl | exact eg_non | exact tg_yes | exact og_none
  | apply og_some
  | apply tg_test | apply tg_B | apply tg_not | apply eg_notV | apply eg_neg
  | apply eg_isi
  | apply eg_ixT | apply eg_ixL
  | apply eg_cmp | apply eg_i0 | apply eg_ic
  | apply eg_op (hr := rg_eqI) | apply eg_op (hr := rg_eqS) | apply eg_op (hr := rg_neI) | apply eg_op (hr := rg_neS)
  | apply eg_cb (hr := cg_gcd)
  | exact (rfl : atI _ _ = _) | exact (rfl : kitB _ _ = _)
  | exact ag_nil | apply ag_cons
  | exact (by assumption : EG _ _ _ _ _) | apply eg_tup | apply eg_lst | exact Nat.le_of_ble_eq_true rfl)
local macro_rules | `(tactic| walk_at "eg") => `(tactic| repeat' walk_at "eg1")
section
variable {P : Program} {w : World} {K : PySem.W.Frag} {mg : Str → Option Value} {base : Heap} {L : SH} {G : Gm} {te ta tl : TE} {ts : TS} {R : GV → SH → Prop}
def bitOf (zs : List Str) (x : Str) : Nat := 2 ^ idx zs x
def maskOf (zs xs : List Str) : Nat := (xs.map (bitOf zs)).sum
def partCost (zs : List Str) (c : Int) (m : Nat) : Part → Int
  | .arc true x y w => if (m &&& bitOf zs x) ≠ 0 ∧ (m &&& bitOf zs y) = 0 then loadF c w else 0
  | .arc false x y w => if (m &&& maskOf zs [x, y]) = 0 ∨ (m &&& maskOf zs [x, y]) = maskOf zs [x, y] then 0 else loadF c w
  | .hub xs w => if (m &&& maskOf zs xs) = 0 ∨ (m &&& maskOf zs xs) = maskOf zs xs then 0 else loadF c w
def costOf (zs : List Str) (c : Int) (ps : List Part) (m : Nat) : Int := (ps.map (partCost zs c m)).sum
def costsF (zs : List Str) (c : Int) (ps : List Part) : List Int := (List.range (2 ^ zs.length)).map (costOf zs c ps)
def P__law_an_costs (_K : PySem.W.Frag) (gs : List GV) (L : SH) (Z : GV → SH → Prop) : Prop := ∃ (p : Addr) (kvs : List (Key × GV)) (xs zs : List Str) (ps : List Part) (c : Int) (Lr : SH), L = (p, .dK kvs) :: Lr ∧ kvs.length = zs.length ∧ zs.length ≤ 10 ∧ ps.length ≤ 200 ∧ 0 < c ∧ c ∣ 12 ∧
  (∀ q ∈ ps, Num q.w ∧ ∀ x ∈ q.ends, x ∈ zs) ∧ (∀ q ∈ ps, q.ends.length ≤ 1000) ∧ (∀ x ∈ zs, valG kvs (.inr x) = some (.d (.int (bitOf zs x : Nat)))) ∧ gs = [.d (netD xs ps), .r p, .d (.int c)] ∧ Z = fun g L' => g = .d (.list ((costsF zs c ps).map .int)) ∧ L' = L
end
end K13
namespace K13
open PySem
def cutP (wt : Q2 → Int) (S : Str → Bool) : Part → Int
  | .arc true x y w => if (S x && !S y) = true then wt w else 0
  | .arc false x y w => if (S x == S y) = true then 0 else wt w
  | .hub xs w => if (xs.all S || xs.all fun x => !S x) = true then 0 else wt w
def cutN (wt : Q2 → Int) (S : Str → Bool) (ps : List Part) : Int := (ps.map (cutP wt S)).sum
theorem all_same {α : Type} {f g : α → Bool} : ∀ {xs : List α}, (∀ x ∈ xs, f x = g x) → xs.all f = xs.all g
  | [], _ => rfl
  | x :: xs, h => by rw [List.all_cons, List.all_cons, h x (by simp), all_same fun y hy => h y (by simp [hy])]
theorem sumf_zero {α : Type} {f : α → Int} : ∀ {xs : List α}, (∀ x ∈ xs, f x = 0) → (xs.map f).sum = 0
  | [], _ => rfl
  | x :: xs, h => by
    rw [List.map_cons, List.sum_cons, h x (by simp), sumf_zero fun y hy => h y (by simp [hy])]
    rfl
theorem sumf_nn {α : Type} {f : α → Int} : ∀ {xs : List α}, (∀ x ∈ xs, 0 ≤ f x) → 0 ≤ (xs.map f).sum
  | [], _ => Int.le_refl _
  | x :: xs, h => by
    have h1 := h x (by simp)
    have h2 := sumf_nn (f := f) (xs := xs) fun y hy => h y (by simp [hy])
    rw [List.map_cons, List.sum_cons]
    omega
theorem sumf_ge {α : Type} {f : α → Int} {y : α} : ∀ {xs : List α}, (∀ x ∈ xs, 0 ≤ f x) → y ∈ xs → f y ≤ (xs.map f).sum
  | x :: xs, h, hy => by
    have h1 := h x (by simp)
    have h2 := sumf_nn (f := f) (xs := xs) fun y hy => h y (by simp [hy])
    rw [List.map_cons, List.sum_cons]
    rcases List.mem_cons.mp hy with e | e
    · subst e
      omega
    · have := sumf_ge (f := f) (xs := xs) (fun z hz => h z (by simp [hz])) e
      omega
theorem wsum_app {w : Nat → Int} : ∀ (rs qs : List Int) (k : Nat), wsum w (rs ++ qs) k = wsum w rs k + wsum w qs (k + rs.length)
  | [], qs, k => by simp [wsum]
  | r :: rs, qs, k => by
    have ih := wsum_app (w := w) rs qs (k + 1)
    show w k * r + wsum w (rs ++ qs) (k + 1) = w k * r + wsum w rs (k + 1) + wsum w qs (k + (rs.length + 1))
    rw [ih, show k + 1 + rs.length = k + (rs.length + 1) from by omega]
    omega
theorem wsum_congr {w w' : Nat → Int} : ∀ (rs : List Int) (k : Nat), (∀ i, i < rs.length → w (k + i) = w' (k + i)) → wsum w rs k = wsum w' rs k
  | [], _, _ => rfl
  | r :: rs, k, h => by
    have h0 := h 0 (by simp)
    have ih := wsum_congr (w := w) (w' := w') rs (k + 1) fun i hi => by
      have := h (i + 1) (by simpa using hi)
      rw [show k + 1 + i = k + (i + 1) from by omega]
      exact this
    show w k * r + wsum w rs (k + 1) = w' k * r + wsum w' rs (k + 1)
    rw [Nat.add_zero] at h0
    rw [ih, h0]
structure EvC (s : Can) : Prop where
  len : s.rooms.length = s.heads.length
  ev : s.heads.length % 2 = 0
def ac (T : Nat → Bool) (u v : Nat) (r : Int) : Int := b2 (T u && !T v) * r
theorem ac_zero {T : Nat → Bool} {u v : Nat} : ac T u v 0 = 0 := Int.mul_zero _
theorem ac_nn {T : Nat → Bool} {u v : Nat} {r : Int} (h : 0 ≤ r) : 0 ≤ ac T u v r := by
  unfold ac b2
  split <;> omega
theorem ev_laid {s : Can} (e : EvC s) {st en : Nat} {th ba : Int} : EvC (s.laid st en th ba) := by
  have h1 := e.len
  have h2 := e.ev
  refine ⟨?_, ?_⟩
  · show (s.rooms ++ [th, ba]).length = (s.heads ++ [en, st]).length
    rw [List.length_append, List.length_append, h1]
    rfl
  · show (s.heads ++ [en, st]).length % 2 = 0
    rw [List.length_append]
    show (s.heads.length + 2) % 2 = 0
    omega
theorem cut_laid {s : Can} (e : EvC s) {T : Nat → Bool} {st en : Nat} {th ba : Int} : cutR (s.laid st en th ba).heads T (s.laid st en th ba).rooms = cutR s.heads T s.rooms + (ac T st en th + ac T en st ba) := by
  show wsum (cutW (s.heads ++ [en, st]) T) (s.rooms ++ [th, ba]) 0 = _
  rw [wsum_app]
  have l := e.len
  have n0 : hd (s.heads ++ [en, st]) s.heads.length = en := hd_of (by simp)
  have n1 : hd (s.heads ++ [en, st]) (s.heads.length + 1) = st := hd_of (by simp)
  have old : ∀ a, a < s.heads.length → hd (s.heads ++ [en, st]) a = hd s.heads a := fun a ha => by
    unfold hd
    rw [List.getD_eq_getElem?_getD, List.getD_eq_getElem?_getD, List.getElem?_append_left ha]
  have e1 : wsum (cutW (s.heads ++ [en, st]) T) s.rooms 0 = cutR s.heads T s.rooms := wsum_congr _ _ fun i hi => by
    rw [Nat.zero_add]
    unfold cutW
    rw [old i (by omega), old (co i) (co_lt e.ev (by omega))]
  rw [e1, Nat.zero_add, l]
  show _ + (cutW _ T s.heads.length * th + (cutW _ T (s.heads.length + 1) * ba + 0)) = _
  unfold cutW ac
  rw [co_even e.ev, co_odd e.ev, n0, n1]
  omega
theorem cut_to {sp : Str → Nat} {en : Nat} {much : Int} {T : Nat → Bool} : ∀ {xs : List Str} {s : Can}, EvC s →
    EvC (xs.foldl (layTo sp en much) s) ∧ cutR (xs.foldl (layTo sp en much) s).heads T (xs.foldl (layTo sp en much) s).rooms = cutR s.heads T s.rooms + (xs.map fun x => ac T (sp x) en much).sum
  | [], s, e => ⟨e, by simp⟩
  | x :: xs, s, e => by
    obtain ⟨h1, h2⟩ := cut_to (sp := sp) (en := en) (much := much) (T := T) (xs := xs) (s := layTo sp en much s x) (ev_laid e)
    have h3 : cutR (layTo sp en much s x).heads T (layTo sp en much s x).rooms = _ := cut_laid e (T := T) (st := sp x) (en := en) (th := much) (ba := 0)
    rw [ac_zero] at h3
    refine ⟨h1, ?_⟩
    rw [List.foldl_cons, h2, h3, List.map_cons, List.sum_cons]
    omega
theorem cut_from {sp : Str → Nat} {le : Nat} {much : Int} {T : Nat → Bool} : ∀ {xs : List Str} {s : Can}, EvC s →
    EvC (xs.foldl (layFrom sp le much) s) ∧ cutR (xs.foldl (layFrom sp le much) s).heads T (xs.foldl (layFrom sp le much) s).rooms = cutR s.heads T s.rooms + (xs.map fun x => ac T le (sp x) much).sum
  | [], s, e => ⟨e, by simp⟩
  | x :: xs, s, e => by
    obtain ⟨h1, h2⟩ := cut_from (sp := sp) (le := le) (much := much) (T := T) (xs := xs) (s := layFrom sp le much s x) (ev_laid e)
    have h3 : cutR (layFrom sp le much s x).heads T (layFrom sp le much s x).rooms = _ := cut_laid e (T := T) (st := le) (en := sp x) (th := much) (ba := 0)
    rw [ac_zero] at h3
    refine ⟨h1, ?_⟩
    rw [List.foldl_cons, h2, h3, List.map_cons, List.sum_cons]
    omega
def hubC (T : Nat → Bool) (sp : Str → Nat) (e l : Nat) (xs : List Str) (r much : Int) : Int := ac T e l r + (xs.map fun x => ac T (sp x) e much).sum + (xs.map fun x => ac T l (sp x) much).sum
def partC (T : Nat → Bool) (sp : Str → Nat) (much : Int) (n : Nat) (r : Int) : Part → Int
  | .arc ld x y _ => ac T (sp x) (sp y) r + ac T (sp y) (sp x) (if ld = true then 0 else r)
  | .hub xs _ => hubC T sp n (n + 1) xs r much
theorem cut_part {sp : Str → Nat} {much : Int} {s : Can} (e : EvC s) {T : Nat → Bool} {p : Part} {r : Int} :
    EvC (addPart sp much s (p, r)) ∧ cutR (addPart sp much s (p, r)).heads T (addPart sp much s (p, r)).rooms = cutR s.heads T s.rooms + partC T sp much s.outs.length r p := by
  cases p with
  | arc ld x y q =>
    have e0 : addPart sp much s (.arc ld x y q, r) = s.laid (sp x) (sp y) r (if ld = true then 0 else r) := rfl
    rw [e0]
    exact ⟨ev_laid e, cut_laid e⟩
  | hub ps q =>
    obtain ⟨s0, hs0⟩ : ∃ s0 : Can, s0 = { s with outs := s.outs ++ [[]] ++ [[]] } := ⟨_, rfl⟩
    have e0 : EvC s0 := hs0 ▸ ⟨e.len, e.ev⟩
    have c0 : cutR s0.heads T s0.rooms = cutR s.heads T s.rooms := by rw [hs0]
    have c1 := cut_laid e0 (T := T) (st := s.outs.length) (en := s.outs.length + 1) (th := r) (ba := 0)
    obtain ⟨e2, c2⟩ := cut_to (sp := sp) (en := s.outs.length) (much := much) (T := T) (xs := ps) (ev_laid e0 (st := s.outs.length) (en := s.outs.length + 1) (th := r) (ba := 0))
    obtain ⟨e3, c3⟩ := cut_from (sp := sp) (le := s.outs.length + 1) (much := much) (T := T) (xs := ps) e2
    have eq : addPart sp much s (.hub ps q, r) = ps.foldl (layFrom sp (s.outs.length + 1) much) (ps.foldl (layTo sp s.outs.length much) (s0.laid s.outs.length (s.outs.length + 1) r 0)) := by
      rw [hs0]
      rfl
    rw [eq]
    refine ⟨e3, ?_⟩
    rw [c3, c2, c1, ac_zero, c0]
    show _ = _ + hubC T sp s.outs.length (s.outs.length + 1) ps r much
    unfold hubC
    omega
/-- no cut of a part's arcs is below its cost -/
theorem part_ge {T : Nat → Bool} {sp : Str → Nat} {much : Int} {n : Nat} {wt : Q2 → Int} {p : Part} (h0 : 0 ≤ wt p.w) (h1 : wt p.w ≤ much) : cutP wt (fun x => T (sp x)) p ≤ partC T sp much n (wt p.w) p := by
  have hm : 0 ≤ much := by omega
  cases p with
  | arc ld x y w =>
    have h0 : 0 ≤ wt w := h0
    show _ ≤ ac T (sp x) (sp y) (wt w) + ac T (sp y) (sp x) (if ld = true then 0 else wt w)
    cases ld <;> cases hx : T (sp x) <;> cases hy : T (sp y) <;> simp [cutP, ac, b2, hx, hy]
  | hub xs w =>
    have h0 : 0 ≤ wt w := h0
    have h1 : wt w ≤ much := h1
    show cutP wt (fun x => T (sp x)) (.hub xs w) ≤ hubC T sp n (n + 1) xs (wt w) much
    have a1 : 0 ≤ ac T n (n + 1) (wt w) := ac_nn h0
    have a2 : ∀ x ∈ xs, 0 ≤ ac T (sp x) n much := fun x _ => ac_nn hm
    have a3 : ∀ x ∈ xs, 0 ≤ ac T (n + 1) (sp x) much := fun x _ => ac_nn hm
    have s2 := sumf_nn a2
    have s3 := sumf_nn a3
    show (if (xs.all (fun x => T (sp x)) || xs.all fun x => !T (sp x)) = true then 0 else wt w) ≤ _
    unfold hubC
    by_cases c : (xs.all (fun x => T (sp x)) || xs.all fun x => !T (sp x)) = true
    · rw [if_pos c]
      omega
    · rw [if_neg c]
      simp only [Bool.or_eq_true, not_or, Bool.not_eq_true] at c
      obtain ⟨c1, c2⟩ := c
      obtain ⟨y, hy, ty⟩ := List.all_eq_false.mp c1
      obtain ⟨x, hx, tx⟩ := List.all_eq_false.mp c2
      have ty : T (sp y) = false := by simpa using ty
      have tx : T (sp x) = true := by simpa using tx
      have g2 := sumf_ge a2 hx
      have g3 := sumf_ge a3 hy
      cases he : T n with
      | false =>
        have : ac T (sp x) n much = much := by simp [ac, b2, tx, he]
        omega
      | true =>
        cases hl : T (n + 1) with
        | false =>
          have : ac T n (n + 1) (wt w) = wt w := by simp [ac, b2, he, hl]
          omega
        | true =>
          have : ac T (n + 1) (sp y) much = much := by simp [ac, b2, ty, hl]
          omega
/-- and the cost is reached -/
theorem part_eq {T : Nat → Bool} {sp : Str → Nat} {much : Int} {n : Nat} {wt : Q2 → Int} {p : Part} (hs : ∀ x ∈ p.ends, sp x < n) : ∃ T' : Nat → Bool, (∀ v, v < n → T' v = T v) ∧ partC T' sp much n (wt p.w) p = cutP wt (fun x => T (sp x)) p := by
  cases p with
  | arc ld x y w =>
    refine ⟨T, fun _ _ => rfl, ?_⟩
    show ac T (sp x) (sp y) (wt w) + ac T (sp y) (sp x) (if ld = true then 0 else wt w) = _
    cases ld <;> cases hx : T (sp x) <;> cases hy : T (sp y) <;> simp [cutP, ac, b2, hx, hy]
  | hub xs w =>
    have hs : ∀ x ∈ xs, sp x < n := hs
    obtain ⟨al, hal⟩ : ∃ al, al = xs.all fun x => T (sp x) := ⟨_, rfl⟩
    obtain ⟨no, hno⟩ : ∃ no, no = xs.all fun x => !T (sp x) := ⟨_, rfl⟩
    obtain ⟨T', hT⟩ : ∃ T' : Nat → Bool, T' = fun v => if v = n then !no else if v = n + 1 then al else T v := ⟨_, rfl⟩
    have t0 : T' n = !no := by rw [hT]; simp
    have t1 : T' (n + 1) = al := by rw [hT]; simp
    have t2 : ∀ v, v < n → T' v = T v := fun v hv => by
      rw [hT]
      show (if v = n then !no else if v = n + 1 then al else T v) = T v
      rw [if_neg (by omega), if_neg (by omega)]
    refine ⟨T', t2, ?_⟩
    show hubC T' sp n (n + 1) xs (wt w) much = if (xs.all (fun x => T (sp x)) || xs.all fun x => !T (sp x)) = true then 0 else wt w
    rw [← hal, ← hno]
    unfold hubC
    have z2 : (xs.map fun x => ac T' (sp x) n much).sum = 0 := sumf_zero fun x hx => by
      unfold ac
      rw [t0, t2 _ (hs x hx)]
      cases no with
      | false => simp [b2]
      | true =>
        have := List.all_eq_true.mp hno.symm x hx
        have : T (sp x) = false := by simpa using this
        simp [b2, this]
    have z3 : (xs.map fun x => ac T' (n + 1) (sp x) much).sum = 0 := sumf_zero fun x hx => by
      unfold ac
      rw [t1, t2 _ (hs x hx)]
      cases al with
      | false => simp [b2]
      | true =>
        have := List.all_eq_true.mp hal.symm x hx
        have : T (sp x) = true := by simpa using this
        simp [b2, this]
    rw [z2, z3]
    unfold ac
    rw [t0, t1]
    cases no <;> cases al <;> simp [b2]
theorem cutR_congr {heads : List Nat} {rooms : List Int} {T T' : Nat → Bool} (hl : rooms.length = heads.length) (hv : heads.length % 2 = 0) (h : ∀ (a v : Nat), heads[a]? = some v → T v = T' v) : cutR heads T rooms = cutR heads T' rooms := by
  have g : ∀ a, a < heads.length → T (hd heads a) = T' (hd heads a) := fun a ha => h a _ (by
    unfold hd
    rw [List.getD_eq_getElem?_getD, List.getElem?_eq_getElem ha]
    rfl)
  refine wsum_congr _ _ fun i hi => ?_
  rw [Nat.zero_add]
  unfold cutW
  rw [g i (by omega), g (co i) (co_lt hv (by omega))]
def withW (wt : Q2 → Int) (ps : List Part) : List (Part × Int) := ps.map fun p => (p, wt p.w)
theorem all_ge {sp : Str → Nat} {much : Int} {wt : Q2 → Int} {T : Nat → Bool} : ∀ {ps : List Part} {s : Can}, EvC s → (∀ p ∈ ps, 0 ≤ wt p.w ∧ wt p.w ≤ much) →
    cutR s.heads T s.rooms + cutN wt (fun x => T (sp x)) ps ≤ cutR (addAll sp much s (withW wt ps)).heads T (addAll sp much s (withW wt ps)).rooms
  | [], s, _, _ => by
    show cutR s.heads T s.rooms + 0 ≤ cutR s.heads T s.rooms
    omega
  | p :: ps, s, e, h => by
    obtain ⟨h0, h1⟩ := h p (by simp)
    obtain ⟨e1, c1⟩ := cut_part (sp := sp) (much := much) e (T := T) (p := p) (r := wt p.w)
    have ih := all_ge (sp := sp) (much := much) (wt := wt) (T := T) (ps := ps) e1 fun q hq => h q (by simp [hq])
    have g := part_ge (T := T) (sp := sp) (much := much) (n := s.outs.length) h0 h1
    have e3 : cutN wt (fun x => T (sp x)) (p :: ps) = cutP wt (fun x => T (sp x)) p + cutN wt (fun x => T (sp x)) ps := by
      unfold cutN
      rw [List.map_cons, List.sum_cons]
    have e4 : addAll sp much s (withW wt (p :: ps)) = addAll sp much (addPart sp much s (p, wt p.w)) (withW wt ps) := rfl
    rw [e3, e4]
    omega
theorem all_eq {sp : Str → Nat} {much : Int} {wt : Q2 → Int} {n : Nat} : ∀ {ps : List Part} {s : Can} {T : Nat → Bool}, CanW s → n ≤ s.outs.length → (∀ p ∈ ps, ∀ x ∈ p.ends, sp x < n) →
    ∃ T' : Nat → Bool, (∀ v, v < s.outs.length → T' v = T v) ∧ cutR (addAll sp much s (withW wt ps)).heads T' (addAll sp much s (withW wt ps)).rooms = cutR s.heads T s.rooms + cutN wt (fun x => T (sp x)) ps
  | [], s, T, _, _, _ => ⟨T, fun _ _ => rfl, by
    show cutR s.heads T s.rooms = cutR s.heads T s.rooms + 0
    omega⟩
  | p :: ps, s, T, w, hn, h => by
    have hp : ∀ x ∈ p.ends, sp x < s.outs.length := fun x hx => Nat.lt_of_lt_of_le (h p (by simp) x hx) hn
    obtain ⟨T1, a1, b1⟩ := part_eq (T := T) (sp := sp) (much := much) (n := s.outs.length) (wt := wt) hp
    obtain ⟨e1, c1⟩ := cut_part (sp := sp) (much := much) (s := s) ⟨w.ok.even, w.ev⟩ (T := T1) (p := p) (r := wt p.w)
    obtain ⟨w1, l1, _, _⟩ := part_w (sp := sp) (much := much) w (r := wt p.w) hp
    obtain ⟨T2, a2, b2⟩ := all_eq (sp := sp) (much := much) (wt := wt) (n := n) (ps := ps) (T := T1) w1 (Nat.le_trans hn l1) fun q hq => h q (by simp [hq])
    refine ⟨T2, fun v hv => (a2 v (Nat.lt_of_lt_of_le hv l1)).trans (a1 v hv), ?_⟩
    have e0 : cutR s.heads T1 s.rooms = cutR s.heads T s.rooms := cutR_congr w.ok.even w.ev fun a v hv => a1 v (w.hl a v hv)
    have e2 : cutN wt (fun x => T1 (sp x)) ps = cutN wt (fun x => T (sp x)) ps := by
      unfold cutN
      congr 1
      refine List.map_congr_left fun q hq => ?_
      have hx : ∀ x ∈ q.ends, T1 (sp x) = T (sp x) := fun x hx => a1 _ (Nat.lt_of_lt_of_le (h q (by simp [hq]) x hx) hn)
      cases q with
      | arc ld x y w =>
        have h1 := hx x (by simp [Part.ends])
        have h2 := hx y (by simp [Part.ends])
        cases ld <;> simp [cutP, h1, h2]
      | hub xs w =>
        have g1 : (xs.all fun x => T1 (sp x)) = xs.all fun x => T (sp x) := all_same fun x m => hx x m
        have g2 : (xs.all fun x => !T1 (sp x)) = xs.all fun x => !T (sp x) := all_same fun x m => by rw [hx x m]
        show (if (xs.all (fun x => T1 (sp x)) || xs.all fun x => !T1 (sp x)) = true then 0 else wt w) = if (xs.all (fun x => T (sp x)) || xs.all fun x => !T (sp x)) = true then 0 else wt w
        rw [g1, g2]
    have e3 : cutN wt (fun x => T (sp x)) (p :: ps) = cutP wt (fun x => T (sp x)) p + cutN wt (fun x => T (sp x)) ps := by
      unfold cutN
      rw [List.map_cons, List.sum_cons]
    have e4 : addAll sp much s (withW wt (p :: ps)) = addAll sp much (addPart sp much s (p, wt p.w)) (withW wt ps) := rfl
    rw [e3, e4, b2, c1, b1, e0, e2]
    omega
structure Least (wt : Q2 → Int) (xs : List Str) (ps : List Part) (lot : List Str) (am : Int) : Prop where
  le : ∀ S : Str → Bool, (∀ x ∈ xs, S x = decide (x ∈ lot)) → am ≤ cutN wt S ps
  eq : ∃ S : Str → Bool, (∀ x ∈ xs, S x = decide (x ∈ lot)) ∧ am = cutN wt S ps
theorem least_unique {wt : Q2 → Int} {xs lot : List Str} {ps : List Part} {a b : Int} (h : Least wt xs ps lot a) (k : Least wt xs ps lot b) : a = b := by
  obtain ⟨S, s1, s2⟩ := h.eq
  obtain ⟨U, u1, u2⟩ := k.eq
  have h1 := h.le U u1
  have k1 := k.le S s1
  omega
theorem sum_le_of_mem {x : Int} : ∀ {xs : List Int}, (∀ y ∈ xs, 0 ≤ y) → x ∈ xs → x ≤ xs.sum := fun {xs} h hx => by
  have := sumf_ge (f := fun y : Int => y) (y := x) (xs := xs) h hx
  simpa using this
theorem cutN_congr {wt : Q2 → Int} {S U : Str → Bool} {ps : List Part} (h : ∀ p ∈ ps, ∀ x ∈ p.ends, S x = U x) : cutN wt S ps = cutN wt U ps := by
  unfold cutN
  congr 1
  refine List.map_congr_left fun q hq => ?_
  have hx := h q hq
  cases q with
  | arc ld x y w =>
    have h1 := hx x (by simp [Part.ends])
    have h2 := hx y (by simp [Part.ends])
    cases ld <;> simp [cutP, h1, h2]
  | hub xs w =>
    have g1 : (xs.all fun x => S x) = xs.all fun x => U x := all_same fun x m => hx x m
    have g2 : (xs.all fun x => !S x) = xs.all fun x => !U x := all_same fun x m => by rw [hx x m]
    show (if (xs.all (fun x => S x) || xs.all fun x => !S x) = true then 0 else wt w) = if (xs.all (fun x => U x) || xs.all fun x => !U x) = true then 0 else wt w
    rw [g1, g2]
theorem net_can (zs : List Str) (ps : List Part) : netCan zs ps = addAll (idx zs) (loads ps).sum ⟨[], [], List.replicate zs.length []⟩ (withW (loadF (comm (widths ps))) ps) := by
  unfold netCan
  congr 1
  unfold loads widths withW
  rw [List.map_map]
  have : ∀ (l : List Part) (f : Part → Int), l.zip (l.map f) = l.map fun p => (p, f p) := by
    intro l f
    induction l with
    | nil => rfl
    | cons a l ih => simp [ih]
  rw [this]
  rfl
theorem net_least {xs lot : List Str} {ps : List Part} {am : Int} (hn : ∀ p ∈ ps, 0 ≤ loadF (comm (widths ps)) p.w) (hl : ∀ x ∈ lot, x ∈ xs) :
    NetMin xs ps lot (otherF xs lot) am ↔ Least (loadF (comm (widths ps))) xs ps lot am := by
  obtain ⟨zs, hz⟩ : ∃ zs, zs = placesF xs ps := ⟨_, rfl⟩
  have hz1 : ∀ x ∈ xs, x ∈ zs := fun x h => hz ▸ places_mem.mpr (.inl h)
  have hz2 : ∀ p ∈ ps, ∀ x ∈ p.ends, x ∈ zs := fun p hp x h => hz ▸ places_mem.mpr (.inr ⟨p, hp, h⟩)
  unfold NetMin
  rw [← hz, net_can]
  obtain ⟨wt, hw⟩ : ∃ wt, wt = loadF (comm (widths ps)) := ⟨_, rfl⟩
  rw [← hw] at hn ⊢
  obtain ⟨much, hm⟩ : ∃ much, much = (loads ps).sum := ⟨_, rfl⟩
  rw [← hm]
  have hle : ∀ p ∈ ps, 0 ≤ wt p.w ∧ wt p.w ≤ much := fun p hp => by
    refine ⟨hn p hp, ?_⟩
    rw [hm]
    refine sum_le_of_mem (fun y hy => ?_) ?_
    · unfold loads widths at hy
      rw [List.map_map] at hy
      obtain ⟨q, hq, rfl⟩ := List.mem_map.mp hy
      have := hn q hq
      rw [hw] at this
      exact this
    · unfold loads widths
      rw [List.map_map]
      exact List.mem_map.mpr ⟨p, hp, by rw [hw]; rfl⟩
  have W0 := begin_w zs.length
  have c0 : ∀ T, cutR (⟨[], [], List.replicate zs.length []⟩ : Can).heads T (⟨[], [], List.replicate zs.length []⟩ : Can).rooms = 0 := fun T => rfl
  have o0 : (⟨[], [], List.replicate zs.length []⟩ : Can).outs.length = zs.length := by simp
  obtain ⟨s0, hs0⟩ : ∃ s0 : Can, s0 = ⟨[], [], List.replicate zs.length []⟩ := ⟨_, rfl⟩
  rw [← hs0] at W0 c0 o0 ⊢
  have lower : ∀ T, cutN wt (fun x => T (idx zs x)) ps ≤ cutR (addAll (idx zs) much s0 (withW wt ps)).heads T (addAll (idx zs) much s0 (withW wt ps)).rooms := fun T => by
    have := all_ge (sp := idx zs) (much := much) (wt := wt) (T := T) (ps := ps) (s := s0) ⟨W0.ok.even, W0.ev⟩ hle
    rw [c0] at this
    omega
  have upper : ∀ S : Str → Bool, ∃ T : Nat → Bool, (∀ x ∈ zs, T (idx zs x) = S x) ∧ cutR (addAll (idx zs) much s0 (withW wt ps)).heads T (addAll (idx zs) much s0 (withW wt ps)).rooms = cutN wt S ps := fun S => by
    obtain ⟨T, t1, t2⟩ := all_eq (sp := idx zs) (much := much) (wt := wt) (n := zs.length) (ps := ps) (s := s0) (T := fun v => S (zs.getD v "")) W0 (by rw [o0]; exact Nat.le_refl _) fun p hp x hx => idx_lt (hz2 p hp x hx)
    have at_ : ∀ x ∈ zs, zs.getD (idx zs x) "" = x := fun x hx => by
      rw [List.getD_eq_getElem?_getD, List.getElem?_eq_getElem (idx_lt hx)]
      exact List.getElem_idxOf (idx_lt hx)
    refine ⟨T, fun x hx => ?_, ?_⟩
    · rw [t1 _ (by rw [o0]; exact idx_lt hx), at_ x hx]
    · rw [t2, c0, Int.zero_add]
      exact cutN_congr fun p hp x hx => by rw [at_ x (hz2 p hp x hx)]
  have adm1 : ∀ T : Nat → Bool, Adm (lot.map (idx zs)) ((otherF xs lot).map (idx zs)) T ↔ ∀ x ∈ xs, T (idx zs x) = decide (x ∈ lot) := fun T => by
    constructor
    · rintro ⟨h1, h2⟩ x hx
      by_cases c : x ∈ lot
      · rw [h1 _ (List.mem_map.mpr ⟨x, c, rfl⟩), decide_eq_true c]
      · rw [h2 _ (List.mem_map.mpr ⟨x, List.mem_filter.mpr ⟨hx, by simp [c]⟩, rfl⟩), decide_eq_false c]
    · intro h
      refine ⟨fun s hs => ?_, fun s hs => ?_⟩
      · obtain ⟨x, hx, rfl⟩ := List.mem_map.mp hs
        rw [h x (hl x hx), decide_eq_true hx]
      · obtain ⟨x, hx, rfl⟩ := List.mem_map.mp hs
        obtain ⟨k1, k2⟩ := List.mem_filter.mp hx
        have k3 : x ∉ lot := by simpa using k2
        rw [h x k1, decide_eq_false k3]
  constructor
  · intro h
    refine ⟨fun S hS => ?_, ?_⟩
    · obtain ⟨T, t1, t2⟩ := upper S
      rw [← t2]
      exact h.le T ((adm1 T).mpr fun x hx => by rw [t1 x (hz1 x hx)]; exact hS x hx)
    · obtain ⟨T, t1, t2⟩ := h.eq
      have a := (adm1 T).mp t1
      refine ⟨fun x => T (idx zs x), a, ?_⟩
      have l := lower T
      obtain ⟨U, u1, u2⟩ := upper fun x => T (idx zs x)
      have g := h.le U ((adm1 U).mpr fun x hx => by rw [u1 x (hz1 x hx)]; exact a x hx)
      omega
  · intro h
    refine ⟨fun T hT => Int.le_trans (h.le _ ((adm1 T).mp hT)) (lower T), ?_⟩
    obtain ⟨S, s1, s2⟩ := h.eq
    obtain ⟨T, t1, t2⟩ := upper S
    exact ⟨T, (adm1 T).mpr fun x hx => by rw [t1 x (hz1 x hx)]; exact s1 x hx, by rw [t2]; exact s2⟩
/-- there is one -/
theorem least_exists {wt : Q2 → Int} {xs lot : List Str} {ps : List Part} (hn : ∀ p ∈ ps, 0 ≤ wt p.w) : ∃ am, Least wt xs ps lot am := by
  have nn : ∀ S, 0 ≤ cutN wt S ps := fun S => sumf_nn fun p hp => by
    have := hn p hp
    cases p with
    | arc ld x y w =>
      have : 0 ≤ wt w := this
      cases ld
      · show 0 ≤ if (S x == S y) = true then 0 else wt w
        split <;> omega
      · show 0 ≤ if (S x && !S y) = true then wt w else 0
        split <;> omega
    | hub xs w =>
      have : 0 ≤ wt w := this
      show 0 ≤ if (xs.all S || xs.all fun x => !S x) = true then 0 else wt w
      split <;> omega
  have gen : ∀ n : Nat, (∃ S : Str → Bool, (∀ x ∈ xs, S x = decide (x ∈ lot)) ∧ (cutN wt S ps).toNat ≤ n) → ∃ am, Least wt xs ps lot am := by
    intro n
    induction n with
    | zero =>
      rintro ⟨S, h1, h2⟩
      have h3 := nn S
      exact ⟨cutN wt S ps, fun U hU => by have := nn U; omega, S, h1, rfl⟩
    | succ n ih =>
      rintro ⟨S, h1, h2⟩
      by_cases c : ∃ S : Str → Bool, (∀ x ∈ xs, S x = decide (x ∈ lot)) ∧ (cutN wt S ps).toNat ≤ n
      · exact ih c
      · have h3 := nn S
        refine ⟨cutN wt S ps, fun U hU => ?_, S, h1, rfl⟩
        have h4 := nn U
        have : ¬ (cutN wt U ps).toNat ≤ n := fun z => c ⟨U, hU, z⟩
        omega
  exact gen _ ⟨fun x => decide (x ∈ lot), fun _ _ => rfl, Nat.le_refl _⟩
theorem least_scale {wt wu : Q2 → Int} {xs lot : List Str} {ps : List Part} {am k : Int} (hk : 0 ≤ k) (hw : ∀ p ∈ ps, wu p.w = wt p.w * k) (h : Least wt xs ps lot am) : Least wu xs ps lot (am * k) := by
  have e : ∀ S, cutN wu S ps = cutN wt S ps * k := fun S => by
    unfold cutN
    have : ∀ l : List Part, (∀ p ∈ l, wu p.w = wt p.w * k) → (l.map (cutP wu S)).sum = (l.map (cutP wt S)).sum * k := by
      intro l
      induction l with
      | nil => intro _; simp
      | cons p l ih =>
        intro hl
        have h1 := ih fun q hq => hl q (by simp [hq])
        have h2 := hl p (by simp)
        have h3 : cutP wu S p = cutP wt S p * k := by
          cases p with
          | arc ld x y w =>
            have h2 : wu w = wt w * k := h2
            cases ld
            · show (if (S x == S y) = true then 0 else wu w) = (if (S x == S y) = true then 0 else wt w) * k
              split
              · exact (Int.zero_mul k).symm
              · exact h2
            · show (if (S x && !S y) = true then wu w else 0) = (if (S x && !S y) = true then wt w else 0) * k
              split
              · exact h2
              · exact (Int.zero_mul k).symm
          | hub xs w =>
            have h2 : wu w = wt w * k := h2
            show (if (xs.all S || xs.all fun x => !S x) = true then 0 else wu w) = (if (xs.all S || xs.all fun x => !S x) = true then 0 else wt w) * k
            split
            · exact (Int.zero_mul k).symm
            · exact h2
        rw [List.map_cons, List.map_cons, List.sum_cons, List.sum_cons, h1, h3, Int.add_mul]
    exact this ps hw
  refine ⟨fun S hS => ?_, ?_⟩
  · rw [e S]
    exact Int.mul_le_mul_of_nonneg_right (h.le S hS) hk
  · obtain ⟨S, s1, s2⟩ := h.eq
    exact ⟨S, s1, by rw [e S, ← s2]⟩
theorem red_scale {t b k : Int} (hk : 0 < k) : red (t * k) (b * k) = red t b := by
  unfold red
  have e : ((Int.gcd (t * k) (b * k) : Nat) : Int) = (Int.gcd t b : Nat) * k := by
    rw [Int.gcd_mul_right, Int.natCast_mul]
    congr 1
    omega
  rw [e, Int.mul_ediv_mul_of_pos_left _ _ hk, Int.mul_ediv_mul_of_pos_left _ _ hk]
theorem load_scale {c : Int} {q : Q2} (hc : 0 < c) (h12 : c ∣ 12) (hq : q.2 ∣ c) (hq0 : 0 < q.2) : loadF 12 q = loadF c q * (12 / c) := by
  obtain ⟨a, ha⟩ := hq
  obtain ⟨d, hd⟩ := h12
  unfold loadF
  have e1 : c / q.2 = a := by rw [ha]; exact Int.mul_ediv_cancel_left _ (by omega)
  have e2 : (12 : Int) / c = d := by rw [hd]; exact Int.mul_ediv_cancel_left _ (by omega)
  have e3 : (12 : Int) / q.2 = a * d := by rw [hd, ha, Int.mul_assoc]; exact Int.mul_ediv_cancel_left _ (by omega)
  rw [e1, e2, e3, Int.mul_assoc]
end K13
namespace K13
open PySem
theorem widths_num {ps : List Part} (hn : ∀ p ∈ ps, Num p.w) : ∀ q ∈ widths ps, Num q := fun q hq => by
  obtain ⟨p, hp, rfl⟩ := List.mem_map.mp hq
  exact hn p hp
theorem loadQ_nn {c : Int} {q : Q2} (hq : Num q) (hc : 0 < c) : 0 ≤ loadF c q := by
  unfold loadF
  exact Int.mul_nonneg hq.lo (Int.ediv_nonneg (by omega) (by have := hq.pos; omega))
theorem comm12 {ps : List Part} (hn : ∀ p ∈ ps, Num p.w) : 0 < comm (widths ps) ∧ comm (widths ps) ∣ 12 ∧ ∀ p ∈ ps, p.w.2 ∣ comm (widths ps) := by
  obtain ⟨a, b, _, d⟩ := comm_ok (widths_num hn) (c := 1) (by decide) (by decide)
  exact ⟨a, b, fun p hp => d _ (List.mem_map.mpr ⟨p, hp, rfl⟩)⟩
/-- in twelfths -/
theorem least_12 {xs lot : List Str} {ps : List Part} {am : Int} (hn : ∀ p ∈ ps, Num p.w) (h : Least (loadF (comm (widths ps))) xs ps lot am) : Least (loadF 12) xs ps lot (am * (12 / comm (widths ps))) ∧ red am (comm (widths ps)) = red (am * (12 / comm (widths ps))) 12 := by
  obtain ⟨a, b, d⟩ := comm12 hn
  have k0 : 0 < (12 : Int) / comm (widths ps) := by
    have := Int.le_of_dvd (by decide) b
    exact Int.ediv_pos_of_pos_of_dvd (by decide) (by omega) b
  refine ⟨least_scale (Int.le_of_lt k0) (fun p hp => load_scale a b (d p hp) (hn p hp).pos) h, ?_⟩
  have e : comm (widths ps) * (12 / comm (widths ps)) = 12 := Int.mul_ediv_cancel' b
  have := red_scale (t := am) (b := comm (widths ps)) k0
  rw [e] at this
  exact this.symm
theorem net_val {xs lot : List Str} {ps : List Part} {M : Int} (hn : ∀ p ∈ ps, Num p.w) (hl : ∀ x ∈ lot, x ∈ xs) (hM : Least (loadF 12) xs ps lot M) : ∃ am, NetMin xs ps lot (otherF xs lot) am ∧ red am (comm (widths ps)) = red M 12 := by
  obtain ⟨a, b, d⟩ := comm12 hn
  have nn : ∀ p ∈ ps, 0 ≤ loadF (comm (widths ps)) p.w := fun p hp => loadQ_nn (hn p hp) a
  obtain ⟨am, hm⟩ := least_exists (wt := loadF (comm (widths ps))) (xs := xs) (lot := lot) nn
  obtain ⟨h1, h2⟩ := least_12 hn hm
  have := least_unique h1 hM
  exact ⟨am, (net_least nn hl).mpr hm, by rw [h2, this]⟩
theorem cutN_flat {wt : Q2 → Int} {S : Str → Bool} {f : Part → List Part} : ∀ {ps : List Part}, (∀ p ∈ ps, cutN wt S (f p) = cutP wt S p) → cutN wt S (ps.flatMap f) = cutN wt S ps
  | [], _ => rfl
  | p :: ps, h => by
    have h1 := h p (by simp)
    have h2 := cutN_flat (wt := wt) (S := S) (f := f) (ps := ps) fun q hq => h q (by simp [hq])
    unfold cutN at h1 h2 ⊢
    rw [List.flatMap_cons, List.map_append, List.sum_append, List.map_cons, List.sum_cons, h1, h2]
theorem least_same {wt : Q2 → Int} {xs lot : List Str} {ps qs : List Part} {M : Int} (h : ∀ S, cutN wt S qs = cutN wt S ps) (k : Least wt xs ps lot M) : Least wt xs qs lot M := by
  refine ⟨fun S hS => by rw [h S]; exact k.le S hS, ?_⟩
  obtain ⟨S, s1, s2⟩ := k.eq
  exact ⟨S, s1, by rw [h S]; exact s2⟩
theorem cut_both {wt : Q2 → Int} {S : Str → Bool} {p : Part} (h : isArc p = true) : cutN wt S (bothF p) = cutP wt S p := by
  cases p with
  | hub xs w => cases h
  | arc ld x y w => cases ld <;> cases hx : S x <;> cases hy : S y <;> simp [cutN, bothF, cutP, hx, hy]
theorem cut_hub {wt : Q2 → Int} {S : Str → Bool} {p : Part} (h : p.kind ≠ "lead") : cutP wt S (hubF p) = cutP wt S p := by
  cases p with
  | hub xs w => rfl
  | arc ld x y w =>
    cases ld with
    | true => exact absurd rfl h
    | false => cases hx : S x <;> cases hy : S y <;> simp [hubF, Part.ends, Part.w, cutP, hx, hy]
theorem kd_lead {x y : Str} {w : Q2} : (Part.arc true x y w).kind ≠ "hub" := by
  show ("lead" : Str) ≠ "hub"
  decide
theorem kd_pipe {x y : Str} {w : Q2} : (Part.arc false x y w).kind ≠ "lead" := by
  show ("pipe" : Str) ≠ "lead"
  decide
structure W6 (q : Q2) : Prop where
  num : Num q
  dv : q.2 ∣ 6
theorem half_num {q : Q2} (h : W6 q) : Num (halfQ q) := by
  have hp := h.num.pos
  have hlo := h.num.lo
  have hhi := h.num.hi
  obtain ⟨k, hk⟩ := h.dv
  have g0 : 0 < (Int.gcd q.1 (q.2 * 2) : Int) := by
    have : 0 < Int.gcd q.1 (q.2 * 2) := Int.gcd_pos_of_ne_zero_right _ (by omega)
    omega
  have d1 : (Int.gcd q.1 (q.2 * 2) : Int) ∣ q.1 := Int.gcd_dvd_left ..
  have d2 : (Int.gcd q.1 (q.2 * 2) : Int) ∣ q.2 * 2 := Int.gcd_dvd_right ..
  refine ⟨Int.ediv_nonneg hlo (by omega), ?_, Int.ediv_pos_of_pos_of_dvd (by omega) (by omega) d2, ?_, ?_⟩
  · exact Int.le_trans (Int.ediv_le_self _ hlo) hhi
  · refine Int.dvd_trans (b := q.2 * 2) ?_ ⟨k, ?_⟩
    · exact ⟨_, (Int.ediv_mul_cancel d2).symm⟩
    · rw [Int.mul_assoc, Int.mul_comm 2 k, ← Int.mul_assoc, ← hk]
      decide
  · have := Int.gcd_ediv_gcd_ediv_gcd (i := q.1) (j := q.2 * 2) (by omega)
    exact this
theorem half_load {q : Q2} (h : W6 q) : loadF 12 (halfQ q) + loadF 12 (halfQ q) = loadF 12 q := by
  have hp := h.num.pos
  obtain ⟨k, hk⟩ := h.dv
  have g0 : 0 < (Int.gcd q.1 (q.2 * 2) : Int) := by
    have : 0 < Int.gcd q.1 (q.2 * 2) := Int.gcd_pos_of_ne_zero_right _ (by omega)
    omega
  obtain ⟨a, ha⟩ : (Int.gcd q.1 (q.2 * 2) : Int) ∣ q.1 := Int.gcd_dvd_left ..
  obtain ⟨b, hb⟩ : (Int.gcd q.1 (q.2 * 2) : Int) ∣ q.2 * 2 := Int.gcd_dvd_right ..
  obtain ⟨g, hg⟩ : ∃ g : Int, g = (Int.gcd q.1 (q.2 * 2) : Int) := ⟨_, rfl⟩
  rw [← hg] at ha hb g0
  have e1 : halfQ q = (a, b) := by
    unfold halfQ red
    rw [← hg]
    rw [hb]
    have : q.1 / g = a := by rw [ha]; exact Int.mul_ediv_cancel_left _ (by omega)
    rw [this, Int.mul_ediv_cancel_left _ (show g ≠ 0 by omega)]
  have b0 : b ≠ 0 := fun z => by rw [z, Int.mul_zero] at hb; omega
  have e12 : (12 : Int) = b * (g * k) := by
    rw [← Int.mul_assoc, Int.mul_comm b g, ← hb, Int.mul_assoc, Int.mul_comm 2 k, ← Int.mul_assoc, ← hk]
    decide
  have e3 : (12 : Int) = q.2 * (2 * k) := by
    rw [Int.mul_comm 2 k, ← Int.mul_assoc, ← hk]
    decide
  have f1 : (12 : Int) / b = g * k := by
    rw [e12]
    exact Int.mul_ediv_cancel_left _ b0
  have f2 : (12 : Int) / q.2 = 2 * k := by
    rw [e3]
    exact Int.mul_ediv_cancel_left _ (by omega)
  rw [e1]
  unfold loadF
  show a * ((12 : Int) / b) + a * ((12 : Int) / b) = q.1 * ((12 : Int) / q.2)
  rw [f1, f2, ha, ← Int.mul_assoc, Int.mul_comm a g, Int.mul_comm 2 k, ← Int.mul_assoc]
  omega
theorem cut_pipes {S : Str → Bool} {p : Part} (h : W6 p.w) (hk : p.kind ≠ "lead") (hl : p.ends.length = 2 ∨ p.ends.length = 3) : cutN (loadF 12) S (pipesF p) = cutP (loadF 12) S p := by
  cases p with
  | arc ld x y w =>
    cases ld with
    | true => exact absurd rfl hk
    | false => simp [cutN, pipesF, Part.ends, Part.w]
  | hub xs w =>
    have hf := half_load (show W6 w from h)
    match xs, hl with
    | [x, y], _ => cases hx : S x <;> cases hy : S y <;> simp [cutN, pipesF, Part.ends, Part.w, cutP, hx, hy]
    | [x, y, z], _ =>
      cases hx : S x <;> cases hy : S y <;> cases hz : S z <;> simp [cutN, pipesF, Part.ends, Part.w, cutP, hx, hy, hz] <;> omega
theorem sub_len {xs ys : List Str} (nd : xs.Nodup) (h : ∀ x ∈ xs, x ∈ ys) : xs.length ≤ ys.length := by
  induction xs generalizing ys with
  | nil => simp
  | cons x xs ih =>
    obtain ⟨h1, h2⟩ := List.nodup_cons.mp nd
    have hx : x ∈ ys := h x (by simp)
    have := ih (ys := ys.erase x) h2 fun y hy => (List.mem_erase_of_ne (fun e => h1 (by rw [← e]; exact hy))).mpr (h y (by simp [hy]))
    rw [List.length_erase_of_mem hx] at this
    have := List.length_pos_of_mem hx
    rw [List.length_cons]
    omega
theorem few_sub {xs : List Str} {ps qs : List Part} (h : ∀ q ∈ qs, ∀ x ∈ q.ends, ∃ p ∈ ps, x ∈ p.ends) : (placesF xs qs).length ≤ (placesF xs ps).length :=
  sub_len (places_ok xs qs).nd fun x hx => by
    rw [places_mem] at hx ⊢
    rcases hx with z | ⟨q, hq, z⟩
    · exact .inl z
    · obtain ⟨p, hp, e⟩ := h q hq x z
      exact .inr ⟨p, hp, e⟩
theorem net_turn {xs : List Str} {ps : List Part} {f : Part → List Part} (n : NetOk xs ps) (hl : (ps.flatMap f).length ≤ 200) (ho : ∀ p ∈ ps, ∀ q ∈ f p, PartOk q ∧ ∀ x ∈ q.ends, x ∈ p.ends) (h1 : ¬ (anyK (ps.flatMap f) "lead" = true ∧ anyK (ps.flatMap f) "hub" = true)) : NetOk xs (ps.flatMap f) := by
  refine ⟨n.taps, hl, fun q hq => ?_, h1, Nat.le_trans (few_sub fun q hq x hx => ?_) n.few⟩
  · obtain ⟨p, hp, hq⟩ := List.mem_flatMap.mp hq
    exact (ho p hp q hq).1
  · obtain ⟨p, hp, hq⟩ := List.mem_flatMap.mp hq
    exact ⟨p, hp, (ho p hp q hq).2 x hx⟩
theorem anyK_false {ps : List Part} {k : Str} (h : ∀ p ∈ ps, p.kind ≠ k) : anyK ps k = false := List.any_eq_false.mpr fun p hp => by simp [h p hp]
theorem anyK_of {ps : List Part} {k : Str} (h : anyK ps k = false) : ∀ p ∈ ps, p.kind ≠ k := fun p hp => by
  have := List.any_eq_false.mp h p hp
  simpa using this
theorem net_leads {xs : List Str} {ps : List Part} (n : NetOk xs ps) (hk : anyK ps "hub" = false) (hl : (ps.flatMap bothF).length ≤ 200) : NetOk xs (ps.flatMap bothF) := by
  have ho : ∀ p ∈ ps, ∀ q ∈ bothF p, (PartOk q ∧ ∀ x ∈ q.ends, x ∈ p.ends) ∧ q.kind ≠ "hub" := fun p hp q hq => by
    have ok := n.ok p hp
    cases p with
    | hub ys w => exact absurd rfl (anyK_of hk _ hp)
    | arc ld x y w =>
      obtain ⟨a, b, c, d⟩ := ok
      cases ld with
      | true =>
        obtain rfl : q = .arc true x y w := by simpa [bothF] using hq
        exact ⟨⟨⟨a, b, c, d⟩, fun x h => h⟩, kd_lead⟩
      | false =>
        have d' : SLt x y := d
        have ne : x ≠ y := fun e => List.lt_irrefl _ (show x.cps.toList < x.cps.toList from by have := d'; rw [← e] at this; exact this)
        have hq' : q = .arc true x y w ∨ q = .arc true y x w := by simpa [bothF] using hq
        rcases hq' with rfl | rfl
        · exact ⟨⟨⟨a, b, c, ne⟩, fun x h => h⟩, kd_lead⟩
        · refine ⟨⟨⟨b, a, c, Ne.symm ne⟩, fun z h => ?_⟩, kd_lead⟩
          simp [Part.ends] at h ⊢
          rcases h with h | h <;> simp [h]
  refine net_turn n hl (fun p hp q hq => (ho p hp q hq).1) fun z => ?_
  have := anyK_false (ps := ps.flatMap bothF) (k := "hub") fun q hq => by
    obtain ⟨p, hp, hq⟩ := List.mem_flatMap.mp hq
    exact (ho p hp q hq).2
  rw [this] at z
  exact absurd z.2 (by decide)
theorem names_pair {x y : Str} (hx : nameB x = true) (hy : nameB y = true) (h : SLt x y) : Names [x, y] :=
  ⟨fun z hz => by simp at hz; rcases hz with rfl | rfl <;> assumption, List.pairwise_pair.mpr h, Nat.le_of_ble_eq_true rfl⟩
theorem net_hubs {xs : List Str} {ps : List Part} (n : NetOk xs ps) (hk : anyK ps "lead" = false) : NetOk xs (ps.map hubF) := by
  have e : ps.map hubF = ps.flatMap fun p => [hubF p] := by
    rw [List.map_eq_flatMap]
  rw [e]
  have hl : (ps.flatMap fun p => [hubF p]).length ≤ 200 := by rw [← e, List.length_map]; exact n.len
  refine net_turn n hl (fun p hp q hq => ?_) fun z => ?_
  · obtain rfl : q = hubF p := by simpa using hq
    have ok := n.ok p hp
    refine ⟨?_, fun x h => h⟩
    cases p with
    | hub ys w => exact ok
    | arc ld x y w =>
      obtain ⟨a, b, c, d⟩ := ok
      cases ld with
      | true => exact absurd rfl (anyK_of hk _ hp)
      | false => exact ⟨names_pair a b d, Nat.le_refl _, c⟩
  · have := anyK_false (ps := ps.flatMap fun p => [hubF p]) (k := "lead") fun q hq => by
      obtain ⟨p, hp, hq⟩ := List.mem_flatMap.mp hq
      obtain rfl : q = hubF p := by simpa using hq
      show ("hub" : Str) ≠ "lead"
      decide
    rw [this] at z
    exact absurd z.1 (by decide)
theorem net_pipes {xs : List Str} {ps : List Part} (n : NetOk xs ps) (hk : anyK ps "lead" = false) (hw : ∀ p ∈ ps, W6 p.w) (h3 : ∀ p ∈ ps, p.ends.length ≤ 3) (hl : (ps.flatMap pipesF).length ≤ 200) : NetOk xs (ps.flatMap pipesF) := by
  have ho : ∀ p ∈ ps, ∀ q ∈ pipesF p, (PartOk q ∧ ∀ x ∈ q.ends, x ∈ p.ends) ∧ q.kind ≠ "lead" := fun p hp q hq => by
    have ok := n.ok p hp
    have w6 := hw p hp
    have hn := half_num w6
    have he := ends_ge ok
    have h3 := h3 p hp
    cases p with
    | arc ld x y w =>
      cases ld with
      | true => exact absurd rfl (anyK_of hk _ hp)
      | false =>
        obtain rfl : q = .arc false x y w := by simpa [pipesF, Part.ends, Part.w] using hq
        exact ⟨⟨ok, fun x h => h⟩, kd_pipe⟩
    | hub ys w =>
      obtain ⟨nm, _, nw⟩ := ok
      match ys, he, h3 with
      | [x, y], _, _ =>
        obtain rfl : q = .arc false x y w := by simpa [pipesF, Part.ends, Part.w] using hq
        have l := nm.asc
        simp at l
        exact ⟨⟨⟨nm.ok x (by simp), nm.ok y (by simp), nw, l⟩, fun x h => h⟩, kd_pipe⟩
      | [x, y, z], _, _ =>
        have l := nm.asc
        simp at l
        obtain ⟨⟨l1, l2⟩, l3⟩ := l
        have hq' : q = .arc false x y (halfQ w) ∨ q = .arc false x z (halfQ w) ∨ q = .arc false y z (halfQ w) := by simpa [pipesF, Part.ends, Part.w] using hq
        rcases hq' with rfl | rfl | rfl
        · exact ⟨⟨⟨nm.ok x (by simp), nm.ok y (by simp), hn, l1⟩, fun v h => by simp [Part.ends] at h ⊢; rcases h with h | h <;> simp [h]⟩, kd_pipe⟩
        · exact ⟨⟨⟨nm.ok x (by simp), nm.ok z (by simp), hn, l2⟩, fun v h => by simp [Part.ends] at h ⊢; rcases h with h | h <;> simp [h]⟩, kd_pipe⟩
        · exact ⟨⟨⟨nm.ok y (by simp), nm.ok z (by simp), hn, l3⟩, fun v h => by simp [Part.ends] at h ⊢; rcases h with h | h <;> simp [h]⟩, kd_pipe⟩
  refine net_turn n hl (fun p hp q hq => (ho p hp q hq).1) fun z => ?_
  have := anyK_false (ps := ps.flatMap pipesF) (k := "lead") fun q hq => by
    obtain ⟨p, hp, hq⟩ := List.mem_flatMap.mp hq
    exact (ho p hp q hq).2
  rw [this] at z
  exact absurd z.1 (by decide)
end K13
namespace K13
open PySem
theorem bit_high {b i j : Nat} (h : b.testBit i = false) (hj : i < j) : (2 ^ i + b).testBit j = b.testBit j := by
  have e : (2 ^ i + b) / 2 ^ (i + 1) = b / 2 ^ (i + 1) := by
    have h2 : b / 2 ^ i % 2 = 0 := by
      rw [Nat.testBit_eq_decide_div_mod_eq] at h
      have := of_decide_eq_false h
      omega
    have p : 0 < 2 ^ i := Nat.two_pow_pos i
    have e1 : (2 ^ i + b) / 2 ^ i = 1 + b / 2 ^ i := by
      rw [Nat.add_div_left _ p]
      omega
    rw [Nat.pow_succ, ← Nat.div_div_eq_div_mul, ← Nat.div_div_eq_div_mul, e1]
    omega
  have g : ∀ x : Nat, x.testBit j = (x / 2 ^ (i + 1)).testBit (j - (i + 1)) := fun x => by
    rw [Nat.testBit_div_two_pow]
    congr 1
    omega
  rw [g, g b, e]
theorem bit_add {b i j : Nat} (h : b.testBit i = false) : (2 ^ i + b).testBit j = (decide (j = i) || b.testBit j) := by
  rcases Nat.lt_trichotomy j i with c | c | c
  · rw [Nat.testBit_two_pow_add_gt c, decide_eq_false (by omega)]
    rfl
  · subst c
    rw [Nat.testBit_two_pow_add_eq, h]
    simp
  · rw [bit_high h c, decide_eq_false (by omega)]
    rfl
theorem mask_bit {zs : List Str} : ∀ {xs : List Str} (j : Nat), xs.Nodup → (∀ x ∈ xs, x ∈ zs) → (maskOf zs xs).testBit j = xs.any fun x => decide (j = idx zs x)
  | [], j, _, _ => by simp [maskOf]
  | x :: xs, j, nd, h => by
    obtain ⟨n1, n2⟩ := List.nodup_cons.mp nd
    have ih := fun j => mask_bit (zs := zs) (xs := xs) j n2 fun y hy => h y (by simp [hy])
    have e : maskOf zs (x :: xs) = 2 ^ idx zs x + maskOf zs xs := by
      unfold maskOf
      rw [List.map_cons, List.sum_cons]
      rfl
    have z : (maskOf zs xs).testBit (idx zs x) = false := by
      rw [ih]
      refine List.any_eq_false.mpr fun y hy => ?_
      have : idx zs x ≠ idx zs y := fun q => n1 (by rw [idx_inj (h x (by simp)) q]; exact hy)
      simp [this]
    rw [e, bit_add z, ih, List.any_cons]
theorem mask_at {zs xs : List Str} {x : Str} (nd : xs.Nodup) (h : ∀ y ∈ xs, y ∈ zs) (hx : x ∈ zs) : (maskOf zs xs).testBit (idx zs x) = decide (x ∈ xs) := by
  rw [mask_bit _ nd h]
  by_cases c : x ∈ xs
  · rw [decide_eq_true c]
    exact List.any_eq_true.mpr ⟨x, c, by simp⟩
  · rw [decide_eq_false c]
    refine List.any_eq_false.mpr fun y hy => ?_
    have : idx zs x ≠ idx zs y := fun q => c (by rw [idx_inj hx q]; exact hy)
    simp [this]
def sideOf (zs : List Str) (m : Nat) (x : Str) : Bool := m.testBit (idx zs x)
theorem and_bit {m i : Nat} : (m &&& 2 ^ i = 0) ↔ m.testBit i = false := by
  constructor
  · intro e
    have := congrArg (fun n => n.testBit i) e
    simpa [Nat.testBit_and, Nat.testBit_two_pow] using this
  · intro e
    refine Nat.eq_of_testBit_eq fun j => ?_
    rw [Nat.testBit_and, Nat.testBit_two_pow, Nat.zero_testBit]
    by_cases c : i = j
    · rw [← c, e]
      rfl
    · simp [c]
theorem and_none {zs xs : List Str} {m : Nat} (nd : xs.Nodup) (h : ∀ y ∈ xs, y ∈ zs) : (m &&& maskOf zs xs) = 0 ↔ (xs.all fun x => !sideOf zs m x) = true := by
  rw [List.all_eq_true]
  constructor
  · intro e x hx
    have := congrArg (fun n => n.testBit (idx zs x)) e
    simp only [Nat.testBit_and, mask_at nd h (h x hx), Nat.zero_testBit, hx, decide_true, Bool.and_true] at this
    unfold sideOf
    rw [this]
    rfl
  · intro k
    refine Nat.eq_of_testBit_eq fun j => ?_
    rw [Nat.testBit_and, Nat.zero_testBit, mask_bit j nd h]
    cases c : xs.any fun x => decide (j = idx zs x) with
    | false => simp
    | true =>
      obtain ⟨x, hx, e⟩ := List.any_eq_true.mp c
      have e := of_decide_eq_true e
      have := k x hx
      unfold sideOf at this
      rw [← e] at this
      simpa using this
theorem and_all {zs xs : List Str} {m : Nat} (nd : xs.Nodup) (h : ∀ y ∈ xs, y ∈ zs) : (m &&& maskOf zs xs) = maskOf zs xs ↔ (xs.all fun x => sideOf zs m x) = true := by
  rw [List.all_eq_true]
  constructor
  · intro e x hx
    have := congrArg (fun n => n.testBit (idx zs x)) e
    simp only [Nat.testBit_and, mask_at nd h (h x hx), hx, decide_true, Bool.and_true] at this
    exact this
  · intro k
    refine Nat.eq_of_testBit_eq fun j => ?_
    rw [Nat.testBit_and, mask_bit j nd h]
    cases c : xs.any fun x => decide (j = idx zs x) with
    | false => simp
    | true =>
      obtain ⟨x, hx, e⟩ := List.any_eq_true.mp c
      have e := of_decide_eq_true e
      have := k x hx
      unfold sideOf at this
      rw [← e] at this
      simpa using this
theorem part_cost {zs : List Str} {c : Int} {m : Nat} {p : Part} (nd : p.ends.Nodup) (h : ∀ x ∈ p.ends, x ∈ zs) : partCost zs c m p = cutP (loadF c) (sideOf zs m) p := by
  cases p with
  | arc ld x y w =>
    cases ld with
    | true =>
      show (if (m &&& 2 ^ idx zs x) ≠ 0 ∧ (m &&& 2 ^ idx zs y) = 0 then loadF c w else 0) = if (sideOf zs m x && !sideOf zs m y) = true then loadF c w else 0
      unfold sideOf
      congr 1
      rw [and_bit, ne_eq, and_bit]
      simp
    | false =>
      show (if (m &&& maskOf zs [x, y]) = 0 ∨ (m &&& maskOf zs [x, y]) = maskOf zs [x, y] then 0 else loadF c w) = if (sideOf zs m x == sideOf zs m y) = true then 0 else loadF c w
      have nd : ([x, y] : List Str).Nodup := nd
      have h : ∀ v ∈ [x, y], v ∈ zs := h
      congr 1
      rw [and_none nd h, and_all nd h]
      cases hsx : sideOf zs m x <;> cases hsy : sideOf zs m y <;> simp [hsx, hsy]
  | hub xs w =>
    show (if (m &&& maskOf zs xs) = 0 ∨ (m &&& maskOf zs xs) = maskOf zs xs then 0 else loadF c w) = if (xs.all (sideOf zs m) || xs.all fun x => !sideOf zs m x) = true then 0 else loadF c w
    have nd : xs.Nodup := nd
    have h : ∀ v ∈ xs, v ∈ zs := h
    congr 1
    rw [and_none nd h, and_all nd h, Bool.or_eq_true]
    exact propext Or.comm
theorem cost_cut {zs : List Str} {c : Int} {ps : List Part} {m : Nat} (h : ∀ p ∈ ps, p.ends.Nodup ∧ ∀ x ∈ p.ends, x ∈ zs) : costOf zs c ps m = cutN (loadF c) (sideOf zs m) ps := by
  unfold costOf cutN
  congr 1
  exact List.map_congr_left fun p hp => part_cost (h p hp).1 (h p hp).2
/-- a side as a mask -/
theorem mask_side {zs : List Str} (nd : zs.Nodup) (S : Str → Bool) : ∃ m, m < 2 ^ zs.length ∧ ∀ x ∈ zs, sideOf zs m x = S x := by
  have nd2 : (zs.filter S).Nodup := nd.sublist List.filter_sublist
  have sub : ∀ y ∈ zs.filter S, y ∈ zs := fun y hy => (List.mem_filter.mp hy).1
  refine ⟨maskOf zs (zs.filter S), Nat.lt_pow_two_of_testBit _ fun i hi => ?_, fun x hx => ?_⟩
  · rw [mask_bit i nd2 sub]
    refine List.any_eq_false.mpr fun y hy => ?_
    have := idx_lt (sub y hy)
    simp
    omega
  · unfold sideOf
    rw [mask_at nd2 sub hx]
    cases hs : S x with
    | true => exact decide_eq_true (List.mem_filter.mpr ⟨hx, hs⟩)
    | false => exact decide_eq_false fun z => by rw [(List.mem_filter.mp z).2] at hs; cases hs
/-- the masks of a lot -/
theorem mask_lot {zs xs lot : List Str} {m : Nat} (hx : xs.Nodup) (hz : ∀ x ∈ xs, x ∈ zs) (hl : lot.Nodup) (hlx : ∀ x ∈ lot, x ∈ xs) : (m &&& maskOf zs xs) = maskOf zs lot ↔ ∀ x ∈ xs, sideOf zs m x = decide (x ∈ lot) := by
  have hlz : ∀ x ∈ lot, x ∈ zs := fun x h => hz x (hlx x h)
  constructor
  · intro e x h
    have := congrArg (fun n => n.testBit (idx zs x)) e
    simp only [Nat.testBit_and, mask_at hx hz (hz x h), mask_at hl hlz (hz x h), h, decide_true, Bool.and_true] at this
    exact this
  · intro k
    refine Nat.eq_of_testBit_eq fun j => ?_
    rw [Nat.testBit_and, mask_bit j hx hz, mask_bit j hl hlz]
    cases c : xs.any fun x => decide (j = idx zs x) with
    | false =>
      rw [Bool.and_false]
      refine Eq.symm (List.any_eq_false.mpr fun y hy => ?_)
      exact List.any_eq_false.mp c y (hlx y hy)
    | true =>
      obtain ⟨x, hxx, e⟩ := List.any_eq_true.mp c
      have e := of_decide_eq_true e
      have e2 := k x hxx
      unfold sideOf at e2
      rw [← e] at e2
      rw [e2, Bool.and_true]
      by_cases hm : x ∈ lot
      · rw [decide_eq_true hm]
        exact (List.any_eq_true.mpr ⟨x, hm, by simp [e]⟩).symm
      · rw [decide_eq_false hm]
        refine Eq.symm (List.any_eq_false.mpr fun y hy => ?_)
        have : idx zs x ≠ idx zs y := fun q => hm (by rw [idx_inj (hz x hxx) q]; exact hy)
        simp [e, this]
def minO : Option Int → Int → Int
  | none, c => c
  | some b, c => if c < b then c else b
def bstF (wh k : Nat) (o : Option Int) (z : Int × Nat) : Option Int := if (z.2 &&& wh) = k then some (minO o z.1) else o
def bst (cs : List Int) (wh k : Nat) : Option Int := cs.zipIdx.foldl (bstF wh k) none
theorem bst_gen {wh k : Nat} : ∀ (l : List (Int × Nat)) (o : Option Int) (v : Int), l.foldl (bstF wh k) o = some v →
    ((o = some v ∨ ∃ z ∈ l, (z.2 &&& wh) = k ∧ z.1 = v) ∧ (∀ u, o = some u → v ≤ u) ∧ ∀ z ∈ l, (z.2 &&& wh) = k → v ≤ z.1)
  | [], o, v, h => ⟨.inl h, fun u hu => by rw [show o = some v from h] at hu; cases hu; exact Int.le_refl _, fun z hz => by cases hz⟩
  | z :: l, o, v, h => by
    rw [List.foldl_cons] at h
    obtain ⟨h1, h2, h3⟩ := bst_gen l _ v h
    unfold bstF at h1 h2
    by_cases c : (z.2 &&& wh) = k
    · rw [if_pos c] at h1 h2
      have hv := h2 _ rfl
      have m1 : minO o z.1 ≤ z.1 := by
        cases o with
        | none => exact Int.le_refl _
        | some b =>
          show (if z.1 < b then z.1 else b) ≤ z.1
          split <;> omega
      refine ⟨?_, fun u hu => ?_, fun y hy hk => ?_⟩
      · rcases h1 with h1 | ⟨y, hy, e⟩
        · cases o with
          | none => exact .inr ⟨z, by simp, c, Option.some.inj h1⟩
          | some b =>
            have h1 := Option.some.inj h1
            have h1 : (if z.1 < b then z.1 else b) = v := h1
            by_cases q : z.1 < b
            · rw [if_pos q] at h1
              exact .inr ⟨z, by simp, c, h1⟩
            · rw [if_neg q] at h1
              exact .inl (by rw [h1])
        · exact .inr ⟨y, by simp [hy], e⟩
      · subst hu
        have : minO (some u) z.1 ≤ u := by
          show (if z.1 < u then z.1 else u) ≤ u
          split <;> omega
        omega
      · rcases List.mem_cons.mp hy with rfl | hy
        · omega
        · exact h3 y hy hk
    · rw [if_neg c] at h1 h2
      refine ⟨?_, h2, fun y hy hk => ?_⟩
      · rcases h1 with h1 | ⟨y, hy, e⟩
        · exact .inl h1
        · exact .inr ⟨y, by simp [hy], e⟩
      · rcases List.mem_cons.mp hy with rfl | hy
        · exact absurd hk c
        · exact h3 y hy hk
theorem bst_some {wh k : Nat} : ∀ (l : List (Int × Nat)) (o : Option Int), (o.isSome = true ∨ ∃ z ∈ l, (z.2 &&& wh) = k) → (l.foldl (bstF wh k) o).isSome = true
  | [], o, h => by
    rcases h with h | ⟨z, hz, _⟩
    · exact h
    · cases hz
  | z :: l, o, h => by
    rw [List.foldl_cons]
    refine bst_some l _ ?_
    unfold bstF
    by_cases c : (z.2 &&& wh) = k
    · rw [if_pos c]
      exact .inl rfl
    · rw [if_neg c]
      rcases h with h | ⟨y, hy, e⟩
      · exact .inl h
      · rcases List.mem_cons.mp hy with rfl | hy
        · exact absurd e c
        · exact .inr ⟨y, hy, e⟩
theorem costs_mem {zs : List Str} {c : Int} {ps : List Part} {z : Int × Nat} : z ∈ (costsF zs c ps).zipIdx ↔ z.2 < 2 ^ zs.length ∧ z.1 = costOf zs c ps z.2 := by
  obtain ⟨a, m⟩ := z
  rw [List.mem_zipIdx_iff_getElem?]
  unfold costsF
  rw [List.getElem?_map]
  constructor
  · intro h
    cases e : (List.range (2 ^ zs.length))[m]? with
    | none => rw [e] at h; cases h
    | some v =>
      rw [e] at h
      obtain ⟨h1, h2⟩ := List.getElem?_eq_some_iff.mp e
      have h3 : m = v := by simpa using h2
      have h4 : m < 2 ^ zs.length := by simpa using h1
      refine ⟨h4, ?_⟩
      have : costOf zs c ps v = a := Option.some.inj h
      rw [← this, h3]
  · rintro ⟨h1, h2⟩
    have h1 : m < 2 ^ zs.length := h1
    have h2 : a = costOf zs c ps m := h2
    rw [List.getElem?_range h1, h2]
    rfl
/-- what the law finds -/
theorem best_least {xs zs lot : List Str} {ps : List Part} {c : Int} (nz : zs.Nodup) (hx : xs.Nodup) (hz : ∀ x ∈ xs, x ∈ zs) (hl : lot.Nodup) (hlx : ∀ x ∈ lot, x ∈ xs) (hp : ∀ p ∈ ps, p.ends.Nodup ∧ ∀ x ∈ p.ends, x ∈ zs) :
    ∃ am, bst (costsF zs c ps) (maskOf zs xs) (maskOf zs lot) = some am ∧ Least (loadF c) xs ps lot am := by
  have reach : ∀ S : Str → Bool, (∀ x ∈ xs, S x = decide (x ∈ lot)) → ∃ z ∈ (costsF zs c ps).zipIdx, (z.2 &&& maskOf zs xs) = maskOf zs lot ∧ z.1 = cutN (loadF c) S ps := fun S hS => by
    obtain ⟨m, hm, e⟩ := mask_side nz S
    refine ⟨(costOf zs c ps m, m), costs_mem.mpr ⟨hm, rfl⟩, (mask_lot hx hz hl hlx).mpr fun x h => by rw [e x (hz x h)]; exact hS x h, ?_⟩
    show costOf zs c ps m = _
    rw [cost_cut hp]
    exact cutN_congr fun p hpp x h => e x ((hp p hpp).2 x h)
  obtain ⟨z0, hz0, k0, _⟩ := reach (fun x => decide (x ∈ lot)) fun _ _ => rfl
  obtain ⟨am, ham⟩ := Option.isSome_iff_exists.mp (bst_some (k := maskOf zs lot) (wh := maskOf zs xs) (costsF zs c ps).zipIdx none (.inr ⟨z0, hz0, k0⟩))
  obtain ⟨h1, _, h3⟩ := bst_gen _ _ _ ham
  refine ⟨am, ham, ⟨fun S hS => ?_, ?_⟩⟩
  · obtain ⟨z, hz1, k, e⟩ := reach S hS
    rw [← e]
    exact h3 z hz1 k
  · rcases h1 with h1 | ⟨z, hz1, k, e⟩
    · cases h1
    · obtain ⟨_, e2⟩ := costs_mem.mp hz1
      refine ⟨sideOf zs z.2, (mask_lot hx hz hl hlx).mp k, ?_⟩
      rw [← e, e2, cost_cut hp]
end K13
namespace K13
open PySem PySem.Spec PyProof.Rows L2
open Evl (Ex fresh_back ex_l ex_t)
/-- one step of reading an expression's worth -/
local macro_rules | `(tactic| walk_at "eg1") => `(tactic| first
  | exact eg_var rfl | exact eg_int | exact eg_str | exact eg_bl | exact eg_non | exact tg_yes | exact og_none
  | apply og_some
  | apply tg_test | apply tg_B | apply tg_not | apply eg_notV | apply eg_neg
  | apply eg_isi
  | apply eg_ixT | apply eg_ixL
  | apply eg_cmp | apply eg_i0 | apply eg_ic
  | apply eg_op (hr := rg_eqI) | apply eg_op (hr := rg_eqS) | apply eg_op (hr := rg_neI) | apply eg_op (hr := rg_neS)
  | apply eg_cb (hr := cg_gcd)
  | exact (rfl : atI _ _ = _) | exact (rfl : kitB _ _ = _)
  | exact ag_nil | apply ag_cons
  | exact (by assumption : EG _ _ _ _ _) | apply eg_tup | apply eg_lst | exact Nat.le_of_ble_eq_true rfl)
local macro_rules | `(tactic| walk_at "eg") => `(tactic| repeat' walk_at "eg1")
section
variable {P : Program} {w : World} {K : PySem.W.Frag} {mg : Str → Option Value} {base : Heap} {L : SH} {G : Gm} {te ta tl : TE} {ts : TS} {R : GV → SH → Prop}
theorem cost_take {zs : List Str} {c : Int} {ps : List Part} {i m : Nat} {q : Part} (h : ps[i]? = some q) : costOf zs c (ps.take (i + 1)) m = costOf zs c (ps.take i) m + partCost zs c m q := by
  unfold costOf
  rw [List.take_add_one, h, List.map_append, List.sum_append]
  simp
theorem costs_map {zs : List Str} {c : Int} {ps : List Part} {f : Nat → Int} : ((costsF zs c ps).zipIdx.map fun z => z.1 + f z.2) = (List.range (2 ^ zs.length)).map fun m => costOf zs c ps m + f m := by
  unfold costsF
  refine List.ext_getElem? fun j => ?_
  rw [List.getElem?_map, List.getElem?_zipIdx, List.getElem?_map, List.getElem?_map]
  by_cases h : j < 2 ^ zs.length
  · rw [List.getElem?_range h]
    simp
  · rw [List.getElem?_eq_none (by simpa using h)]
    rfl
theorem costs_zero {zs : List Str} {c : Int} : costsF zs c [] = List.replicate (2 ^ zs.length) 0 := by
  unfold costsF costOf
  show (List.range (2 ^ zs.length)).map (fun _ => (0 : Int)) = _
  rw [List.map_const', List.length_range]
abbrev s__law_an_costs : Stmt := top 83
abbrev N__law_an_costs : List Str := ["_law_net_here", "_law_bits", "_law_common", "_law_found", "_law_place", "_law_part", "_law_load", "_law_both", "_law_start", "_law_end", "_law_mark", "_law_cost"]
theorem sc__law_an_costs : FnScope N__law_an_costs ["_law_net_here", "_law_bits", "_law_common"] (defScope s__law_an_costs) := C8.fnScope_by (by decide +kernel)
theorem ok__law_an_costs (T : Tx w K mg base) : Cl P w K mg base CX0 3 "_law_an_costs" (spM K fun gs L Z => gs.length = 3 ∧ P__law_an_costs K gs L Z) := cl_mut T.d__law_an_costs T.g__law_an_costs sc__law_an_costs (fun _ _ _ h => h.1) (fun _ _ _ _ _ _ us hl => match us, hl with | [_, _, _], _ => rfl) fun cdv A outer s H E gs L Z hr h => ⟨_,
  (pss_cons (ps_set (i := 3) sc__law_an_costs.nd rfl (Or.inl rfl) (pe_lst (pa_cons pe_int pa_nil)))
  (pss_cons (ps_lock (ps_for PassesOwn.never rfl (pi_keys (pv 1)) (pg_name (i := 4) sc__law_an_costs.nd rfl (Or.inl rfl))
    (pss_one (ps_set (i := 3) sc__law_an_costs.nd rfl (Or.inl rfl) (pe_op (op_catLK K rfl) (pv 3) (pv 3))))))
  (pss_cons (ps_for PassesOwn.never rfl (pi_tup (pe_ix (ix_tupK K rfl) (pv 0) pe_int (fun _ _ => rfl))) (pg_name (i := 5) sc__law_an_costs.nd rfl (Or.inl rfl))
    (pss_cons (ps_asg (pe_tup (pa_cons (pcl (ok__law_an_load T) hr (by decide) pass0 (by rfl) (pa_cons (pv 5) (pa_cons (pv 2) pa_nil))) (pa_cons (pcl (ok__law_an_mask T) hr (by decide) pass0 (by rfl) (pa_cons (pv 1) (pa_cons (pcl (ok__law_an_ends T) hr (by decide) pass0 (by rfl) (pa_cons (pv 5) pa_nil)) pa_nil))) pa_nil))) (pg_tupK (n := 2) K rfl rfl (pgs_cons (pg_name (i := 6) sc__law_an_costs.nd rfl (by first | exact Or.inl rfl | exact Or.inr rfl) (by first | exact .inl rfl | exact .inr rfl)) (pgs_cons (pg_name (i := 7) sc__law_an_costs.nd rfl (by first | exact Or.inl rfl | exact Or.inr rfl) (by first | exact .inl rfl | exact .inr rfl)) pgs_nil)) (by rfl) (by rfl)))
  (pss_one (ps_if (pt_cmpR op_eq (pe_ix (ix_tupK K rfl) (pv 5) pe_int (fun _ _ => rfl)) pe_str (nomark _))
    (pss_cons (ps_asg (pe_tup (pa_cons (pe_dget (hu_of hr) (pv 1) (pe_ix (ix_tupK K rfl) (pv 5) pe_int (fun _ _ => rfl)) (fun _ _ => rfl)) (pa_cons (pe_dget (hu_of hr) (pv 1) (pe_ix (ix_tupK K rfl) (pv 5) pe_int (fun _ _ => rfl)) (fun _ _ => rfl)) pa_nil))) (pg_tupK (n := 2) K rfl rfl (pgs_cons (pg_name (i := 8) sc__law_an_costs.nd rfl (by first | exact Or.inl rfl | exact Or.inr rfl) (by first | exact .inl rfl | exact .inr rfl)) (pgs_cons (pg_name (i := 9) sc__law_an_costs.nd rfl (by first | exact Or.inl rfl | exact Or.inr rfl) (by first | exact .inl rfl | exact .inr rfl)) pgs_nil)) (by rfl) (by rfl)))
  (pss_one (ps_setLc (i := 3) (own := [("_law_mark", 10), ("_law_cost", 11)]) rfl sc__law_an_costs.nd rfl rfl (sw_true rfl rfl rfl (by decide +kernel)) (pi_enum (by rfl) T.n_enumerate (pa_cons (pv 3) pa_nil)) (blkOk_by (own := [("_law_mark", 10), ("_law_cost", 11)]) (N := N__law_an_costs) (sc := defScope s__law_an_costs) (by decide +kernel)) (fun _ _ _ _ _ => (pg_tupK (n := 2) K rfl rfl (pgs_cons (pg_name (i := 10) sc__law_an_costs.nd rfl (Or.inl rfl) (.inr rfl)) (pgs_cons (pg_name (i := 11) sc__law_an_costs.nd rfl (Or.inl rfl) (.inr rfl)) pgs_nil)) (by rfl) (by rfl))) (fun _ _ _ _ _ => pts_nil) (fun _ _ _ _ _ => (pe_ifExp (PW.pt (pw_and (pt_truthK K rfl (pe_op op_and (pv 10) (pv 8)) (by intro _; rfl)) (pw_and1 (pt_not (pt_truthK K rfl (pe_op op_and (pv 10) (pv 9)) (by intro _; rfl)))))) (pe_op op_add (pv 11) (pv 6)) (pv 11))))))
    (pss_one (ps_setLc (i := 3) (own := [("_law_mark", 10), ("_law_cost", 11)]) rfl sc__law_an_costs.nd rfl rfl (sw_true rfl rfl rfl (by decide +kernel)) (pi_enum (by rfl) T.n_enumerate (pa_cons (pv 3) pa_nil)) (blkOk_by (own := [("_law_mark", 10), ("_law_cost", 11)]) (N := N__law_an_costs) (sc := defScope s__law_an_costs) (by decide +kernel)) (fun _ _ _ _ _ => (pg_tupK (n := 2) K rfl rfl (pgs_cons (pg_name (i := 10) sc__law_an_costs.nd rfl (Or.inl rfl) (.inr rfl)) (pgs_cons (pg_name (i := 11) sc__law_an_costs.nd rfl (Or.inl rfl) (.inr rfl)) pgs_nil)) (by rfl) (by rfl))) (fun _ _ _ _ _ => pts_nil) (fun _ _ _ _ _ => (pe_ifExp (pt_cmpR (op_inK K rfl) (pe_op op_and (pv 10) (pv 7)) (pe_tup (pa_cons pe_int (pa_cons (pv 7) pa_nil))) (by rfl)) (pv 11) (pe_op op_add (pv 11) (pv 6))))))))))
  (pss_one (ps_ret (pv 3)))))), by
  replace h := h.2
 
  obtain ⟨p, kvs, xs, zs, ps, c, Lr, rfl, hk, hz, hps, c0, c1, hq, he, hb, rfl, rfl⟩ := h
  refine bm_seq (sm_asg (em_eg (eg_lst (ag_cons (eg_int (i := 0)) ag_nil) (Nat.le_of_ble_eq_true rfl)))) ?_
  rintro _ _ ⟨g, rfl, rfl, rfl⟩
  refine bm_seq (sm_lockFor (p := p) (kvs := kvs) (Lr := Lr) (W := fun i G' L' => ∃ o, G' = [some (.d (netD xs ps)), some (.r p), some (.d (.int c)), some (.d (.list ((List.replicate (2 ^ i) (0 : Int)).map .int))), o, none, none, none, none, none, none, none] ∧ L' = Lr) (ev_var rfl) ⟨none, rfl, rfl⟩ ?_) ?_
  · rintro i kv _ _ hkv ⟨o, rfl, rfl⟩
    have hi : i < zs.length := by rw [← hk]; exact (List.getElem?_eq_some_iff.mp hkv).1
    have p1 : 2 ^ i ≤ 2 ^ 10 := Nat.pow_le_pow_right (by decide) (by omega)
    refine sm_imp (sm_sg (sg_asg (eg_op (eg_var rfl) (eg_var rfl) (rg_catL ?_)))) ?_
    · rw [List.length_map, List.length_replicate]
      exact Nat.le_trans (show _ ≤ 2048 by omega) (by decide)
    · rintro _ _ ⟨rfl, rfl⟩
      refine ⟨some (.d (kD kv.1)), ?_, rfl⟩
      rw [← List.map_append, List.replicate_append_replicate, show 2 ^ i + 2 ^ i = 2 ^ (i + 1) from by rw [Nat.pow_succ]; omega]
      rfl
  · rintro _ _ ⟨L0, rfl, o, rfl, e0⟩
    rw [e0]
    rw [hk, ← costs_zero (c := c)]
    refine bm_seq (sm_for (W := fun i G' L' => ∃ o5 o6 o7 o8 o9, G' = [some (.d (netD xs ps)), some (.r p), some (.d (.int c)), some (.d (.list ((costsF zs c (ps.take i)).map .int))), o, o5, o6, o7, o8, o9, none, none] ∧ L' = (p, .dK kvs) :: Lr) (ig_tup (g := partD) (xs := ps) (eg_ixT (eg_var rfl) eg_int rfl)) ⟨none, none, none, none, none, rfl, rfl⟩ ?_) ?_
    · rintro i q _ _ hqi ⟨o5, o6, o7, o8, o9, rfl, rfl⟩
      have qm := List.mem_of_getElem? hqi
      obtain ⟨nq, eq⟩ := hq q qm
      have p1 : 2 ^ zs.length ≤ 2 ^ 10 := Nat.pow_le_pow_right (by decide) hz
      have len : (costsF zs c (ps.take i)).zipIdx.length ≤ 1000000 := by
        rw [List.length_zipIdx]
        unfold costsF
        rw [List.length_map, List.length_range]
        omega
      refine sm_seq (sm_tup2 (Ra := fun gs L' => gs = [.d (.int (loadF c q.w)), .d (.int ((q.ends.map fun x => ((bitOf zs x : Nat) : Int)).sum))] ∧ L' = (p, .dK kvs) :: Lr) ?_ ?_) ?_
      · refine am_imp (am_cons (em_eg (eg_call (ag_cons (eg_var rfl) (ag_cons (eg_var rfl) ag_nil)) ⟨rfl, q, c, nq, c0, c1, rfl, rfl⟩)) (Ra := fun g r L' => g = .d (.int (loadF c q.w)) ∧ r = [.d (.int ((q.ends.map fun x => ((bitOf zs x : Nat) : Int)).sum))] ∧ L' = (p, .dK kvs) :: Lr) ?_) ?_
        · rintro _ _ ⟨rfl, rfl⟩
          refine am_imp (am_cons (Ra := fun g r L' => g = .d (.int ((q.ends.map fun x => ((bitOf zs x : Nat) : Int)).sum)) ∧ r = [] ∧ L' = (p, .dK kvs) :: Lr) (em_call (R := fun g L' => g = .d (.int ((q.ends.map fun x => ((bitOf zs x : Nat) : Int)).sum)) ∧ L' = (p, .dK kvs) :: Lr) (am_av (av_cons (ev_var rfl) (av_cons (ev_d (eg_call (ag_cons (eg_var rfl) ag_nil) ⟨rfl, q, rfl, rfl⟩)) av_nil))) ?_) ?_) ?_
          · rintro _ _ ⟨rfl, rfl⟩
            refine ⟨(p, .dK kvs) :: Lr, [], _, by rw [List.append_nil], ⟨rfl, p, kvs, q.ends, _, he q qm, List.mem_cons_self, fun x hx => hb x (eq x hx), rfl, rfl⟩, ?_⟩
            rintro _ _ ⟨rfl, rfl⟩
            exact ⟨rfl, by rw [List.append_nil]⟩
          · rintro _ _ ⟨rfl, rfl⟩
            refine am_imp am_nil ?_
            rintro _ _ ⟨rfl, rfl⟩
            exact ⟨rfl, rfl, rfl⟩
          · rintro _ _ ⟨_, _, rfl, rfl, rfl, rfl⟩
            exact ⟨rfl, rfl, rfl⟩
        · rintro _ _ ⟨_, _, rfl, rfl, rfl, rfl⟩
          exact ⟨rfl, rfl⟩
      · rintro _ _ ⟨rfl, rfl⟩
        exact ⟨_, _, rfl⟩
      · rintro _ _ ⟨_, _, rfl, e, rfl⟩
        obtain ⟨rfl, rfl⟩ : PyData.int (loadF c q.w) = _ ∧ PyData.int ((q.ends.map fun x => ((bitOf zs x : Nat) : Int)).sum) = _ := by
          simp at e
          exact ⟨e.1.symm, e.2.symm⟩
        have hsum : (q.ends.map fun x => ((bitOf zs x : Nat) : Int)).sum = ((maskOf zs q.ends : Nat) : Int) := by
          unfold maskOf
          generalize q.ends = l
          induction l with
          | nil => rfl
          | cons x l ih => simp [ih]
        rw [hsum]
        have hv : EG K ((p, .dK kvs) :: Lr) [some (.d (netD xs ps)), some (.r p), some (.d (.int c)), some (.d (.list ((costsF zs c (ps.take i)).map .int))), o, some (.d (partD q)), some (.d (.int (loadF c q.w))), some (.d (.int ((maskOf zs q.ends : Nat) : Int))), o8, o9, none, none] (tVar 5) (partD q) := eg_var rfl
        have fin : ∀ f : Nat → Int, (∀ m, f m = partCost zs c m q) → (((costsF zs c (ps.take i)).zipIdx.map fun z => z.1 + f z.2)) = costsF zs c (ps.take (i + 1)) := fun f hf => by
          rw [costs_map]
          unfold costsF
          refine List.map_congr_left fun m _ => ?_
          rw [cost_take hqi, hf m]
        refine sm_if (tg_test (eg_op (eg_p0 hv) eg_str rg_eqS)) (fun hl => ?_) fun hl => ?_
        · obtain ⟨x, y, wq, rfl⟩ : ∃ x y wq, q = .arc true x y wq := by
            cases q with
            | hub ps w => exact absurd (show ("hub" : Str) = "lead" from of_decide_eq_true hl) (by decide)
            | arc ld x y w =>
              cases ld with
              | true => exact ⟨x, y, w, rfl⟩
              | false => exact absurd (show ("pipe" : Str) = "lead" from of_decide_eq_true hl) (by decide)
          refine sm_seq (sm_tup2 (Ra := fun gs L' => gs = [.d (.int (bitOf zs x : Nat)), .d (.int (bitOf zs y : Nat))] ∧ L' = (p, .dK kvs) :: Lr) (am_av (av_cons (ev_dget (k := .inr x) (ev_var rfl) (eg_ixT (d := .str x) hv eg_int rfl) List.mem_cons_self (hb x (eq x (by simp [Part.ends])))) (av_cons (ev_dget (k := .inr y) (ev_var rfl) (eg_ixT (d := .str y) hv eg_int rfl) List.mem_cons_self (hb y (eq y (by simp [Part.ends])))) av_nil))) ?_) ?_
          · rintro _ _ ⟨rfl, rfl⟩
            exact ⟨_, _, rfl⟩
          · rintro _ _ ⟨_, _, rfl, e2, rfl⟩
            obtain ⟨rfl, rfl⟩ : PyData.int (bitOf zs x : Nat) = _ ∧ PyData.int (bitOf zs y : Nat) = _ := by
              simp at e2
              exact ⟨e2.1.symm, e2.2.symm⟩
            refine sm_imp (sm_sg (sg_asg (eg_lcA (f := fun z : Int × Nat => .int (z.1 + partCost zs c z.2 (.arc true x y wq))) (ig_enum (g := PyData.int) (xs := costsF zs c (ps.take i)) (ag_cons (eg_var rfl) ag_nil)) len (fun j hj => by simpa using hj) fun z hz => ?_))) ?_
            · refine eg_of (eg_ite (tg_and (tg_truI (eg_i0 (eg_var rfl) (eg_var rfl))) fun _ => tg_not (tg_truI (eg_i0 (eg_var rfl) (eg_var rfl)))) (fun _ => eg_op (eg_var rfl) (eg_var rfl) rg_addI) fun _ => eg_var rfl) ?_
              show (if ((Builtin.bitAnd (z.2 : Nat) (bitOf zs x : Nat) != 0) && !(Builtin.bitAnd (z.2 : Nat) (bitOf zs y : Nat) != 0)) = true then PyData.int (z.1 + loadF c wq) else PyData.int z.1) = .int (z.1 + if (z.2 &&& bitOf zs x) ≠ 0 ∧ (z.2 &&& bitOf zs y) = 0 then loadF c wq else 0)
              rw [bitAnd_nat, bitAnd_nat]
              by_cases h1 : (z.2 &&& bitOf zs x) = 0 <;> by_cases h2 : (z.2 &&& bitOf zs y) = 0 <;> simp [h1, h2]
            · rintro _ _ ⟨rfl, rfl⟩
              have e3 : ((costsF zs c (ps.take i)).zipIdx.map fun z => PyData.int (z.1 + partCost zs c z.2 (.arc true x y wq))) = (costsF zs c (ps.take (i + 1))).map .int := by
                rw [← fin (fun m => partCost zs c m (.arc true x y wq)) fun _ => rfl, List.map_map]
                rfl
              rw [e3]
              exact ⟨_, _, _, _, _, rfl, rfl⟩
        · refine sm_imp (sm_sg (sg_asg (eg_lcA (f := fun z : Int × Nat => .int (z.1 + partCost zs c z.2 q)) (ig_enum (g := PyData.int) (xs := costsF zs c (ps.take i)) (ag_cons (eg_var rfl) ag_nil)) len (fun j hj => by simpa using hj) fun z hz => ?_))) ?_
          · refine eg_of (eg_ite (tg_test (eg_op (eg_i0 (eg_var rfl) (eg_var rfl)) (eg_tup (ds := [0, ((maskOf zs q.ends : Nat) : Int)].map PyData.int) (ag_cons eg_int (ag_cons (eg_var rfl) ag_nil)) (Nat.le_of_ble_eq_true rfl)) rg_inTI)) (fun _ => eg_var rfl) fun _ => eg_op (eg_var rfl) (eg_var rfl) rg_addI) ?_
            have hp : partCost zs c z.2 q = if (z.2 &&& maskOf zs q.ends) = 0 ∨ (z.2 &&& maskOf zs q.ends) = maskOf zs q.ends then 0 else loadF c q.w := by
              cases q with
              | hub ps w => rfl
              | arc ld x y w =>
                cases ld with
                | true => exact absurd rfl (of_decide_eq_false hl)
                | false => rfl
            rw [hp, bitAnd_nat]
            by_cases h1 : (z.2 &&& maskOf zs q.ends) = 0
            · simp [h1]
            · by_cases h2 : (z.2 &&& maskOf zs q.ends) = maskOf zs q.ends
              · simp [h2]
              · have h2' : ¬ ((z.2 &&& maskOf zs q.ends : Nat) : Int) = (maskOf zs q.ends : Nat) := by omega
                have h1' : ¬ ((z.2 &&& maskOf zs q.ends : Nat) : Int) = 0 := by omega
                simp [h1, h2, h1', h2']
          · rintro _ _ ⟨rfl, rfl⟩
            have e3 : ((costsF zs c (ps.take i)).zipIdx.map fun z => PyData.int (z.1 + partCost zs c z.2 q)) = (costsF zs c (ps.take (i + 1))).map .int := by
              rw [← fin (fun m => partCost zs c m q) fun _ => rfl, List.map_map]
              rfl
            rw [e3]
            exact ⟨_, _, _, _, _, rfl, rfl⟩
    · rintro _ _ ⟨o5, o6, o7, o8, o9, rfl, rfl⟩
      rw [List.take_length]
      exact bm_ret (em_eg (eg_var rfl))⟩
end
end K13
namespace K13
open PySem PySem.Spec PyProof.Rows L2
open Evl (Ex fresh_back ex_l ex_t)
/-- one step of reading an expression's worth -/
local macro_rules | `(tactic| walk_at "eg1") => `(tactic| first
  | exact eg_var rfl | exact eg_int | exact eg_str | exact eg_bl | exact eg_non | exact tg_yes | exact og_none
  | apply og_some
  | apply tg_test | apply tg_B | apply tg_not | apply eg_notV | apply eg_neg
  | apply eg_isi
  | apply eg_ixT | apply eg_ixL
  | apply eg_cmp | apply eg_i0 | apply eg_ic
  | apply eg_op (hr := rg_eqI) | apply eg_op (hr := rg_eqS) | apply eg_op (hr := rg_neI) | apply eg_op (hr := rg_neS)
  | apply eg_cb (hr := cg_gcd)
  | exact (rfl : atI _ _ = _) | exact (rfl : kitB _ _ = _)
  | exact ag_nil | apply ag_cons
  | exact (by assumption : EG _ _ _ _ _) | apply eg_tup | apply eg_lst | exact Nat.le_of_ble_eq_true rfl)
local macro_rules | `(tactic| walk_at "eg") => `(tactic| repeat' walk_at "eg1")
section
variable {P : Program} {w : World} {K : PySem.W.Frag} {mg : Str → Option Value} {base : Heap} {L : SH} {G : Gm} {te ta tl : TE} {ts : TS} {R : GV → SH → Prop}
theorem ends_nd {p : Part} (h : PartOk p) : p.ends.Nodup := by
  cases p with
  | hub ys w => exact asc_nd h.1.asc
  | arc ld x y w =>
    obtain ⟨_, _, _, d⟩ := h
    have ne : x ≠ y := by
      cases ld with
      | true => exact d
      | false => exact fun e => List.lt_irrefl x.cps.toList (by have d : SLt x y := d; rw [← e] at d; exact d)
    show [x, y].Nodup
    simp [ne]
theorem bits_gen : ∀ (xs done : List Str) (acc : List (Key × GV) × Int), (done ++ xs).Nodup → acc.1.length = done.length → (∀ y, valG acc.1 (.inr y) ≠ none → y ∈ done) → acc.2 = ((2 ^ done.length : Nat) : Int) →
    (xs.foldl bitStep acc).1.length = (done ++ xs).length ∧ (∀ y ∈ done, valG (xs.foldl bitStep acc).1 (.inr y) = valG acc.1 (.inr y)) ∧ ∀ j x, xs[j]? = some x → valG (xs.foldl bitStep acc).1 (.inr x) = some (.d (.int ((2 ^ (done.length + j) : Nat) : Int)))
  | [], done, acc, _, hl, _, _ => ⟨by simpa using hl, fun _ _ => rfl, fun j x h => by simp at h⟩
  | x :: xs, done, acc, nd, hl, hv, h2 => by
    have hx : x ∉ done := fun z => (List.nodup_append.mp nd).2.2 x z x (by simp) rfl
    have hn : valG acc.1 (.inr x) = none := by
      cases e : valG acc.1 (.inr x) with
      | none => rfl
      | some g => exact absurd (hv x (by rw [e]; simp)) hx
    have l1 : (putGK acc.1 (.inr x) (.d (.int acc.2))).length = acc.1.length + 1 := by
      unfold putGK
      have : (acc.1.any fun kv => decide (kv.1 = (.inr x : Key))) = false := by
        rw [List.any_eq_false]
        intro kv hkv
        simp only [decide_eq_true_eq]
        intro e
        have : acc.1.find? (fun kv => decide (kv.1 = (.inr x : Key))) = none := by simpa [valG] using hn
        have := List.find?_eq_none.mp this kv hkv
        exact this (by simp [e])
      rw [this]
      simp
    obtain ⟨a, b, c⟩ := bits_gen xs (done ++ [x]) (bitStep acc x) (by simpa using nd) (by
      show (putGK acc.1 (.inr x) (.d (.int acc.2))).length = _
      rw [l1, hl]
      simp) (fun y hy => by
      have hy : valG (putGK acc.1 (.inr x) (.d (.int acc.2))) (.inr y) ≠ none := hy
      rw [valG_put] at hy
      by_cases e : (.inr y : Key) = .inr x
      · have : y = x := by cases e; rfl
        simp [this]
      · rw [if_neg e] at hy
        exact List.mem_append_left _ (hv y hy)) (by
      show acc.2 + acc.2 = _
      rw [h2, List.length_append]
      show _ = ((2 ^ (done.length + 1) : Nat) : Int)
      rw [Nat.pow_succ]
      omega)
    have val : ∀ y, valG (bitStep acc x).1 (.inr y) = if (.inr y : Key) = .inr x then some (.d (.int acc.2)) else valG acc.1 (.inr y) := fun y => valG_put _ _ _ _
    refine ⟨by rw [List.foldl_cons, a]; simp, fun y hy => ?_, fun j y hj => ?_⟩
    · rw [List.foldl_cons, b y (by simp [hy]), val, if_neg (fun e => hx (by cases e; exact hy))]
    · cases j with
      | zero =>
        obtain rfl : x = y := by simpa using hj
        rw [List.foldl_cons, b x (by simp), val, if_pos rfl, h2]
        rfl
      | succ j =>
        have := c j y (by simpa using hj)
        rw [List.foldl_cons, this, List.length_append]
        show some (GV.d (.int ((2 ^ (done.length + 1 + j) : Nat) : Int))) = _
        rw [show done.length + 1 + j = done.length + (j + 1) from by omega]
theorem bits_ok {zs : List Str} (nd : zs.Nodup) : (bitsF zs).1.length = zs.length ∧ ∀ x ∈ zs, valG (bitsF zs).1 (.inr x) = some (.d (.int (bitOf zs x : Nat))) := by
  obtain ⟨a, _, c⟩ := bits_gen zs [] ([], 1) (by simpa using nd) rfl (fun y h => absurd rfl h) rfl
  refine ⟨a.trans (by simp), fun x hx => ?_⟩
  have h1 : zs[idx zs x]? = some x := by
    rw [List.getElem?_eq_getElem (idx_lt hx)]
    exact congrArg some (List.getElem_idxOf (idx_lt hx))
  have := c (idx zs x) x h1
  simp only [List.length_nil, Nat.zero_add] at this
  exact this
theorem mask_sum {zs : List Str} : ∀ l : List Str, (l.map fun x => ((bitOf zs x : Nat) : Int)).sum = ((maskOf zs l : Nat) : Int)
  | [] => rfl
  | x :: l => by
    have ih := mask_sum (zs := zs) l
    unfold maskOf at ih ⊢
    rw [List.map_cons, List.sum_cons, ih, List.map_cons, List.sum_cons]
    omega
def bstI (cs : List (Int × Nat)) (wh k i : Nat) : Option Int := (cs.take i).foldl (bstF wh k) none
theorem bstI_next {cs : List (Int × Nat)} {wh k i : Nat} {z : Int × Nat} (h : cs[i]? = some z) : bstI cs wh k (i + 1) = bstF wh k (bstI cs wh k i) z := fold_step h
def P__law_an_fulls (_K : PySem.W.Frag) (gs : List GV) (L : SH) (Z : GV → SH → Prop) : Prop := ∃ xs ps, NetOk xs ps ∧ (placesF xs ps).length ≤ 10 ∧ gs = [.d (netD xs ps)] ∧
  Z = fun g L' => ∃ p am, g = .r p ∧ L' = (p, .dT (wallsG ps am (lotsF xs))) :: L ∧ ∀ lot ∈ lotsF xs, Least (loadF (comm (widths ps))) xs ps lot (am lot)
abbrev s__law_an_fulls : Stmt := top 85
abbrev N__law_an_fulls : List Str := ["_law_net_here", "_law_whole", "_law_found", "_law_group", "_law_bits", "_law_common", "_law_best", "_law_mark", "_law_cost"]
theorem sc__law_an_fulls : FnScope N__law_an_fulls ["_law_net_here"] (defScope s__law_an_fulls) := C8.fnScope_by (by decide +kernel)
theorem ok__law_an_fulls (T : Tx w K mg base) : Cl P w K mg base CX0 4 "_law_an_fulls" (spM K fun gs L Z => gs.length = 1 ∧ P__law_an_fulls K gs L Z) := cl_mut T.d__law_an_fulls T.g__law_an_fulls sc__law_an_fulls (fun _ _ _ h => h.1) (fun _ _ _ _ _ _ us hl => match us, hl with | [_], _ => rfl) fun cdv A outer s H E gs L Z hr h => ⟨_,
  (pss_cons (ps_par3 (i := 4) (j := 5) (l := 6) (by rfl) sc__law_an_fulls.nd rfl rfl rfl (by decide) (by decide) (by decide) rfl rfl rfl (pa_cons (pcl (ok__law_an_bits T) hr (by decide) pass0 (by rfl) (pa_cons (pcl (ok__law_an_every T) hr (by decide) pass0 (by rfl) (pa_cons (pv 0) pa_nil)) pa_nil)) (pa_cons (pcl (ok__law_an_common T) hr (by decide) pass0 (by rfl) (pa_cons (pv 0) pa_nil)) (pa_cons pe_dnewK pa_nil))) (by rfl))
  (pss_cons (ps_set (i := 1) sc__law_an_fulls.nd rfl (Or.inl rfl) (pcl (ok__law_an_mask T) hr (by decide) pass0 (by rfl) (pa_cons (pv 4) (pa_cons (pe_ix (ix_tupK K rfl) (pv 0) pe_int (fun _ _ => rfl)) pa_nil))))
  (pss_cons (ps_for PassesOwn.never rfl (pi_enum (by rfl) T.n_enumerate (pa_cons (pcl (ok__law_an_costs T) hr (by decide) pass0 (by rfl) (pa_cons (pv 0) (pa_cons (pv 4) (pa_cons (pv 5) pa_nil)))) pa_nil)) (pg_tupK (n := 2) K rfl rfl (pgs_cons (pg_name (i := 7) sc__law_an_fulls.nd rfl (Or.inl rfl) (.inr rfl)) (pgs_cons (pg_name (i := 8) sc__law_an_fulls.nd rfl (Or.inl rfl) (.inr rfl)) pgs_nil)) (by rfl) (by rfl))
    (pss_one (ps_dput (hu_of hr) (pv 6) (pe_op op_and (pv 7) (pv 1)) (pe_callB (call_min2 rfl) (by rfl) T.n_min bt_min (pa_cons (pe_dget2 (hu_of hr) (pv 6) (pe_op op_and (pv 7) (pv 1)) (pv 8) ⟨by rfl, by rfl, by rfl, by rfl⟩) (pa_cons (pv 8) pa_nil))) rfl)))
  (pss_cons (ps_set (i := 2) sc__law_an_fulls.nd rfl (Or.inl rfl) pe_dnewT)
  (pss_cons (ps_for PassesOwn.never rfl (pi_list (pcl (ok__law_an_groups T) hr (by decide) pass0 (by rfl) (pa_cons (pe_ix (ix_tupK K rfl) (pv 0) pe_int (fun _ _ => rfl)) pa_nil))) (pg_name (i := 3) sc__law_an_fulls.nd rfl (Or.inl rfl))
    (pss_one (ps_dput (hu_of hr) (pv 2) (pv 3) (pcl (ok__law_ct_made T) hr (by decide) pass0 (by rfl) (pa_cons (pe_dget (hu_of hr) (pv 6) (pcl (ok__law_an_mask T) hr (by decide) pass0 (by rfl) (pa_cons (pv 4) (pa_cons (pv 3) pa_nil))) (fun _ _ => rfl)) (pa_cons (pv 5) pa_nil))) rfl)))
  (pss_one (ps_ret (pv 2)))))))), by
  replace h := h.2
 
  obtain ⟨xs, ps, n, hz, rfl, rfl⟩ := h
  obtain ⟨zs, ez⟩ : ∃ zs, zs = placesF xs ps := ⟨_, rfl⟩
  have pl := places_ok xs ps
  have hx1 : ∀ x ∈ xs, x ∈ zs := fun x h => by rw [ez]; exact pl.xs_ x h
  have he1 : ∀ q ∈ ps, q.ends.Nodup ∧ ∀ x ∈ q.ends, x ∈ zs := fun q hq => ⟨ends_nd (n.ok q hq), fun x h => by rw [ez]; exact pl.es_ q hq x h⟩
  have nz : zs.Nodup := by rw [ez]; exact pl.nd
  rw [← ez] at hz
  have nx : xs.Nodup := asc_nd n.taps.nm.asc
  have hxl := n.taps.hi
  have hpl := n.len
  have hel : ∀ q ∈ ps, q.ends.length ≤ 1000 := fun q hq => (n.ok q hq).len
  have hnum : ∀ q ∈ ps, Num q.w := fun q hq => (n.ok q hq).num
  obtain ⟨c0, c1, _⟩ := comm12 hnum
  obtain ⟨bl, bv⟩ := bits_ok nz
  have few : (lotsF xs).length ≤ 64 := by
    unfold lotsF sortL
    rw [List.length_mergeSort]
    have h1 := subs_len (xs := xs)
    have h2 : 2 ^ xs.length ≤ 2 ^ 6 := Nat.pow_le_pow_right (by decide) hxl
    exact Nat.le_trans (List.length_filter_le _ _) (by omega)
  have best : ∀ lot ∈ lotsF xs, ∃ am, bst (costsF zs (comm (widths ps)) ps) (maskOf zs xs) (maskOf zs lot) = some am ∧ Least (loadF (comm (widths ps))) xs ps lot am := fun lot hlot => by
    obtain ⟨l1, _, l3⟩ := lots_ok n.taps hlot
    exact best_least nz nx hx1 l1 l3 he1
  obtain ⟨am, ham⟩ : ∃ am : List Str → Int, ∀ lot ∈ lotsF xs, bst (costsF zs (comm (widths ps)) ps) (maskOf zs xs) (maskOf zs lot) = some (am lot) ∧ Least (loadF (comm (widths ps))) xs ps lot (am lot) := by
    refine ⟨fun lot => (bst (costsF zs (comm (widths ps)) ps) (maskOf zs xs) (maskOf zs lot)).getD 0, fun lot hlot => ?_⟩
    obtain ⟨a, h1, h2⟩ := best lot hlot
    show bst (costsF zs (comm (widths ps)) ps) (maskOf zs xs) (maskOf zs lot) = some (Option.getD _ 0) ∧ Least _ _ _ _ (Option.getD _ 0)
    rw [h1]
    exact ⟨rfl, h2⟩
  obtain ⟨cm, hcm⟩ : ∃ cm, cm = comm (widths ps) := ⟨_, rfl⟩
  have netEv : ∀ {L0 : SH} {o1 o2 o3 o4 o5 o6 o7 o8 : Option GV}, EG K L0 [some (.d (netD xs ps)), o1, o2, o3, o4, o5, o6, o7, o8] (tOp (rIxT K) (tVar 0) (tC (.int 0))) (strsD xs) := fun {L0 o1 o2 o3 o4 o5 o6 o7 o8} => eg_ixT (ds := [strsD xs, .tuple (ps.map partD)]) (eg_var rfl) eg_int rfl
  refine bm_seq (sm_par3 (Ra := fun gs L' => ∃ pb pd, gs = [.r pb, .d (.int cm), .r pd] ∧ L' = (pd, .dK []) :: (pb, .dK (bitsF zs).1) :: L) ?_ ?_) ?_
  · refine am_imp (am_cons (Ra := fun g r L' => ∃ pb pd, g = .r pb ∧ r = [.d (.int cm), .r pd] ∧ L' = (pd, .dK []) :: (pb, .dK (bitsF zs).1) :: L) (em_call (R := fun g L' => ∃ pb, g = .r pb ∧ L' = (pb, .dK (bitsF zs).1) :: L) (am_av (av_cons (ev_d (eg_call (d := .list (zs.map .str)) (ag_cons (eg_var rfl) ag_nil) ⟨rfl, xs, ps, nx, by omega, hpl, hel, rfl, by rw [ez]⟩)) av_nil)) ?_) ?_) ?_
    · rintro _ _ ⟨rfl, rfl⟩
      refine ⟨[], _, _, .refl _, ⟨rfl, zs, by omega, rfl, rfl⟩, ?_⟩
      rintro _ _ ⟨pb, rfl, rfl⟩
      exact ⟨pb, rfl, rfl⟩
    · rintro _ _ ⟨pb, rfl, rfl⟩
      refine am_imp (am_cons (Ra := fun g r L' => ∃ pd, g = .d (.int cm) ∧ r = [.r pd] ∧ L' = (pd, .dK []) :: (pb, .dK (bitsF zs).1) :: L) (em_eg (eg_call (d := .int cm) (ag_cons (eg_var rfl) ag_nil) ⟨rfl, xs, ps, hnum, hpl, rfl, by rw [hcm]⟩)) ?_) ?_
      · rintro _ _ ⟨rfl, rfl⟩
        refine am_imp (am_cons (Ra := fun g r L' => ∃ pd, g = .r pd ∧ r = [] ∧ L' = (pd, .dK []) :: (pb, .dK (bitsF zs).1) :: L) (em_dnewK (by intro σ H Q h; exact h)) ?_) ?_
        · rintro _ _ ⟨pd, rfl, rfl⟩
          refine am_imp am_nil ?_
          rintro _ _ ⟨rfl, rfl⟩
          exact ⟨pd, rfl, rfl, rfl⟩
        · rintro _ _ ⟨_, _, rfl, pd, rfl, rfl, rfl⟩
          exact ⟨pd, rfl, rfl, rfl⟩
      · rintro _ _ ⟨_, _, rfl, pd, rfl, rfl, rfl⟩
        exact ⟨pb, pd, rfl, rfl, rfl⟩
    · rintro _ _ ⟨_, _, rfl, pb, pd, rfl, rfl, rfl⟩
      exact ⟨pb, pd, rfl, rfl⟩
  · rintro _ _ ⟨pb, pd, rfl, rfl⟩
    rfl
  rintro _ _ ⟨_, _, _, rfl, pb, pd, e, eL⟩
  cases e
  rw [eL]
  refine bm_seq (sm_asg (em_call (R := fun g L' => g = .d (.int ((maskOf zs xs : Nat) : Int)) ∧ L' = (pd, .dK []) :: (pb, .dK (bitsF zs).1) :: L) (am_av (av_cons (ev_var rfl) (av_cons (ev_d netEv) av_nil))) ?_)) ?_
  · rintro _ _ ⟨rfl, rfl⟩
    refine ⟨_, [], _, by rw [List.append_nil], ⟨rfl, pb, (bitsF zs).1, xs, _, by omega, List.mem_cons_of_mem _ List.mem_cons_self, fun x hx => bv x (hx1 x hx), rfl, rfl⟩, ?_⟩
    rintro _ _ ⟨rfl, rfl⟩
    exact ⟨by rw [mask_sum], by rw [List.append_nil]⟩
  rintro _ _ ⟨_, rfl, rfl, rfl⟩
  obtain ⟨cz, hcz⟩ : ∃ cz, cz = (costsF zs cm ps).zipIdx := ⟨_, rfl⟩
  have czl : cz.length ≤ 1024 := by
    rw [hcz, List.length_zipIdx]
    unfold costsF
    rw [List.length_map, List.length_range]
    exact Nat.pow_le_pow_right (n := 2) (by decide) hz
  obtain ⟨wh, hwh⟩ : ∃ wh, wh = maskOf zs xs := ⟨_, rfl⟩
  rw [← hwh]
  refine bm_seq (sm_forM (R0 := fun zs' L0 => zs' = cz ∧ L0 = (pd, .dK []) :: (pb, .dK (bitsF zs).1) :: L)
    (W := fun zs' i G' L' => zs' = cz ∧ ∃ kvs o5 o6, kvs.length ≤ i ∧ (∀ k : Nat, valG kvs (.inl (k : Int)) = (bstI cz wh k i).map fun v => .d (.int v)) ∧ G' = [some (.d (netD xs ps)), some (.d (.int (wh : Int))), none, none, some (.r pb), some (.d (.int cm)), some (.r pd), o5, o6] ∧ L' = (pd, .dK kvs) :: (pb, .dK (bitsF zs).1) :: L)
    (im_enum (α := Int) (g := PyData.int) (am_cons (R := fun g L' => g = .d (.list ((costsF zs cm ps).map .int)) ∧ L' = (pd, .dK []) :: (pb, .dK (bitsF zs).1) :: L) (Ra := fun g r L' => g = .d (.list ((costsF zs cm ps).map .int)) ∧ r = [] ∧ L' = (pd, .dK []) :: (pb, .dK (bitsF zs).1) :: L) (em_perm (em_call (am_av (av_cons (ev_var rfl) (av_cons (ev_var rfl) (av_cons (ev_var rfl) av_nil)))) ?_)) ?_) ?_) ?_ ?_) ?_
  · rintro _ _ ⟨rfl, rfl⟩
    refine ⟨(pb, .dK (bitsF zs).1) :: (pd, .dK []) :: L, [], _, by rw [List.append_nil]; exact .swap .., ⟨rfl, pb, (bitsF zs).1, xs, zs, ps, cm, (pd, .dK []) :: L, rfl, bl, hz, hpl, by rw [hcm]; exact c0, by rw [hcm]; exact c1, fun q hq => ⟨hnum q hq, (he1 q hq).2⟩, hel, bv, rfl, rfl⟩, ?_⟩
    rintro _ _ ⟨rfl, rfl⟩
    exact ⟨(pd, .dK []) :: (pb, .dK (bitsF zs).1) :: L, by rw [List.append_nil]; exact .swap .., rfl, rfl⟩
  · rintro _ _ ⟨rfl, rfl⟩
    refine am_imp am_nil ?_
    rintro _ _ ⟨rfl, rfl⟩
    exact ⟨rfl, rfl, rfl⟩
  · rintro _ _ ⟨_, _, rfl, rfl, rfl, rfl⟩
    exact ⟨costsF zs cm ps, rfl, hcz.symm, rfl⟩
  · rintro _ _ ⟨rfl, rfl⟩
    exact ⟨rfl, [], none, none, Nat.le_refl _, fun k => rfl, rfl, rfl⟩
  · rintro cz i z _ _ hzi ⟨rfl, kvs, o5, o6, kl, kv, rfl, rfl⟩
    have il := (List.getElem?_eq_some_iff.mp hzi).1
    have bev : ∀ {L0 : SH} {o3 : GV}, EG K L0 ((([some (.d (netD xs ps)), some (.d (.int (wh : Int))), none, none, some (.r pb), some (.d (.int cm)), some o3, o5, o6] : Gm).set 7 (some (.d (.int (z.2 : Nat))))).set 8 (some (.d (.int z.1)))) (tOp (rI0 fun i j => .int (Builtin.bitAnd i j)) (tVar 7) (tVar 1)) (kD (.inl (((z.2 &&& wh : Nat) : Int)))) := fun {L0 o3} => by
      have := eg_i0 (K := K) (L := L0) (G := ((([some (.d (netD xs ps)), some (.d (.int (wh : Int))), none, none, some (.r pb), some (.d (.int cm)), some o3, o5, o6] : Gm).set 7 (some (.d (.int (z.2 : Nat))))).set 8 (some (.d (.int z.1))))) (ta := tVar 7) (tb := tVar 1) (i := (z.2 : Nat)) (j := (wh : Int)) (g := fun i j => Builtin.bitAnd i j) (eg_var rfl) (eg_var rfl)
      rw [bitAnd_nat] at this
      exact this
    refine sm_imp (sm_dput (p := pd) (k := .inl (((z.2 &&& wh : Nat) : Int))) (kvs := kvs) (R := fun g L1 => g = .d (.int (minO (bstI cz wh (z.2 &&& wh) i) z.1)) ∧ L1 = (pd, .dK kvs) :: (pb, .dK (bitsF zs).1) :: L) (em_eg (eg_of (eg_cb (ag_cons (d := .int ((bstI cz wh (z.2 &&& wh) i).getD z.1)) (eg_ev ?_) (ag_cons (eg_var rfl) ag_nil)) cg_min2) ?_)) (fun g L1 r => ev_var rfl) (fun g L1 r => bev) (fun g L1 r => r.2 ▸ List.mem_cons_self) (Nat.lt_of_le_of_lt kl (Nat.lt_of_lt_of_le (show i < 1025 by omega) (by decide)))) ?_
    · have := ev_dget2 (K := K) (p := pd) (k := .inl (((z.2 &&& wh : Nat) : Int))) (kvs := kvs) (L := (pd, .dK kvs) :: (pb, .dK (bitsF zs).1) :: L) (G := ((([some (.d (netD xs ps)), some (.d (.int (wh : Int))), none, none, some (.r pb), some (.d (.int cm)), some (.r pd), o5, o6] : Gm).set 7 (some (.d (.int (z.2 : Nat))))).set 8 (some (.d (.int z.1))))) (to := tVar 6) (tx := tVar 8) (d := .int z.1) (ev_var rfl) bev (eg_var rfl) List.mem_cons_self
      rw [kv] at this
      cases hb : bstI cz wh (z.2 &&& wh) i with
      | none => rw [hb] at this; exact this
      | some v => rw [hb] at this; exact this
    · cases hb : bstI cz wh (z.2 &&& wh) i with
      | none =>
        show PyData.int (if z.1 < z.1 then z.1 else z.1) = .int z.1
        rw [if_neg (Int.lt_irrefl _)]
      | some v => rfl
    · rintro _ _ ⟨rfl, _, _, ⟨rfl, rfl⟩, rfl⟩
      refine ⟨rfl, putGK kvs (.inl (((z.2 &&& wh : Nat) : Int))) (.d (.int (minO (bstI cz wh (z.2 &&& wh) i) z.1))), _, _, Nat.le_trans (putGK_le _ _ _) (by omega), fun k => ?_, rfl, by unfold putL; rw [if_pos rfl]⟩
      rw [valG_put, bstI_next hzi]
      unfold bstF
      by_cases hk : (z.2 &&& wh) = k
      · rw [if_pos (by rw [hk]), if_pos hk, hk]
        rfl
      · rw [if_neg (fun e => hk (by have := Sum.inl.inj e; omega)), if_neg hk]
        exact kv k
  rintro _ _ ⟨cz, rfl, kvs, o5, o6, kl, kv, rfl, rfl⟩
  refine bm_seq (sm_asg (em_dnewT (by intro σ H Q h; exact h))) ?_
  rintro _ _ ⟨_, rfl, pf, rfl, rfl⟩
  have hval : ∀ lot ∈ lotsF xs, valG kvs (.inl ((maskOf zs lot : Nat) : Int)) = some (.d (.int (am lot))) := fun lot hlot => by
    rw [kv]
    have := (ham lot hlot).1
    unfold bst at this
    rw [← hcm, ← hcz, ← hwh] at this
    unfold bstI
    rw [List.take_length, this]
    rfl
  refine bm_seq (sm_for (W := fun i G' L' => ∃ o8, G' = [some (.d (netD xs ps)), some (.d (.int (wh : Int))), some (.r pf), o8, some (.r pb), some (.d (.int cm)), some (.r pd), o5, o6] ∧ L' = (pf, .dT (wallsG ps am ((lotsF xs).take i))) :: (pd, .dK kvs) :: (pb, .dK (bitsF zs).1) :: L) (ig_lst (g := strsD) (xs := lotsF xs) (eg_call (ag_cons netEv ag_nil) ⟨rfl, xs, n.taps, rfl, rfl⟩)) ⟨none, rfl, rfl⟩ ?_) ?_
  · rintro i lot _ _ hli ⟨o8, rfl, rfl⟩
    have hlot := List.mem_of_getElem? hli
    have il := (List.getElem?_eq_some_iff.mp hli).1
    obtain ⟨l1, l2, l3⟩ := lots_ok n.taps hlot
    refine sm_imp (sm_dputT (p := pf) (k := lotK lot) (kvs := wallsG ps am ((lotsF xs).take i)) (R := fun g L1 => g = .d (numD (red (am lot) cm)) ∧ L1 = (pf, .dT (wallsG ps am ((lotsF xs).take i))) :: (pd, .dK kvs) :: (pb, .dK (bitsF zs).1) :: L)
      (em_callD (am_cons (R := fun g L1 => g = .d (.int (am lot)) ∧ L1 = (pf, .dT (wallsG ps am ((lotsF xs).take i))) :: (pd, .dK kvs) :: (pb, .dK (bitsF zs).1) :: L) (Ra := fun g r L1 => g = .d (.int (am lot)) ∧ r = [.d (.int cm)] ∧ L1 = (pf, .dT (wallsG ps am ((lotsF xs).take i))) :: (pd, .dK kvs) :: (pb, .dK (bitsF zs).1) :: L)
        (em_dget (p := pd) (ev_var rfl) (em_call (R := fun g L1 => g = .d (.int ((maskOf zs lot : Nat) : Int)) ∧ L1 = (pf, .dT (wallsG ps am ((lotsF xs).take i))) :: (pd, .dK kvs) :: (pb, .dK (bitsF zs).1) :: L) (am_av (av_cons (ev_var rfl) (av_cons (ev_var rfl) av_nil))) ?_) ?_) ?_) ?_) (fun g L1 r => ev_var rfl) (fun g L1 r => eg_of (eg_var rfl) ?_) (fun g L1 r => r.2 ▸ List.mem_cons_self) ?_) ?_
    · rintro _ _ ⟨rfl, rfl⟩
      refine ⟨_, [], _, by rw [List.append_nil], ⟨rfl, pb, (bitsF zs).1, lot, _, l2, by simp, fun x hx => bv x (hx1 x (l3 x hx)), rfl, rfl⟩, ?_⟩
      rintro _ _ ⟨rfl, rfl⟩
      exact ⟨by rw [mask_sum], by rw [List.append_nil]⟩
    · rintro _ _ ⟨rfl, rfl⟩
      exact ⟨.inl ((maskOf zs lot : Nat) : Int), .d (.int (am lot)), kvs, rfl, by simp, hval lot hlot, rfl, rfl⟩
    · rintro _ _ ⟨rfl, rfl⟩
      refine am_imp (am_av (av_cons (ev_var rfl) av_nil)) ?_
      rintro _ _ ⟨rfl, rfl⟩
      exact ⟨rfl, rfl, rfl⟩
    · rintro _ _ ⟨_, _, rfl, rfl, rfl, rfl⟩
      have := Int.le_of_dvd (by decide) c1
      exact ⟨[.int (am lot), .int cm], numD (red (am lot) cm), rfl, ⟨rfl, am lot, cm, by rw [hcm]; exact c0, by rw [hcm]; omega, rfl, rfl⟩, rfl, rfl⟩
    · simp only [strsD, lotK, List.map_map]
      rfl
    · have := foldGK_le (kf := lotK) (vf := fun lot => GV.d (numD (red (am lot) (comm (widths ps))))) ((lotsF xs).take i) []
      rw [List.length_take, List.length_nil] at this
      exact Nat.lt_of_le_of_lt this (Nat.lt_of_lt_of_le (show _ < 1025 by omega) (by decide))
    · rintro _ _ ⟨rfl, _, _, ⟨rfl, rfl⟩, rfl⟩
      refine ⟨some (.d (strsD lot)), rfl, ?_⟩
      unfold putL
      rw [if_pos rfl]
      unfold wallsG
      rw [fold_step hli, hcm]
  · rintro _ _ ⟨o8, rfl, rfl⟩
    rw [List.take_length]
    refine bm_sub (bm_imp (bm_ret (em_ev (ev_var rfl))) ?_)
    rintro _ _ ⟨rfl, rfl⟩
    exact ⟨(pf, .dT (wallsG ps am (lotsF xs))) :: L, .cons₂ _ (.cons _ (.cons _ (.refl _))), pf, am, rfl, rfl, fun lot hlot => (ham lot hlot).2⟩⟩
end
end K13
namespace K13
open PySem PySem.Spec PyProof.Rows L2
open Evl (Ex fresh_back ex_l ex_t)
/-- one step of reading an expression's worth -/
local macro_rules | `(tactic| walk_at "eg1") => `(tactic| first
  | exact eg_var rfl | exact eg_int | exact eg_str | exact eg_bl | exact eg_non | exact tg_yes | exact og_none
  | apply og_some
  | apply tg_test | apply tg_B | apply tg_not | apply eg_notV | apply eg_neg
  | apply eg_isi
  | apply eg_ixT | apply eg_ixL
  | apply eg_cmp | apply eg_i0 | apply eg_ic
  | apply eg_op (hr := rg_eqI) | apply eg_op (hr := rg_eqS) | apply eg_op (hr := rg_neI) | apply eg_op (hr := rg_neS)
  | apply eg_cb (hr := cg_gcd)
  | exact (rfl : atI _ _ = _) | exact (rfl : kitB _ _ = _)
  | exact ag_nil | apply ag_cons
  | exact (by assumption : EG _ _ _ _ _) | apply eg_tup | apply eg_lst | exact Nat.le_of_ble_eq_true rfl)
local macro_rules | `(tactic| walk_at "eg") => `(tactic| repeat' walk_at "eg1")
section
variable {P : Program} {w : World} {K : PySem.W.Frag} {mg : Str → Option Value} {base : Heap} {L : SH} {G : Gm} {te ta tb tl : TE} {ts : TS} {R : GV → SH → Prop}
def stK (gp : Addr) (cs : List Int) (r t : Int) : List (Key × GV) := [(.inr "great", .r gp), (.inr "cells", .d (.list (cs.map .int))), (.inr "rest", .d (.int r)), (.inr "turn", .d (.int t))]
def stH (p gp : Addr) (gs cs : List Int) (r t : Int) : SH := [(p, .dK (stK gp cs r t)), (gp, .lst (intG gs))]
section
variable {p gp : Addr} {gs cs : List Int} {r t v : Int}
theorem val_great : valG (stK gp cs r t) (.inr "great") = some (.r gp) := by rfl
theorem val_cells : valG (stK gp cs r t) (.inr "cells") = some (.d (.list (cs.map .int))) := by rfl
theorem val_rest : valG (stK gp cs r t) (.inr "rest") = some (.d (.int r)) := by rfl
theorem val_turn : valG (stK gp cs r t) (.inr "turn") = some (.d (.int t)) := by rfl
theorem put_rest : putGK (stK gp cs r t) (.inr "rest") (.d (.int v)) = stK gp cs v t := by rfl
theorem put_turn : putGK (stK gp cs r t) (.inr "turn") (.d (.int v)) = stK gp cs r v := by rfl
theorem st_mem : (p, MO.dK (stK gp cs r t)) ∈ stH p gp gs cs r t := List.mem_cons_self
theorem gr_mem : (gp, MO.lst (intG gs)) ∈ stH p gp gs cs r t := by simp [stH]
theorem stK_len : (stK gp cs r t).length < sizeLine := Nat.lt_of_lt_of_le (show 4 < 1000 by decide) (by decide)
theorem putL_st {o : MO} : putL p o (stH p gp gs cs r t) = [(p, o), (gp, .lst (intG gs))] := by
  unfold stH putL
  rw [if_pos rfl]
end
def P__law_blended (_K : PySem.W.Frag) (as : List GV) (L : SH) (Z : GV → SH → Prop) : Prop := ∃ p gp gs cs r t, 0 ≤ t ∧ t ≤ 1000000 ∧ L = stH p gp gs cs r t ∧ as = [.r p] ∧ Z = fun g L' => ∃ v, g = .d (.int v) ∧ L' = stH p gp gs cs r (t + 1)
def P__law_draw (_K : PySem.W.Frag) (as : List GV) (L : SH) (Z : GV → SH → Prop) : Prop := ∃ p gp gs cs r t n, 0 ≤ t ∧ t ≤ 1000000 ∧ 0 < n ∧ n < 1000000 ∧ L = stH p gp gs cs r t ∧ as = [.r p, .d (.int n)] ∧
  Z = fun g L' => ∃ v gs' r' t', 0 ≤ v ∧ v < n ∧ t ≤ t' ∧ t' ≤ t + 1 ∧ g = .d (.int v) ∧ L' = stH p gp gs' cs r' t'
abbrev s__law_blended : Stmt := top 60
abbrev N__law_blended : List Str := ["_law_state", "_law_prime", "_law_turn", "_law_found", "_law_blend", "_law_cell"]
theorem sc__law_blended : FnScope N__law_blended ["_law_state"] (defScope s__law_blended) := C8.fnScope_by (by decide +kernel)
theorem ok__law_blended (T : Tx w K mg base) : Cl P w K mg base CX0 1 "_law_blended" (spM K fun gs L Z => gs.length = 1 ∧ P__law_blended K gs L Z) := cl_mut T.d__law_blended T.g__law_blended sc__law_blended (fun _ _ _ h => h.1) (fun _ _ _ _ _ _ us hl => match us, hl with | [_], _ => rfl) fun cdv A outer s H E gs L Z hr h => ⟨_,
  (pss_cons (ps_par (i := 2) (j := 3) (by rfl) sc__law_blended.nd rfl rfl (by decide) rfl rfl (pa_cons (pe_op op_add (pe_dget (hu_of hr) (pv 0) pe_str (fun _ _ => rfl)) pe_int) (pa_cons pe_int pa_nil)) (by rfl))
  (pss_cons (ps_dput (hu_of hr) (pv 0) pe_str (pv 2) rfl)
  (pss_cons (ps_for PassesOwn.never rfl (pi_list (pe_lst (pa_cons pe_int (pa_cons pe_int (pa_cons pe_int pa_nil))))) (pg_name (i := 1) sc__law_blended.nd rfl (Or.inl rfl))
    (pss_cons (ps_set (i := 4) sc__law_blended.nd rfl (Or.inl rfl) (pe_op op_add (pe_op op_mul pe_int (pv 2)) (pe_op op_fdiv (pv 1) pe_int)))
  (pss_cons (ps_for PassesOwn.never rfl (pi_list (pe_dget (hu_of hr) (pv 0) pe_str (fun _ _ => rfl))) (pg_name (i := 5) sc__law_blended.nd rfl (Or.inl rfl))
    (pss_one (ps_set (i := 4) sc__law_blended.nd rfl (Or.inl rfl) (pe_op op_mod (pe_callTy call_int1 (by rfl) T.n_int bt_int (pa_cons (pe_op op_add (pe_op op_add (pe_op op_mul (pv 4) pe_int) (pv 5)) (pv 2)) pa_nil)) (pv 1)))))
  (pss_one (ps_set (i := 3) sc__law_blended.nd rfl (Or.inl rfl) (pe_op op_add (pe_op op_mul (pv 3) pe_int) (pe_op op_mod (pe_callTy call_int1 (by rfl) T.n_int bt_int (pa_cons (pe_op op_pow (pv 4) pe_int) pa_nil)) (pv 1))))))))
  (pss_one (ps_ret (pv 3)))))), by
  replace h := h.2
 
  obtain ⟨p, gp, gs, cs, r, t, t0, t1, rfl, rfl, rfl⟩ := h
  refine bm_seq (sm_sg (sg_par (ag_cons (eg_op (eg_ev (ev_dget (k := .inr "turn") (ev_var rfl) eg_str st_mem val_turn)) eg_int rg_addI) (ag_cons (eg_int (i := 0)) ag_nil)))) ?_
  rintro _ _ ⟨rfl, rfl⟩
  refine bm_seq (sm_dput (p := p) (k := .inr "turn") (kvs := stK gp cs r t) (R := fun g L1 => g = .d (.int (t + 1)) ∧ L1 = stH p gp gs cs r t) (em_eg (eg_var rfl)) (fun g L1 h => ev_var rfl) (fun g L1 h => eg_str) (fun g L1 h => h.2 ▸ st_mem) stK_len) ?_
  rintro _ _ ⟨rfl, _, _, ⟨rfl, rfl⟩, rfl⟩
  rw [put_turn, putL_st]
  have e : [(p, MO.dK (stK gp cs r (t + 1))), (gp, .lst (intG gs))] = stH p gp gs cs r (t + 1) := rfl
  rw [e]
  refine bm_seq (sm_for (zs := [2147483579, 2147483629, 2147483563]) (W := fun i G' L' => ∃ o1 o4 o5 f, G' = [some (.r p), o1, some (.d (.int (t + 1))), some (.d (.int f)), o4, o5] ∧ L' = stH p gp gs cs r (t + 1)) (ig_lst (g := PyData.int) (xs := [2147483579, 2147483629, 2147483563]) (by walk_at "eg")) ⟨none, none, none, 0, rfl, rfl⟩ ?_) ?_
  · rintro i z _ _ hz ⟨o1, o4, o5, f, rfl, rfl⟩
    have hz3 : 0 < z ∧ z < 2147483648 := by
      have := List.mem_of_getElem? hz
      simp at this
      omega
    refine sm_seq (sm_asg (em_eg (eg_op (eg_ic eg_int (eg_var rfl) (.inl ⟨by omega, by omega⟩)) (eg_ic (eg_var rfl) eg_int ⟨by omega, by omega⟩) rg_addI))) ?_
    rintro _ _ ⟨_, rfl, rfl, rfl⟩
    refine sm_seq (sm_for (W := fun j G' L' => ∃ o5 b, (-(2 ^ 60) : Int) < b ∧ b < 2 ^ 60 ∧ G' = [some (.r p), some (.d (.int z)), some (.d (.int (t + 1))), some (.d (.int f)), some (.d (.int b)), o5] ∧ L' = stH p gp gs cs r (t + 1)) (ig_lst (g := PyData.int) (xs := cs) (eg_ev (ev_dget (k := .inr "cells") (ev_var rfl) eg_str st_mem val_cells))) ⟨o5, _, ?_, ?_, rfl, rfl⟩ ?_) ?_
    · have : 0 ≤ z / 53 := Int.ediv_nonneg (by omega) (by decide)
      have : (48271 : Int) * (t + 1) ≥ 0 := Int.mul_nonneg (by decide) (by omega)
      omega
    · have : z / 53 ≤ z := Int.ediv_le_self _ (by omega)
      omega
    · rintro j c _ _ hc ⟨o5, b, b0, b1, rfl, rfl⟩
      refine sm_imp (sm_sg (sg_asg (eg_ic (eg_cb (ag_cons (eg_op (eg_op (eg_ic (eg_var rfl) eg_int (.inr ⟨by decide, by decide⟩)) (eg_var rfl) rg_addI) (eg_var rfl) rg_addI) ag_nil) cg_int1) (eg_var rfl) hz3.1))) ?_
      rintro _ _ ⟨rfl, rfl⟩
      have h1 := Int.emod_nonneg (b * 69621 + c + (t + 1)) (show z ≠ 0 by omega)
      have h2 := Int.emod_lt_of_pos (b * 69621 + c + (t + 1)) hz3.1
      exact ⟨_, (b * 69621 + c + (t + 1)) % z, by omega, by omega, rfl, rfl⟩
    · rintro _ _ ⟨o5, b, b0, b1, rfl, rfl⟩
      refine sm_imp (sm_sg (sg_asg (eg_op (eg_ic (eg_var rfl) eg_int (.inr ⟨by decide, by decide⟩)) (eg_ic (eg_cb (ag_cons (eg_ic (eg_var rfl) eg_int ⟨by decide, by decide, by omega⟩) ag_nil) cg_int1) (eg_var rfl) hz3.1) rg_addI))) ?_
      rintro _ _ ⟨rfl, rfl⟩
      exact ⟨_, _, _, _, rfl, rfl⟩
  · rintro _ _ ⟨o1, o4, o5, f, rfl, rfl⟩
    exact bm_imp (bm_ret (em_eg (eg_var rfl))) fun g L' h => ⟨f, h.1, h.2⟩⟩
theorem lay_intZ : ∀ xs : List Int, PyData.canLayAll0 (xs.map .int) = true
  | [] => rfl
  | x :: xs => lay_intZ xs
theorem depth_intZ : ∀ xs : List Int, PyData.depthAll (xs.map .int) = 0
  | [] => rfl
  | x :: xs => by
    show max 0 (PyData.depthAll (xs.map .int)) = 0
    rw [depth_intZ xs]
    rfl
theorem shaped_intZ (xs : List Int) : SeqAt.shaped (.list (xs.map .int)) = true := by
  show (PyData.canLayAll0 (xs.map .int) && decide (PyData.depthAll (xs.map .int) + 1 ≤ 64)) = true
  rw [lay_intZ, depth_intZ]
  rfl
theorem shaped_strL {xs : List Str} (h : ∀ x ∈ xs, nameB x = true) : SeqAt.shaped (.list (xs.map .str)) = true := by
  show (PyData.canLayAll0 (xs.map .str) && decide (PyData.depthAll (xs.map .str) + 1 ≤ 64)) = true
  rw [lay_strs xs h, depth_strs]
  rfl
theorem eqv_nil : ∀ ds : List PyData, PyData.eqv (.list ds) (.list []) = ds.isEmpty
  | [] => rfl
  | _ :: _ => rfl
/-- xs != [], xs a list that changes -/
theorem tg_neNil {p : Addr} {ds : List PyData} (ha : EV K L G ta (.r p)) (hm : (p, .lst (ds.map .d)) ∈ L) (hs : SeqAt.shaped (.list ds) = true) : TG K L G (tTest (tOp (rNeD K) ta (tLst tNil))) (!ds.isEmpty) :=
  tg_test fun σ N H n ex Q q => ha σ N H n ex _ fun u N1 H1 w1 k1 => eg_lst (K := K) (L := L) (G := G) ag_nil (by decide) σ N1 H1 (n.step w1) w1.b _ fun v N2 H2 w2 k2 => by
    obtain rfl : u = .ref p := k1
    obtain ⟨_, vs, e1, e2⟩ := (n.ms.step (w1.trans w2)).at_ _ _ hm
    refine ⟨.list ds, .list [], .lst (SqL.of e1) (dps_to _ _ (dps_mono w2.b _ _ (dps_of_wds e2))), dp_to _ _ (dp_mono w2.b _ _ k2), hs, rfl, ?_⟩
    rw [eqv_nil]
    exact q _ N2 H2 (w1.trans w2) (.bl _)
/-- xs.pop(k), the objects told anew -/
theorem em_popP {p : Addr} {to : TE} {tr : TA} {Ra : List GV → SH → Prop} {gs' : List GV} (ho : EV K L G to (.r p)) (hp : (p, .lst gs') ∈ L) (h : AM K L G tr Ra) (hR : ∀ as L1, Ra as L1 → ∃ gs k g Lr, as = [.d (.int (k : Nat))] ∧ k < 1000000 ∧ L1.Perm ((p, .lst gs) :: Lr) ∧ gs[k]? = some g ∧ R g ((p, .lst (gs.eraseIdx k)) :: Lr)) : EM K L G (tBM K "list" rPopAt to tr) R := fun σ N H n ex Q q =>
  ho σ N H n ex _ fun x N1 H1 w1 k1 => by
    obtain rfl : x = .ref p := k1
    obtain ⟨_, vs', e1', _⟩ := (n.ms.step w1).at_ _ _ hp
    refine ⟨.inl ⟨rfl, vs', SqL.of e1'⟩, h σ N1 H1 (n.step w1) w1.b _ fun as gs0 L2 N2 H2 t2 m2 k2 r2 => ?_⟩
    obtain ⟨gs, k, g, Lr, rfl, hk, hm, hg, r⟩ := hR gs0 L2 r2
    cases k2 with
    | cons a c =>
      cases c
      have m3 := m2.perm hm
      obtain ⟨_, vs, e1, e2⟩ := m3.at_ _ _ List.mem_cons_self
      obtain ⟨v, e3, e4⟩ := wds_at e2 hg
      have hlt : k < vs.length := by
        rw [wds_len e2]
        exact (List.getElem?_eq_some_iff.mp hg).1
      refine ⟨p, vs, k, k, v, rfl, by rw [dp_int a], e1, by omega, by omega, ?_, e3, q _ g _ N2 _ ((((Tr.of w1).trans t2).perm hm).trans (Tr.head m3 t2.b)) (m3.head (mo_lst upd_same (wds_erase k e2))) e4 r⟩
      have hix : ixN vs.length (k : Int) = some k := by
        unfold ixN
        rw [if_pos (by omega), if_pos (by omega)]
        simp
      exact (ixN_seq hix).1
/-- d[k] = e, the objects told anew -/
theorem sm_dputP {p : Addr} {k : Key} {to ti tv : TE} {Rs : SH → Prop} (hv : EM K L G tv R) (ho : ∀ g L1, R g L1 → EV K L1 G to (.r p)) (hi : ∀ g L1, R g L1 → EG K L1 G ti (kD k)) (hm : ∀ g L1, R g L1 → ∃ kvs Lr, L1.Perm ((p, .dK kvs) :: Lr) ∧ kvs.length < sizeLine ∧ Rs ((p, .dK (putGK kvs k g)) :: Lr)) :
    SM K L G (sDPut to ti tv) (fun G' L' => G' = G ∧ Rs L') := fun σ N H D n ex q =>
  hv σ N H n ex _ fun v g L1 N1 H1 t1 m1 k1 r => ho g L1 r σ N1 H1 (n.trs t1 m1) t1.b _ fun x N2 H2 w2 k2 => hi g L1 r σ N2 H2 ((n.trs t1 m1).step w2) w2.b _ fun y N3 H3 w3 k3 => by
    obtain ⟨kvs, Lr, hp, hz, rs⟩ := hm g L1 r
    have w := w2.trans w3
    have m3 := (m1.step w).perm hp
    obtain ⟨_, vs, e1, e2⟩ := m3.at_ _ _ List.mem_cons_self
    exact ⟨p, _, k2, by rw [dp_key k3]; exact DPut.k e1 (by rw [kvs_len e2]; exact hz), q σ G _ N3 _ (((t1.trans (.of w)).perm hp).trans (Tr.head m3 w3.b)) ⟨((n.trs t1 m1).step w).nm, m3.head (mo_dK upd_same (kv_putK e2 (wd_mono w.a _ k1)))⟩ ⟨rfl, rs⟩⟩
theorem rg_ixL {ds : List PyData} {i : Int} {d : PyData} (h : atI ds i = some d) : RG K (rIxL K) (.list ds) (.int i) d := fun u v N H ex h1 h2 Q q => by
  obtain ⟨p, xs, rfl, hs, hd⟩ := dp_lst h1
  obtain ⟨y, e1, e2⟩ := dps_atI hd h
  exact ⟨p, xs, i, y, rfl, dp_int h2, ex_l ex hs, e1, q _ N H (.refl ex) e2⟩
theorem rg_ixT {ds : List PyData} {i : Int} {d : PyData} (h : atI ds i = some d) : RG K (rIxT K) (.tuple ds) (.int i) d := fun u v N H ex h1 h2 Q q => by
  obtain ⟨p, xs, rfl, hs, hd⟩ := dp_tup h1
  obtain ⟨y, e1, e2⟩ := dps_atI hd h
  exact ⟨p, xs, i, y, rfl, dp_int h2, ex_t ex hs, e1, q _ N H (.refl ex) e2⟩
theorem perm_erase {α : Type} : ∀ (l : List α) (k : Nat) (h : k < l.length), l.Perm (l[k] :: l.eraseIdx k)
  | x :: l, 0, _ => .refl _
  | x :: l, k + 1, h => by
    have ih := perm_erase l k (by simpa using h)
    show (x :: l).Perm (l[k]'(by simpa using h) :: x :: l.eraseIdx k)
    exact (List.Perm.cons x ih).trans (.swap ..)
theorem map_erase {α β : Type} (f : α → β) : ∀ (l : List α) (k : Nat), (l.map f).eraseIdx k = (l.eraseIdx k).map f
  | [], _ => rfl
  | x :: l, 0 => rfl
  | x :: l, k + 1 => by
    show f x :: (l.map f).eraseIdx k = f x :: (l.eraseIdx k).map f
    rw [map_erase f l k]
theorem am_two {R1 : GV → SH → Prop} {R2' : GV → GV → SH → Prop} (h : EM K L G ta R1) (h2 : ∀ g L1, R1 g L1 → EM K L1 G tb (R2' g)) : AM K L G (tCons ta (tCons tb tNil)) (fun gs L' => ∃ g g', gs = [g, g'] ∧ R2' g g' L') := by
  refine am_imp (am_cons (Ra := fun g r L' => ∃ g', r = [g'] ∧ R2' g g' L') h ?_) ?_
  · intro g L1 r
    exact am_one (h2 g L1 r)
  · rintro _ _ ⟨g, _, rfl, g', rfl, r⟩
    exact ⟨g, g', rfl, r⟩
theorem intG_map (gs : List Int) : intG gs = (gs.map PyData.int).map GV.d := by simp [intG]
abbrev s__law_draw : Stmt := top 61
abbrev N__law_draw : List Str := ["_law_state", "_law_room", "_law_found"]
theorem sc__law_draw : FnScope N__law_draw ["_law_state", "_law_room"] (defScope s__law_draw) := C8.fnScope_by (by decide +kernel)
theorem ok__law_draw (T : Tx w K mg base) : Cl P w K mg base CX0 2 "_law_draw" (spM K fun gs L Z => gs.length = 2 ∧ P__law_draw K gs L Z) := cl_mut T.d__law_draw T.g__law_draw sc__law_draw (fun _ _ _ h => h.1) (fun _ _ _ _ _ _ us hl => match us, hl with | [_, _], _ => rfl) fun cdv A outer s H E gs L Z hr h => ⟨_,
  (pss_cons (ps_if (pt_cmpR op_eq (pe_dget (hu_of hr) (pv 0) pe_str (fun _ _ => rfl)) pe_int (nomark _))
    (pss_one (ps_dput (hu_of hr) (pv 0) pe_str (pe_ifExp (pt_cmpR (op_neDK K rfl hr.units) (pe_dget (hu_of hr) (pv 0) pe_str (fun _ _ => rfl)) (pe_lst pa_nil) (nomark _)) (pe_bm PySem.F.plainAttrs_list PySem.F.slot_list_pop PySem.F.type_list_pop mt_popAt (pe_dget (hu_of hr) (pv 0) pe_str (fun _ _ => rfl)) (pa_cons pe_int pa_nil)) (pcl (ok__law_blended T) hr (by decide) pass0 (by rfl) (pa_cons (pv 0) pa_nil))) rfl))
    pss_nil)
  (pss_cons (ps_set (i := 2) sc__law_draw.nd rfl (Or.inl rfl) (pe_op op_mod (pe_callTy call_int1 (by rfl) T.n_int bt_int (pa_cons (pe_dget (hu_of hr) (pv 0) pe_str (fun _ _ => rfl)) pa_nil)) (pv 1)))
  (pss_cons (ps_dput (hu_of hr) (pv 0) pe_str (pe_op op_fdiv (pe_dget (hu_of hr) (pv 0) pe_str (fun _ _ => rfl)) (pv 1)) rfl)
  (pss_one (ps_ret (pv 2)))))), by
  replace h := h.2
 
  obtain ⟨p, gp, gs, cs, r, t, m, t0, t1, m0, m1, rfl, rfl, rfl⟩ := h
  refine bm_seq (Rs := fun G' L' => ∃ gs' r' t', t ≤ t' ∧ t' ≤ t + 1 ∧ G' = [some (.r p), some (.d (.int m)), none] ∧ L' = stH p gp gs' cs r' t') (sm_if (tg_test (eg_op (eg_ev (ev_dget (k := .inr "rest") (ev_var rfl) eg_str st_mem val_rest)) eg_int rg_eqI)) (fun _ => ?_) fun _ => ?_) ?_
  · refine sm_imp (sm_dputP (p := p) (k := .inr "rest") (R := fun g L1 => ∃ gs' t' v, t ≤ t' ∧ t' ≤ t + 1 ∧ g = .d (.int v) ∧ L1 = stH p gp gs' cs r t') (Rs := fun L' => ∃ gs' t' v, t ≤ t' ∧ t' ≤ t + 1 ∧ L' = stH p gp gs' cs v t') (em_ifM (tm_tg (tg_neNil (p := gp) (ds := gs.map PyData.int) (ev_dget (k := .inr "great") (ev_var rfl) eg_str st_mem val_great) (by rw [← intG_map]; exact gr_mem) (shaped_intZ gs))) ?_ ?_) (fun g L1 h => ev_var rfl) (fun g L1 h => eg_str) ?_) ?_
    · rintro _ ⟨hb, rfl⟩
      cases gs with
      | nil => cases hb
      | cons v gs =>
        refine em_perm (em_popP (p := gp) (gs' := intG (v :: gs)) (ev_dget (k := .inr "great") (ev_var rfl) eg_str st_mem val_great) gr_mem (am_av (av_cons (ev_d eg_int) av_nil)) ?_)
        rintro _ _ ⟨rfl, rfl⟩
        exact ⟨intG (v :: gs), 0, .d (.int v), [(p, .dK (stK gp cs r t))], rfl, by decide, .swap .., rfl, stH p gp gs cs r t, .swap .., gs, t, v, Int.le_refl _, by omega, rfl, rfl⟩
    · rintro _ ⟨hb, rfl⟩
      refine em_call (am_av (av_cons (ev_var rfl) av_nil)) ?_
      rintro _ _ ⟨rfl, rfl⟩
      refine ⟨_, [], _, by rw [List.append_nil], ⟨rfl, p, gp, gs, cs, r, t, t0, t1, rfl, rfl, rfl⟩, ?_⟩
      rintro _ _ ⟨v, rfl, rfl⟩
      exact ⟨gs, t + 1, v, by omega, by omega, rfl, by rw [List.append_nil]⟩
    · rintro _ _ ⟨gs', t', v, h1, h2, rfl, rfl⟩
      exact ⟨stK gp cs r t', [(gp, .lst (intG gs'))], .refl _, stK_len, gs', t', v, h1, h2, by rw [put_rest]; rfl⟩
    · rintro _ _ ⟨rfl, gs', t', v, h1, h2, rfl⟩
      exact ⟨gs', v, t', h1, h2, rfl, rfl⟩
  · refine sm_imp sm_next ?_
    rintro _ _ ⟨rfl, rfl⟩
    exact ⟨gs, r, t, Int.le_refl _, by omega, rfl, rfl⟩
  · rintro _ _ ⟨gs', r', t', h1, h2, rfl, rfl⟩
    refine bm_seq (sm_asg (em_eg (eg_ic (eg_cb (ag_cons (eg_ev (ev_dget (k := .inr "rest") (ev_var rfl) eg_str st_mem val_rest)) ag_nil) cg_int1) (eg_var rfl) m0))) ?_
    rintro _ _ ⟨_, rfl, rfl, rfl⟩
    refine bm_seq (sm_dput (p := p) (k := .inr "rest") (kvs := stK gp cs r' t') (R := fun g L1 => g = .d (.int (r' / m)) ∧ L1 = stH p gp gs' cs r' t') (em_eg (eg_ic (eg_ev (ev_dget (k := .inr "rest") (ev_var rfl) eg_str st_mem val_rest)) (eg_var rfl) ⟨m0, by omega⟩)) (fun g L1 h => ev_var rfl) (fun g L1 h => eg_str) (fun g L1 h => h.2 ▸ st_mem) stK_len) ?_
    rintro _ _ ⟨rfl, _, _, ⟨rfl, rfl⟩, rfl⟩
    rw [put_rest, putL_st]
    refine bm_imp (bm_ret (em_eg (eg_var rfl))) ?_
    rintro _ _ ⟨rfl, rfl⟩
    exact ⟨r' % m, gs', r' / m, t', Int.emod_nonneg _ (by omega), Int.emod_lt_of_pos _ m0, h1, h2, rfl, rfl⟩⟩
def P__law_pick (_K : PySem.W.Frag) (as : List GV) (L : SH) (Z : GV → SH → Prop) : Prop := ∃ p gp gs cs r t, ∃ ds : List PyData, 0 ≤ t ∧ t ≤ 1000000 ∧ 0 < ds.length ∧ ds.length < 1000000 ∧ L = stH p gp gs cs r t ∧ as = [.r p, .d (.list ds)] ∧
  Z = fun g L' => ∃ d gs' r' t', d ∈ ds ∧ t ≤ t' ∧ t' ≤ t + 1 ∧ g = .d d ∧ L' = stH p gp gs' cs r' t'
abbrev s__law_pick : Stmt := top 62
abbrev N__law_pick : List Str := ["_law_state", "_law_some"]
theorem sc__law_pick : FnScope N__law_pick ["_law_state", "_law_some"] (defScope s__law_pick) := C8.fnScope_by (by decide +kernel)
theorem ok__law_pick (T : Tx w K mg base) : Cl P w K mg base CX0 3 "_law_pick" (spM K fun gs L Z => gs.length = 2 ∧ P__law_pick K gs L Z) := cl_mut T.d__law_pick T.g__law_pick sc__law_pick (fun _ _ _ h => h.1) (fun _ _ _ _ _ _ us hl => match us, hl with | [_, _], _ => rfl) fun cdv A outer s H E gs L Z hr h => ⟨_,
  (pss_one (ps_ret (pe_ix (ix_listK K rfl) (pv 1) (pcl (ok__law_draw T) hr (by decide) pass0 (by rfl) (pa_cons (pv 0) (pa_cons (pe_callB (call_lenK K rfl) (by rfl) T.n_len bt_len (pa_cons (pv 1) pa_nil)) pa_nil))) (fun _ _ => rfl)))), by
  replace h := h.2
 
  obtain ⟨p, gp, gs, cs, r, t, ds, t0, t1, m0, m1, rfl, rfl, rfl⟩ := h
  refine bm_ret (em_op (R1 := fun g L' => g = .d (.list ds) ∧ L' = stH p gp gs cs r t) (R2' := fun g g' L' => ∃ v gs' r' t', 0 ≤ v ∧ v < (ds.length : Int) ∧ t ≤ t' ∧ t' ≤ t + 1 ∧ g' = .d (.int v) ∧ L' = stH p gp gs' cs r' t') (em_eg (eg_var rfl)) ?_ ?_)
  · rintro _ _ ⟨rfl, rfl⟩
    refine em_call (am_av (av_cons (ev_var rfl) (av_cons (ev_d (eg_cb (ag_cons (eg_var rfl) ag_nil) cg_lenL)) av_nil))) ?_
    rintro _ _ ⟨rfl, rfl⟩
    refine ⟨_, [], _, by rw [List.append_nil], ⟨rfl, p, gp, gs, cs, r, t, ds.length, t0, t1, by omega, by omega, rfl, rfl, rfl⟩, ?_⟩
    rintro _ _ ⟨v, gs', r', t', a, b, c, d, rfl, rfl⟩
    exact ⟨v, gs', r', t', a, b, c, d, rfl, by rw [List.append_nil]⟩
  · rintro _ _ _ _ ⟨rfl, rfl⟩ ⟨v, gs', r', t', a, b, c, d, rfl, rfl⟩
    obtain ⟨k, rfl⟩ : ∃ k : Nat, v = (k : Int) := ⟨v.toNat, by omega⟩
    have hk : k < ds.length := by omega
    exact ⟨.list ds, .int (k : Nat), ds[k], rfl, rfl, rg_ixL (atI_nat (List.getElem?_eq_getElem hk)), ds[k], gs', r', t', List.getElem_mem hk, c, d, rfl, rfl⟩⟩
def strGs (xs : List Str) : List GV := (xs.map PyData.str).map GV.d
def P__law_shuffled (_K : PySem.W.Frag) (as : List GV) (L : SH) (Z : GV → SH → Prop) : Prop := ∃ p gp gs cs r t, ∃ xs : List Str, 0 ≤ t ∧ t ≤ 900000 ∧ xs.length ≤ 1000 ∧ (∀ x ∈ xs, nameB x = true) ∧ L = stH p gp gs cs r t ∧ as = [.r p, .d (.list (xs.map .str))] ∧
  Z = fun g L' => ∃ ys gs' r' t', xs.Perm ys ∧ t ≤ t' ∧ t' ≤ t + 1000 ∧ g = .d (.list (ys.map .str)) ∧ L' = stH p gp gs' cs r' t'
abbrev s__law_shuffled : Stmt := top 63
abbrev N__law_shuffled : List Str := ["_law_state", "_law_some", "_law_left", "_law_found"]
theorem sc__law_shuffled : FnScope N__law_shuffled ["_law_state", "_law_some"] (defScope s__law_shuffled) := C8.fnScope_by (by decide +kernel)
theorem ok__law_shuffled (T : Tx w K mg base) : Cl P w K mg base CX0 3 "_law_shuffled" (spM K fun gs L Z => gs.length = 2 ∧ P__law_shuffled K gs L Z) := cl_mut T.d__law_shuffled T.g__law_shuffled sc__law_shuffled (fun _ _ _ h => h.1) (fun _ _ _ _ _ _ us hl => match us, hl with | [_, _], _ => rfl) fun cdv A outer s H E gs L Z hr h => ⟨_,
  (pss_cons (ps_par (i := 2) (j := 3) (by rfl) sc__law_shuffled.nd rfl rfl (by decide) rfl rfl (pa_cons (pe_callTy call_list_of (by rfl) T.n_list bt_list (pa_cons (pv 1) pa_nil)) (pa_cons (pe_lst pa_nil) pa_nil)) (by rfl))
  (pss_cons (ps_while PassesOwn.never (pt_cmpR (op_neDK K rfl hr.units) (pv 2) (pe_lst pa_nil) (nomark _))
    (pss_one (ps_expr (pe_bm PySem.F.plainAttrs_list PySem.F.slot_list_append PySem.F.type_list_append mt_append (pv 3) (pa_cons (pe_bm PySem.F.plainAttrs_list PySem.F.slot_list_pop PySem.F.type_list_pop mt_popAt (pv 2) (pa_cons (pcl (ok__law_draw T) hr (by decide) pass0 (by rfl) (pa_cons (pv 0) (pa_cons (pe_callB (call_lenK K rfl) (by rfl) T.n_len bt_len (pa_cons (pv 2) pa_nil)) pa_nil))) pa_nil)) pa_nil)))))
  (pss_one (ps_ret (pv 3))))), by
  replace h := h.2
 
  obtain ⟨p, gp, gs, cs, r, t, xs, t0, t1, hx, hn, rfl, rfl, rfl⟩ := h
  refine bm_seq (sm_par2 (R1 := fun g L' => ∃ pl, g = .r pl ∧ L' = (pl, .lst (strGs xs)) :: stH p gp gs cs r t) (R2' := fun g g' L' => ∃ pl pf, g = .r pl ∧ g' = .r pf ∧ L' = (pf, .lst []) :: (pl, .lst (strGs xs)) :: stH p gp gs cs r t) (em_listOf (ds := xs.map .str) (.inl (ag_cons (eg_var rfl) ag_nil))) ?_) ?_
  · rintro _ _ ⟨pl, rfl, rfl⟩
    refine em_imp (em_lst av_nil (by decide)) ?_
    rintro _ _ ⟨pf, rfl, rfl⟩
    exact ⟨pl, pf, rfl, rfl, rfl⟩
  rintro _ _ ⟨_, _, _, rfl, _, pl, pf, rfl, rfl, rfl⟩
  refine bm_seq (sm_while (m0 := xs.length) (W := fun m G' L' => ∃ fs ls gs' r' t', xs.Perm (fs ++ ls) ∧ ls.length = m ∧ t ≤ t' ∧ t' ≤ t + fs.length ∧ G' = [some (.r p), some (.d (.list (xs.map .str))), some (.r pl), some (.r pf)] ∧ L' = (pf, .lst (strGs fs)) :: (pl, .lst (strGs ls)) :: stH p gp gs' cs r' t')
    (Rs := fun G' L' => ∃ ys gs' r' t', xs.Perm ys ∧ t ≤ t' ∧ t' ≤ t + 1000 ∧ G' = [some (.r p), some (.d (.list (xs.map .str))), some (.r pl), some (.r pf)] ∧ L' = (pf, .lst (strGs ys)) :: (pl, .lst []) :: stH p gp gs' cs r' t') ⟨[], xs, gs, r, t, .refl _, rfl, Int.le_refl _, by simp, rfl, rfl⟩ ?_) ?_
  · rintro m _ _ ⟨fs, ls, gs', r', t', hp, rfl, h1, h2, rfl, rfl⟩
    have hl := hp.length_eq
    rw [List.length_append] at hl
    have hls : ∀ x ∈ ls, nameB x = true := fun x h => hn x (hp.mem_iff.mpr (List.mem_append_right _ h))
    refine tm_imp (tm_tg (tg_neNil (p := pl) (ds := ls.map .str) (ev_var rfl) (by simp [strGs]) (shaped_strL hls))) ?_
    rintro _ _ ⟨rfl, rfl⟩
    refine ⟨fun hb => ?_, fun hb => ?_⟩
    · have l0 : 0 < ls.length := by
        cases ls with
        | nil => cases hb
        | cons x l => simp
      refine sm_imp (sm_drop (em_appendP (p := pf) (gs' := strGs fs) (R := fun _ L' => ∃ fs' ls' gs' r' t', xs.Perm (fs' ++ ls') ∧ ls'.length < ls.length ∧ t ≤ t' ∧ t' ≤ t + fs'.length ∧ L' = (pf, .lst (strGs fs')) :: (pl, .lst (strGs ls')) :: stH p gp gs' cs r' t') (ev_var rfl) List.mem_cons_self
        (am_one (R := fun g L' => ∃ x ls' gs' r' t', g = .d (.str x) ∧ ls.Perm (x :: ls') ∧ t ≤ t' ∧ t' ≤ t + fs.length + 1 ∧ L' = (pl, .lst (strGs ls')) :: (stH p gp gs' cs r' t' ++ [(pf, .lst (strGs fs))]))
          (em_popP (p := pl) (gs' := strGs ls) (ev_var rfl) (List.mem_cons_of_mem _ List.mem_cons_self)
            (am_one (R := fun g L' => ∃ v gs' r' t', 0 ≤ v ∧ v < (ls.length : Int) ∧ t ≤ t' ∧ t' ≤ t + fs.length + 1 ∧ g = .d (.int v) ∧ L' = stH p gp gs' cs r' t' ++ [(pf, .lst (strGs fs)), (pl, .lst (strGs ls))])
              (em_call (am_av (av_cons (ev_var rfl) (av_cons (ev_d (eg_lenM (p := pl) (gs := strGs ls) (av_cons (ev_var rfl) av_nil) (List.mem_cons_of_mem _ List.mem_cons_self))) av_nil))) ?_)) ?_)) ?_)) ?_
      · rintro _ _ ⟨rfl, rfl⟩
        refine ⟨stH p gp gs' cs r' t', [(pf, .lst (strGs fs)), (pl, .lst (strGs ls))], _, List.perm_append_comm (l₁ := [(pf, MO.lst (strGs fs)), (pl, .lst (strGs ls))]), ⟨rfl, p, gp, gs', cs, r', t', (strGs ls).length, by omega, by omega, by simp [strGs]; omega, by simp [strGs]; omega, rfl, rfl, rfl⟩, ?_⟩
        rintro _ _ ⟨v, gs2, r2, t2, a, b, c, d, rfl, rfl⟩
        exact ⟨v, gs2, r2, t2, a, by simpa [strGs] using b, by omega, by omega, rfl, rfl⟩
      · rintro _ _ ⟨_, rfl, v, gs2, r2, t2, a, b, c, d, rfl, rfl⟩
        obtain ⟨k, rfl⟩ : ∃ k : Nat, v = (k : Int) := ⟨v.toNat, by omega⟩
        have hk : k < ls.length := by omega
        refine ⟨strGs ls, k, .d (.str ls[k]), stH p gp gs2 cs r2 t2 ++ [(pf, .lst (strGs fs))], rfl, by omega, ?_, by simp [strGs, List.getElem?_eq_getElem hk], ls[k], ls.eraseIdx k, gs2, r2, t2, rfl, ?_, c, d, ?_⟩
        · have e : stH p gp gs2 cs r2 t2 ++ [(pf, MO.lst (strGs fs)), (pl, .lst (strGs ls))] = (stH p gp gs2 cs r2 t2 ++ [(pf, MO.lst (strGs fs))]) ++ [(pl, .lst (strGs ls))] := by simp
          rw [e]
          exact List.perm_append_comm
        · exact perm_erase ls k hk
        · simp [strGs, map_erase]
      · rintro _ _ ⟨_, rfl, x, ls', gs2, r2, t2, rfl, hq, c, d, rfl⟩
        have hl2 := hq.length_eq
        rw [List.length_cons] at hl2
        refine ⟨.d (.str x), strGs fs, (pl, .lst (strGs ls')) :: stH p gp gs2 cs r2 t2, rfl, ?_, ?_, fs ++ [x], ls', gs2, r2, t2, ?_, by omega, c, by rw [List.length_append]; show t2 ≤ t + ((fs.length + 1 : Nat) : Int); omega, by simp [strGs]⟩
        · exact (List.perm_append_comm (l₁ := (pl, MO.lst (strGs ls')) :: stH p gp gs2 cs r2 t2) (l₂ := [(pf, MO.lst (strGs fs))]))
        · exact Nat.lt_of_lt_of_le (show (strGs fs).length < 1001 by simp [strGs]; omega) (by decide)
        · refine hp.trans ?_
          rw [List.append_assoc]
          exact (List.Perm.append_left _ hq)
      · rintro _ _ ⟨rfl, _, fs', ls', gs2, r2, t2, a, b, c, d, rfl⟩
        exact ⟨ls'.length, b, fs', ls', gs2, r2, t2, a, rfl, c, d, rfl, rfl⟩
    · have e0 : ls = [] := by
        cases ls with
        | nil => rfl
        | cons x l => cases hb
      subst e0
      rw [List.append_nil] at hp
      rw [List.length_nil] at hl
      exact ⟨fs, gs', r', t', hp, h1, by omega, rfl, rfl⟩
  · rintro _ _ ⟨ys, gs', r', t', hp, h1, h2, rfl, rfl⟩
    refine bm_frz (p := pf) (i := 3) (ds := ys.map .str) (Lr := (pl, .lst []) :: stH p gp gs' cs r' t') rfl (.refl _) ?_
    refine bm_sub (bm_imp (bm_ret (em_eg (eg_var rfl))) ?_)
    rintro _ _ ⟨rfl, rfl⟩
    exact ⟨stH p gp gs' cs r' t', List.sublist_cons_self _ _, ys, gs', r', t', hp, h1, h2, rfl, rfl⟩⟩
end
end K13
namespace K13
open PySem
theorem str_ext {x y : Str} (h : x.cps.toList = y.cps.toList) : x = y := by
  cases x
  cases y
  congr
  exact Array.toList_inj.mp h
theorem sort_le (x y : Str) : PySem.W.dataLe false PyData.str x y = decide (x.cps.toList ≤ y.cps.toList) := congrFun (congrFun (PySem.W.dataLe_str fun z : Str => z) x) y
theorem sort_asc {xs : List Str} (nd : xs.Nodup) : (sortS xs).Pairwise SLt := by
  have h := List.pairwise_mergeSort (le := PySem.W.dataLe false PyData.str) (fun a b c h1 h2 => by
    rw [sort_le, decide_eq_true_iff] at h1 h2 ⊢
    exact List.le_trans h1 h2) (fun a b => by
    rw [sort_le, sort_le, Bool.or_eq_true, decide_eq_true_iff, decide_eq_true_iff]
    exact List.le_total _ _) xs
  have n : (sortS xs).Nodup := (List.mergeSort_perm _ _).nodup_iff.mpr nd
  refine List.Pairwise.imp₂ (fun a b h1 h2 => ?_) h n
  have h1 : PySem.W.dataLe false PyData.str a b = true := h1
  rw [sort_le, decide_eq_true_iff, List.le_iff_lt_or_eq] at h1
  rcases h1 with z | z
  · exact z
  · exact absurd (str_ext z) h2
theorem sort_mem {xs : List Str} {x : Str} : x ∈ sortS xs ↔ x ∈ xs := List.mem_mergeSort
theorem sort_len {xs : List Str} : (sortS xs).length = xs.length := List.length_mergeSort ..
def poolA : List Str := ["a", "b", "c", "d", "e", "f"]
def poolB : List Str := ["north", "south", "t1", "t2", "u", "west"]
def inA : List Str := ["k", "p", "q"]
def inB : List Str := ["in1", "in2", "z"]
def numsP : List Q2 := [(1, 1), (2, 1), (1, 1), (3, 1), (1, 1), (1, 2), (0, 1), (5, 1), (3, 2), (4, 1), (2, 3), (10, 1)]
theorem w6_of {t b : Int} (h : 0 ≤ t ∧ t ≤ 10 ∧ 0 < b ∧ Int.gcd t b = 1 ∧ ∃ k, 6 = b * k) : W6 (t, b) := by
  obtain ⟨h1, h2, h3, h4, k, h5⟩ := h
  exact ⟨⟨h1, h2, h3, ⟨2 * k, by show (12 : Int) = b * (2 * k); rw [Int.mul_comm 2 k, ← Int.mul_assoc, ← h5]; decide⟩, h4⟩, ⟨k, h5⟩⟩
theorem nums_ok : ∀ q ∈ numsP, W6 q := by
  intro q hq
  simp only [numsP, List.mem_cons, List.not_mem_nil, or_false] at hq
  rcases hq with rfl | rfl | rfl | rfl | rfl | rfl | rfl | rfl | rfl | rfl | rfl | rfl
  all_goals first
    | exact w6_of ⟨by decide, by decide, by decide, by decide, 6, by decide⟩
    | exact w6_of ⟨by decide, by decide, by decide, by decide, 3, by decide⟩
    | exact w6_of ⟨by decide, by decide, by decide, by decide, 2, by decide⟩
/-- drawn taps -/
structure TapsD (xs : List Str) : Prop where
  taps : Taps xs
  hi5 : xs.length ≤ 5
  pool : (∀ x ∈ xs, x ∈ poolA) ∨ ∀ x ∈ xs, x ∈ poolB
theorem pool_nd : poolA.Nodup ∧ poolB.Nodup ∧ (∀ x ∈ poolA, nameB x = true) ∧ ∀ x ∈ poolB, nameB x = true := by decide +kernel
theorem in_ok : (inA.Nodup ∧ inB.Nodup) ∧ (∀ x ∈ inA, nameB x = true ∧ x ∉ poolA ∧ x ∉ poolB) ∧ ∀ x ∈ inB, nameB x = true ∧ x ∉ poolA ∧ x ∉ poolB := by decide +kernel
theorem taps_drawn {pool ys : List Str} {n : Nat} (hp : pool = poolA ∨ pool = poolB) (h : pool.Perm ys) (h2 : 2 ≤ n) (h5 : n ≤ 5) : TapsD (sortS (ys.take n)) := by
  have nd : pool.Nodup := by rcases hp with rfl | rfl; exact pool_nd.1; exact pool_nd.2.1
  have nm : ∀ x ∈ pool, nameB x = true := by rcases hp with rfl | rfl; exact pool_nd.2.2.1; exact pool_nd.2.2.2
  have l6 : pool.length = 6 := by rcases hp with rfl | rfl <;> rfl
  have ly : ys.length = 6 := by rw [← h.length_eq]; exact l6
  have sub : ∀ x ∈ sortS (ys.take n), x ∈ pool := fun x hx => h.mem_iff.mpr (List.mem_of_mem_take (sort_mem.mp hx))
  have len : (sortS (ys.take n)).length = n := by rw [sort_len, List.length_take]; omega
  refine ⟨⟨⟨fun x hx => nm x (sub x hx), sort_asc ((h.nodup_iff.mp nd).sublist (List.take_sublist _ _)), by omega⟩, by omega, by omega⟩, by omega, ?_⟩
  rcases hp with rfl | rfl
  · exact .inl sub
  · exact .inr sub
/-- drawn parts -/
structure PartD (zs : List Str) (s : Str) (p : Part) : Prop where
  ok : PartOk p
  w6 : W6 p.w
  sub : ∀ x ∈ p.ends, x ∈ zs
  few : p.ends.length ≤ 4
  noHub : s ≠ "hubs" → p.kind ≠ "hub"
  noLead : s ≠ "leads" → p.kind ≠ "lead"
structure NetD (xs : List Str) (ps : List Part) : Prop where
  net : NetOk xs ps
  hi5 : xs.length ≤ 5
  w6 : ∀ p ∈ ps, W6 p.w
  few4 : ∀ p ∈ ps, p.ends.length ≤ 4
  len : ps.length ≤ 9
  pl : (placesF xs ps).length ≤ 8
theorem net_drawn {xs zs : List Str} {ps : List Part} {s : Str} (t : TapsD xs) (hz : zs.length ≤ 8) (hx : ∀ x ∈ xs, x ∈ zs) (hp : ∀ p ∈ ps, PartD zs s p) (hl : ps.length ≤ 9) : NetD xs ps := by
  have few : (placesF xs ps).length ≤ 8 := Nat.le_trans (sub_len (places_ok xs ps).nd fun x h => by
    rcases places_mem.mp h with h | ⟨p, hpp, h⟩
    · exact hx x h
    · exact (hp p hpp).sub x h) hz
  refine ⟨⟨t.taps, by omega, fun p h => (hp p h).ok, fun h => ?_, by omega⟩, t.hi5, fun p h => (hp p h).w6, fun p h => (hp p h).few, hl, few⟩
  by_cases c : s = "hubs"
  · have : anyK ps "lead" = false := anyK_false fun p h => (hp p h).noLead (by rw [c]; decide)
    rw [this] at h
    exact absurd h.1 (by decide)
  · have : anyK ps "hub" = false := anyK_false fun p h => (hp p h).noHub c
    rw [this] at h
    exact absurd h.2 (by decide)
theorem inner_ok {xs inn : List Str} {n : Nat} (t : TapsD xs) (hi : inn = inA ∨ inn = inB) : (xs ++ inn.take n).Nodup ∧ (xs ++ inn.take n).length ≤ 8 ∧ 2 ≤ (xs ++ inn.take n).length ∧ ∀ x ∈ xs ++ inn.take n, nameB x = true := by
  have h1 : inn.Nodup := by rcases hi with rfl | rfl; exact in_ok.1.1; exact in_ok.1.2
  have h2 : ∀ x ∈ inn, nameB x = true ∧ x ∉ poolA ∧ x ∉ poolB := by rcases hi with rfl | rfl; exact in_ok.2.1; exact in_ok.2.2
  have h3 : inn.length = 3 := by rcases hi with rfl | rfl <;> rfl
  have := t.hi5
  have := t.taps.lo
  refine ⟨List.nodup_append.mpr ⟨asc_nd t.taps.nm.asc, h1.sublist (List.take_sublist _ _), fun a ha b hb e => ?_⟩, ?_, ?_, fun x hx => ?_⟩
  · subst e
    obtain ⟨_, k2, k3⟩ := h2 a (List.mem_of_mem_take hb)
    rcases t.pool with p | p
    · exact k2 (p a ha)
    · exact k3 (p a ha)
  · rw [List.length_append, List.length_take]
    omega
  · rw [List.length_append]
    omega
  · rcases List.mem_append.mp hx with z | z
    · exact t.taps.nm.ok x z
    · exact (h2 x (List.mem_of_mem_take z)).1
end K13
namespace K13
open PySem PySem.Spec PyProof.Rows L2
open Evl (Ex fresh_back ex_l ex_t)
/-- one step of reading an expression's worth -/
local macro_rules | `(tactic| walk_at "eg1") => `(tactic| first
  | exact eg_var rfl | exact eg_int | exact eg_str | exact eg_bl | exact eg_non | exact tg_yes | exact og_none
  | apply og_some
  | apply tg_test | apply tg_B | apply tg_not | apply eg_notV | apply eg_neg
  | apply eg_isi
  | apply eg_ixT | apply eg_ixL
  | apply eg_cmp | apply eg_i0 | apply eg_ic
  | apply eg_op (hr := rg_eqI) | apply eg_op (hr := rg_eqS) | apply eg_op (hr := rg_neI) | apply eg_op (hr := rg_neS)
  | apply eg_cb (hr := cg_gcd)
  | exact (rfl : atI _ _ = _) | exact (rfl : kitB _ _ = _)
  | exact ag_nil | apply ag_cons
  | exact (by assumption : EG _ _ _ _ _) | apply eg_tup | apply eg_lst | exact Nat.le_of_ble_eq_true rfl)
local macro_rules | `(tactic| walk_at "eg") => `(tactic| repeat' walk_at "eg1")
section
variable {P : Program} {w : World} {K : PySem.W.Frag} {mg : Str → Option Value} {base : Heap} {L : SH} {G : Gm} {te ta tb tl : TE} {ts : TS} {R : GV → SH → Prop}
/-- the state of the draws, t at most n further -/
def StT (p gp : Addr) (cs : List Int) (t n : Int) (L : SH) : Prop := ∃ gs' r' t', t ≤ t' ∧ t' ≤ t + n ∧ L = stH p gp gs' cs r' t'
def P__law_ct_number (_K : PySem.W.Frag) (as : List GV) (L : SH) (Z : GV → SH → Prop) : Prop := ∃ p gp gs cs r t, 0 ≤ t ∧ t ≤ 1000000 ∧ L = stH p gp gs cs r t ∧ as = [.r p] ∧
  Z = fun g L' => ∃ q, W6 q ∧ g = .d (numD q) ∧ StT p gp cs t 1 L'
abbrev s__law_ct_number : Stmt := top 71
abbrev N__law_ct_number : List Str := ["_law_state"]
theorem sc__law_ct_number : FnScope N__law_ct_number ["_law_state"] (defScope s__law_ct_number) := C8.fnScope_by (by decide +kernel)
theorem ok__law_ct_number (T : Tx w K mg base) : Cl P w K mg base CX0 4 "_law_ct_number" (spM K fun gs L Z => gs.length = 1 ∧ P__law_ct_number K gs L Z) := cl_mut T.d__law_ct_number T.g__law_ct_number sc__law_ct_number (fun _ _ _ h => h.1) (fun _ _ _ _ _ _ us hl => match us, hl with | [_], _ => rfl) fun cdv A outer s H E gs L Z hr h => ⟨_,
  (pss_one (ps_ret (pcl (ok__law_pick T) hr (by decide) pass0 (by rfl) (pa_cons (pv 0) (pa_cons (pe_lst (pa_cons pe_int (pa_cons pe_int (pa_cons pe_int (pa_cons pe_int (pa_cons pe_int (pa_cons (pe_tup (pa_cons pe_int (pa_cons pe_int pa_nil))) (pa_cons pe_int (pa_cons pe_int (pa_cons (pe_tup (pa_cons pe_int (pa_cons pe_int pa_nil))) (pa_cons pe_int (pa_cons (pe_tup (pa_cons pe_int (pa_cons pe_int pa_nil))) (pa_cons pe_int pa_nil))))))))))))) pa_nil))))), by
  replace h := h.2
 
  obtain ⟨p, gp, gs, cs, r, t, t0, t1, rfl, rfl, rfl⟩ := h
  refine bm_ret (em_call (am_av (av_cons (ev_var rfl) (av_cons (ev_d (d := .list (numsP.map numD)) (by walk_at "eg")) av_nil))) ?_)
  rintro _ _ ⟨rfl, rfl⟩
  refine ⟨_, [], _, by rw [List.append_nil], ⟨rfl, p, gp, gs, cs, r, t, numsP.map numD, t0, t1, by decide, by decide, rfl, rfl, rfl⟩, ?_⟩
  rintro _ _ ⟨d, gs', r', t', hd, a, b, rfl, rfl⟩
  obtain ⟨q, hq, rfl⟩ := List.mem_map.mp hd
  exact ⟨q, nums_ok q hq, rfl, gs', r', t', a, b, by rw [List.append_nil]⟩⟩
theorem cutD_take {α : Type} (xs : List α) (n : Nat) : cutD xs none (some (n : Int)) = xs.take n := by
  unfold cutD
  rw [HT.sIx_none, HT.sIx_nat]
  simp
def P__law_ct_taps (_K : PySem.W.Frag) (as : List GV) (L : SH) (Z : GV → SH → Prop) : Prop := ∃ p gp gs cs r t, 0 ≤ t ∧ t ≤ 800000 ∧ L = stH p gp gs cs r t ∧ as = [.r p, .d (.int 2), .d (.int 5)] ∧
  Z = fun g L' => ∃ xs, TapsD xs ∧ g = .d (strsD xs) ∧ StT p gp cs t 2000 L'
abbrev s__law_ct_taps : Stmt := top 72
abbrev N__law_ct_taps : List Str := ["_law_state", "_law_least", "_law_most", "_law_some", "_law_many"]
theorem sc__law_ct_taps : FnScope N__law_ct_taps ["_law_state", "_law_least", "_law_most"] (defScope s__law_ct_taps) := C8.fnScope_by (by decide +kernel)
theorem ok__law_ct_taps (T : Tx w K mg base) : Cl P w K mg base CX0 4 "_law_ct_taps" (spM K fun gs L Z => gs.length = 3 ∧ P__law_ct_taps K gs L Z) := cl_mut T.d__law_ct_taps T.g__law_ct_taps sc__law_ct_taps (fun _ _ _ h => h.1) (fun _ _ _ _ _ _ us hl => match us, hl with | [_, _, _], _ => rfl) fun cdv A outer s H E gs L Z hr h => ⟨_,
  (pss_cons (ps_set (i := 3) sc__law_ct_taps.nd rfl (Or.inl rfl) (pcl (ok__law_pick T) hr (by decide) pass0 (by rfl) (pa_cons (pv 0) (pa_cons (pe_lst (pa_cons (pe_lst (pa_cons pe_str (pa_cons pe_str (pa_cons pe_str (pa_cons pe_str (pa_cons pe_str (pa_cons pe_str pa_nil))))))) (pa_cons (pe_lst (pa_cons pe_str (pa_cons pe_str (pa_cons pe_str (pa_cons pe_str (pa_cons pe_str (pa_cons pe_str pa_nil))))))) pa_nil))) pa_nil))))
  (pss_cons (ps_set (i := 4) sc__law_ct_taps.nd rfl (Or.inl rfl) (pe_op op_add (pv 1) (pcl (ok__law_draw T) hr (by decide) pass0 (by rfl) (pa_cons (pv 0) (pa_cons (pe_op op_add (pe_op op_sub (pv 2) (pv 1)) pe_int) pa_nil)))))
  (pss_one (ps_ret (pe_callTy (call_tupK K rfl) (by rfl) T.n_tuple bt_tuple (pa_cons (pe_callB (cr_sortedD hr.units) (by rfl) T.n_sorted bt_sorted (pa_cons (pe_slice (sl_listK K rfl) (pcl (ok__law_shuffled T) hr (by decide) pass0 (by rfl) (pa_cons (pv 0) (pa_cons (pv 3) pa_nil))) po_none (po_some (pv 4))) pa_nil)) pa_nil)))))), by
  replace h := h.2
 
  obtain ⟨p, gp, gs, cs, r, t, t0, t1, rfl, rfl, rfl⟩ := h
  refine bm_seq (sm_asg (em_call (R := fun g L' => ∃ pool, (pool = poolA ∨ pool = poolB) ∧ g = .d (.list (pool.map .str)) ∧ StT p gp cs t 1 L') (am_av (av_cons (ev_var rfl) (av_cons (ev_d (d := .list ([poolA, poolB].map fun l => .list (l.map .str))) (by walk_at "eg")) av_nil))) ?_)) ?_
  · rintro _ _ ⟨rfl, rfl⟩
    refine ⟨_, [], _, by rw [List.append_nil], ⟨rfl, p, gp, gs, cs, r, t, [poolA, poolB].map fun l => .list (l.map .str), t0, by omega, by decide, by decide, rfl, rfl, rfl⟩, ?_⟩
    rintro _ _ ⟨d, gs', r', t', hd, a, b, rfl, rfl⟩
    obtain ⟨l, hl, rfl⟩ := List.mem_map.mp hd
    exact ⟨l, by simpa using hl, rfl, gs', r', t', a, b, by rw [List.append_nil]⟩
  rintro _ _ ⟨_, rfl, pool, hpool, rfl, gs1, r1, t1', a1, b1, rfl⟩
  refine bm_seq (sm_asg (R := fun g L' => ∃ n : Nat, 2 ≤ n ∧ n ≤ 5 ∧ g = .d (.int (n : Nat)) ∧ StT p gp cs t 2 L') (em_op (R1 := fun g L' => g = .d (.int 2) ∧ L' = stH p gp gs1 cs r1 t1') (R2' := fun _ g' L' => ∃ v, 0 ≤ v ∧ v < 4 ∧ g' = .d (.int v) ∧ StT p gp cs t 2 L') (em_eg (eg_var rfl)) ?_ ?_)) ?_
  · rintro _ _ ⟨rfl, rfl⟩
    refine em_call (am_av (av_cons (ev_var rfl) (av_cons (ev_d (d := .int 4) (eg_of (eg_op (eg_i0 (eg_var rfl) (eg_var rfl)) eg_int rg_addI) rfl)) av_nil))) ?_
    rintro _ _ ⟨rfl, rfl⟩
    refine ⟨_, [], _, by rw [List.append_nil], ⟨rfl, p, gp, gs1, cs, r1, t1', 4, by omega, by omega, by decide, by decide, rfl, rfl, rfl⟩, ?_⟩
    rintro _ _ ⟨v, gs', r', t', a, b, c, d, rfl, rfl⟩
    exact ⟨v, a, b, rfl, gs', r', t', by omega, by omega, by rw [List.append_nil]⟩
  · rintro _ _ _ _ ⟨rfl, rfl⟩ ⟨v, a, b, rfl, h⟩
    refine ⟨_, _, .int (2 + v), rfl, rfl, rg_addI, (2 + v).toNat, by omega, by omega, ?_, h⟩
    rw [Int.toNat_of_nonneg (by omega)]
  rintro _ _ ⟨_, rfl, n, h2, h5, rfl, gs2, r2, t2, a2, b2, rfl⟩
  have pl : pool.length = 6 ∧ ∀ x ∈ pool, nameB x = true := by
    rcases hpool with rfl | rfl
    · exact ⟨rfl, pool_nd.2.2.1⟩
    · exact ⟨rfl, pool_nd.2.2.2⟩
  refine bm_ret (em_cb (am_one (R := fun g L' => ∃ ys, pool.Perm ys ∧ g = .d (.list ((sortS (ys.take n)).map .str)) ∧ StT p gp cs t 2000 L') (em_cb (am_one (R := fun g L' => ∃ ys, pool.Perm ys ∧ g = .d (.list ((ys.take n).map .str)) ∧ StT p gp cs t 2000 L') (em_slL (R1 := fun g L' => ∃ ys, pool.Perm ys ∧ g = .d (.list (ys.map .str)) ∧ StT p gp cs t 2000 L') (lo := none) (em_call (am_av (av_cons (ev_var rfl) (av_cons (ev_var rfl) av_nil))) ?_) (fun _ _ _ => og_none) ?_)) ?_)) ?_)
  · rintro _ _ ⟨rfl, rfl⟩
    refine ⟨_, [], _, by rw [List.append_nil], ⟨rfl, p, gp, gs2, cs, r2, t2, pool, by omega, by omega, by omega, pl.2, rfl, rfl, rfl⟩, ?_⟩
    rintro _ _ ⟨ys, gs', r', t', hp, a, b, rfl, rfl⟩
    exact ⟨ys, hp, rfl, gs', r', t', by omega, by omega, by rw [List.append_nil]⟩
  · rintro _ L1 ⟨ys, hp, rfl, hs⟩
    refine om_imp (om_og (og_some (eg_var rfl))) ?_
    rintro _ _ ⟨rfl, rfl⟩
    exact ⟨_, rfl, ys, hp, by rw [cutD_take, List.map_take], hs⟩
  · rintro _ L1 ⟨_, rfl, ys, hp, rfl, hs⟩
    exact ⟨[.list ((ys.take n).map .str)], _, rfl, cg_sortStrs, ys, hp, rfl, hs⟩
  · rintro _ L1 ⟨_, rfl, ys, hp, rfl, hs⟩
    exact ⟨[.list ((sortS (ys.take n)).map .str)], _, rfl, cg_tupL, sortS (ys.take n), taps_drawn hpool hp h2 h5, rfl, hs⟩⟩
theorem kd_cases (p : Part) : p.kind = "lead" ∨ p.kind = "pipe" ∨ p.kind = "hub" := by
  cases p with
  | arc ld x y w => cases ld <;> simp [Part.kind]
  | hub xs w => exact .inr (.inr rfl)
def P__law_ct_part (_K : PySem.W.Frag) (as : List GV) (L : SH) (Z : GV → SH → Prop) : Prop := ∃ p gp gs cs r t, ∃ (zs : List Str) (s : Str), 0 ≤ t ∧ t ≤ 800000 ∧ 2 ≤ zs.length ∧ zs.length ≤ 1000 ∧ zs.Nodup ∧ (∀ x ∈ zs, nameB x = true) ∧ L = stH p gp gs cs r t ∧ as = [.r p, .d (.list (zs.map .str)), .d (.str s)] ∧
  Z = fun g L' => ∃ q, PartD zs s q ∧ g = .d (partD q) ∧ StT p gp cs t 2000 L'
abbrev s__law_ct_part : Stmt := top 73
abbrev N__law_ct_part : List Str := ["_law_state", "_law_places_here", "_law_sort_here", "_law_some", "_law_width"]
theorem sc__law_ct_part : FnScope N__law_ct_part ["_law_state", "_law_places_here", "_law_sort_here"] (defScope s__law_ct_part) := C8.fnScope_by (by decide +kernel)
theorem ok__law_ct_part (T : Tx w K mg base) : Cl P w K mg base CX0 5 "_law_ct_part" (spM K fun gs L Z => gs.length = 3 ∧ P__law_ct_part K gs L Z) := cl_mut T.d__law_ct_part T.g__law_ct_part sc__law_ct_part (fun _ _ _ h => h.1) (fun _ _ _ _ _ _ us hl => match us, hl with | [_, _, _], _ => rfl) fun cdv A outer s H E gs L Z hr h => ⟨_,
  (pss_cons (ps_set (i := 3) sc__law_ct_part.nd rfl (Or.inl rfl) (pcl (ok__law_shuffled T) hr (by decide) pass0 (by rfl) (pa_cons (pv 0) (pa_cons (pv 1) pa_nil))))
  (pss_cons (ps_set (i := 4) sc__law_ct_part.nd rfl (Or.inl rfl) (pcl (ok__law_ct_number T) hr (by decide) pass0 (by rfl) (pa_cons (pv 0) pa_nil)))
  (pss_cons (ps_if (PW.pt (pw_and (pt_cmpR op_eq (pv 2) pe_str (nomark _)) (pw_and1 (pt_cmpR op_gt (pcl (ok__law_draw T) hr (by decide) pass0 (by rfl) (pa_cons (pv 0) (pa_cons pe_int pa_nil))) pe_int (nomark _)))))
    (pss_one (ps_ret (pe_tup (pa_cons pe_str (pa_cons (pe_ix (ix_listK K rfl) (pv 3) pe_int (fun _ _ => rfl)) (pa_cons (pe_ix (ix_listK K rfl) (pv 3) pe_int (fun _ _ => rfl)) (pa_cons (pv 4) pa_nil)))))))
    pss_nil)
  (pss_cons (ps_if (PW.pt (pw_and (pt_cmpR op_eq (pv 2) pe_str (nomark _)) (pw_and (pt_cmpR op_gt (pe_callB (call_lenK K rfl) (by rfl) T.n_len bt_len (pa_cons (pv 3) pa_nil)) pe_int (nomark _)) (pw_and1 (pt_cmpR op_gt (pcl (ok__law_draw T) hr (by decide) pass0 (by rfl) (pa_cons (pv 0) (pa_cons pe_int pa_nil))) pe_int (nomark _))))))
    (pss_one (ps_ret (pe_tup (pa_cons pe_str (pa_cons (pe_callTy (call_tupK K rfl) (by rfl) T.n_tuple bt_tuple (pa_cons (pe_callB (cr_sortedD hr.units) (by rfl) T.n_sorted bt_sorted (pa_cons (pe_slice (sl_listK K rfl) (pv 3) po_none (po_some (pe_op op_add pe_int (pcl (ok__law_draw T) hr (by decide) pass0 (by rfl) (pa_cons (pv 0) (pa_cons (pe_callB (call_min2 rfl) (by rfl) T.n_min bt_min (pa_cons pe_int (pa_cons (pe_op op_sub (pe_callB (call_lenK K rfl) (by rfl) T.n_len bt_len (pa_cons (pv 3) pa_nil)) pe_int) pa_nil))) pa_nil)))))) pa_nil)) pa_nil)) (pa_cons (pv 4) pa_nil))))))
    pss_nil)
  (pss_one (ps_ret (pe_tup (pa_cons pe_str (pa_cons (pe_callB (cr_minS rfl hr.units) (by rfl) T.n_min bt_min (pa_cons (pe_slice (sl_listK K rfl) (pv 3) po_none (po_some pe_int)) pa_nil)) (pa_cons (pe_callB (cr_maxS rfl hr.units) (by rfl) T.n_max bt_max (pa_cons (pe_slice (sl_listK K rfl) (pv 3) po_none (po_some pe_int)) pa_nil)) (pa_cons (pv 4) pa_nil))))))))))), by
  replace h := h.2
 
  obtain ⟨p, gp, gs, cs, r, t, zs, sw, t0, t1, z2, z3, nz, nm, rfl, rfl, rfl⟩ := h
  refine bm_seq (sm_asg (em_call (R := fun g L' => ∃ ys, zs.Perm ys ∧ g = .d (.list (ys.map .str)) ∧ StT p gp cs t 1000 L') (am_av (av_cons (ev_var rfl) (av_cons (ev_var rfl) av_nil))) ?_)) ?_
  · rintro _ _ ⟨rfl, rfl⟩
    refine ⟨_, [], _, by rw [List.append_nil], ⟨rfl, p, gp, gs, cs, r, t, zs, t0, by omega, z3, nm, rfl, rfl, rfl⟩, ?_⟩
    rintro _ _ ⟨ys, gs', r', t', hp, a, b, rfl, rfl⟩
    exact ⟨ys, hp, rfl, gs', r', t', a, b, by rw [List.append_nil]⟩
  rintro _ _ ⟨_, rfl, ys, hp, rfl, gs1, r1, t1', a1, b1, rfl⟩
  refine bm_seq (sm_asg (em_call (R := fun g L' => ∃ q, W6 q ∧ g = .d (numD q) ∧ StT p gp cs t 1001 L') (am_av (av_cons (ev_var rfl) av_nil)) ?_)) ?_
  · rintro _ _ ⟨rfl, rfl⟩
    refine ⟨_, [], _, by rw [List.append_nil], ⟨rfl, p, gp, gs1, cs, r1, t1', by omega, by omega, rfl, rfl, rfl⟩, ?_⟩
    rintro _ _ ⟨q, hq, rfl, gs', r', t', a, b, rfl⟩
    exact ⟨q, hq, rfl, gs', r', t', by omega, by omega, by rw [List.append_nil]⟩
  rintro _ _ ⟨_, rfl, q, hq, rfl, gs2, r2, t2, a2, b2, rfl⟩
  have hy := hp.length_eq
  have ndy : ys.Nodup := hp.nodup_iff.mp nz
  have suby : ∀ x ∈ ys, x ∈ zs := fun x h => hp.mem_iff.mpr h
  obtain ⟨y0, y1, yr, rfl⟩ : ∃ y0 y1 yr, ys = y0 :: y1 :: yr := by
    match ys, hy with
    | [], hy => exact absurd (show zs.length = 0 from hy) (by omega)
    | [_], hy => exact absurd (show zs.length = 1 from hy) (by omega)
    | a :: b :: l, _ => exact ⟨a, b, l, rfl⟩
  have n0 := nm y0 (suby y0 (by simp))
  have n1 := nm y1 (suby y1 (by simp))
  have ne01 : y0 ≠ y1 := fun e => by subst e; simp at ndy
  show BM K (stH p gp gs2 cs r2 t2) [some (.r p), some (.d (.list (zs.map .str))), some (.d (.str sw)), some (.d (.list ((y0 :: y1 :: yr).map .str))), some (.d (numD q))] _ _
  have e0 : ∀ {L0 : SH}, EG K L0 [some (.r p), some (.d (.list (zs.map .str))), some (.d (.str sw)), some (.d (.list ((y0 :: y1 :: yr).map .str))), some (.d (numD q))] (tOp (rIxL K) (tVar 3) (tC (.int 0))) (.str y0) := fun {L0} => eg_ixL (ds := (y0 :: y1 :: yr).map .str) (eg_var rfl) eg_int (atI_nat (k := 0) rfl)
  have e1 : ∀ {L0 : SH}, EG K L0 [some (.r p), some (.d (.list (zs.map .str))), some (.d (.str sw)), some (.d (.list ((y0 :: y1 :: yr).map .str))), some (.d (numD q))] (tOp (rIxL K) (tVar 3) (tC (.int 1))) (.str y1) := fun {L0} => eg_ixL (ds := (y0 :: y1 :: yr).map .str) (eg_var rfl) eg_int (atI_nat (k := 1) rfl)
  have drawG : ∀ {gs2 r2 t2 v3 gte} {mm : Int}, t ≤ t2 → t2 ≤ t + 1500 → 0 < mm → mm < 1000000 → gte = [some (GV.r p), some (.d (.list (zs.map .str))), some (.d (.str sw)), some (.d (.list ((y0 :: y1 :: yr).map .str))), some (.d (numD q))] → EG K (stH p gp gs2 cs r2 t2) gte v3 (.int mm) → EM K (stH p gp gs2 cs r2 t2) gte (tCall (spM K fun gs L Z => gs.length = 2 ∧ P__law_draw K gs L Z) [] E0 (tCons (tVar 0) (tCons v3 tNil))) (fun g L' => ∃ v, 0 ≤ v ∧ v < mm ∧ g = .d (.int v) ∧ ∃ gs' r' t', t ≤ t' ∧ t' ≤ t2 + 1 ∧ L' = stH p gp gs' cs r' t') := fun {gs2 r2 t2 v3 gte mm} h1 h2 m0 m1 hg hv => by
    subst hg
    refine em_call (am_av (av_cons (ev_var rfl) (av_cons (ev_d hv) av_nil))) ?_
    rintro _ _ ⟨rfl, rfl⟩
    refine ⟨_, [], _, by rw [List.append_nil], ⟨rfl, p, gp, gs2, cs, r2, t2, mm, by omega, by omega, m0, m1, rfl, rfl, rfl⟩, ?_⟩
    rintro _ _ ⟨v, gs', r', t', a, b, c, d, rfl, rfl⟩
    exact ⟨v, a, b, rfl, gs', r', t', by omega, d, by rw [List.append_nil]⟩
  refine bm_whenM (Rt := fun b L' => (b = true → sw = "leads") ∧ ∃ gs' r' t', t ≤ t' ∧ t' ≤ t + 1002 ∧ L' = stH p gp gs' cs r' t') (tm_and (tm_tg (tg_test (eg_op (eg_var rfl) eg_str rg_eqS))) ?_ ?_) ?_ ?_ ?_
  · rintro _ ⟨hb, rfl⟩
    refine tm_val (em_op (R2' := fun g g' L' => g' = .d (.int 0) ∧ (∃ v, g = .d (.int v)) ∧ ∃ gs' r' t', t ≤ t' ∧ t' ≤ t + 1002 ∧ L' = stH p gp gs' cs r' t') (R := fun g L' => (∃ b, g = .d (.bool b)) ∧ ∃ gs' r' t', t ≤ t' ∧ t' ≤ t + 1002 ∧ L' = stH p gp gs' cs r' t') (drawG (mm := 3) a2 (by omega) (by decide) (by decide) rfl eg_int) ?_ ?_) ?_
    · rintro _ _ ⟨v, _, _, rfl, gs', r', t', c, d, rfl⟩
      refine em_imp (em_eg eg_int) ?_
      rintro _ _ ⟨rfl, rfl⟩
      exact ⟨rfl, ⟨v, rfl⟩, gs', r', t', c, by omega, rfl⟩
    · rintro _ _ _ _ _ ⟨rfl, ⟨v, rfl⟩, h⟩
      exact ⟨_, _, _, rfl, rfl, rg_b0, ⟨_, rfl⟩, h⟩
    · rintro _ _ ⟨⟨b, rfl⟩, h⟩
      exact ⟨b, rfl, fun _ => of_decide_eq_true hb.symm, h⟩
  · rintro _ ⟨hb, rfl⟩
    exact ⟨fun z => (by cases z), gs2, r2, t2, a2, by omega, rfl⟩
  · rintro _ ⟨hs, gs', r', t', c, d, rfl⟩
    refine bm_imp (bm_ret (em_eg (eg_tup (ds := partL (.arc true y0 y1 q)) (ag_cons eg_str (ag_cons e0 (ag_cons e1 (ag_cons (eg_var rfl) ag_nil)))) (Nat.le_of_ble_eq_true rfl)))) ?_
    rintro _ _ ⟨rfl, rfl⟩
    refine ⟨.arc true y0 y1 q, ⟨⟨n0, n1, hq.num, ne01⟩, hq, fun x h => suby x ?_, Nat.le_of_ble_eq_true rfl, fun _ => kd_lead, fun z => absurd (hs rfl) z⟩, rfl, gs', r', t', c, by omega, rfl⟩
    simp [Part.ends] at h
    rcases h with h | h <;> simp [h]
  · rintro _ _ L' ⟨q, _, z, _⟩
    cases z
  rintro _ ⟨_, gs3, r3, t3, a3, b3, rfl⟩
  refine bm_whenM (Rt := fun b L' => (b = true → sw = "hubs" ∧ 2 < (y0 :: y1 :: yr).length) ∧ ∃ gs' r' t', t ≤ t' ∧ t' ≤ t + 1003 ∧ L' = stH p gp gs' cs r' t') (tm_and (tm_tg (tg_test (eg_op (eg_var rfl) eg_str rg_eqS))) ?_ ?_) ?_ ?_ ?_
  · rintro _ ⟨hb, rfl⟩
    refine tm_and (R1 := fun b L' => b = decide ((2 : Int) < (((y0 :: y1 :: yr).map PyData.str).length : Nat)) ∧ L' = stH p gp gs3 cs r3 t3) (tm_tg (tg_test (eg_cmp (g := fun i j => decide (j < i)) (eg_cb (ag_cons (eg_var rfl) ag_nil) cg_lenL) eg_int))) ?_ ?_
    · rintro _ ⟨hb2, rfl⟩
      refine tm_val (em_op (R2' := fun g g' L' => g' = .d (.int 0) ∧ (∃ v, g = .d (.int v)) ∧ ∃ gs' r' t', t ≤ t' ∧ t' ≤ t + 1003 ∧ L' = stH p gp gs' cs r' t') (R := fun g L' => (∃ b, g = .d (.bool b)) ∧ ∃ gs' r' t', t ≤ t' ∧ t' ≤ t + 1003 ∧ L' = stH p gp gs' cs r' t') (drawG (mm := 3) a3 (by omega) (by decide) (by decide) rfl eg_int) ?_ ?_) ?_
      · rintro _ _ ⟨v, _, _, rfl, gs', r', t', c, d, rfl⟩
        refine em_imp (em_eg eg_int) ?_
        rintro _ _ ⟨rfl, rfl⟩
        exact ⟨rfl, ⟨v, rfl⟩, gs', r', t', c, by omega, rfl⟩
      · rintro _ _ _ _ _ ⟨rfl, ⟨v, rfl⟩, h⟩
        exact ⟨_, _, _, rfl, rfl, rg_b0, ⟨_, rfl⟩, h⟩
      · rintro _ _ ⟨⟨b, rfl⟩, h⟩
        refine ⟨b, rfl, fun _ => ⟨of_decide_eq_true hb.symm, ?_⟩, h⟩
        have := of_decide_eq_true hb2.symm
        rw [List.length_map] at this
        omega
    · rintro _ ⟨_, rfl⟩
      exact ⟨fun z => (by cases z), gs3, r3, t3, a3, by omega, rfl⟩
  · rintro _ ⟨hb, rfl⟩
    exact ⟨fun z => (by cases z), gs3, r3, t3, a3, by omega, rfl⟩
  · rintro _ ⟨hs, gs4, r4, t4, a4, b4, rfl⟩
    obtain ⟨hs1, hs2⟩ := hs rfl
    obtain ⟨ly, hly⟩ : ∃ ly, ly = (y0 :: y1 :: yr).length := ⟨_, rfl⟩
    have hly2 : (((y0 :: y1 :: yr).map PyData.str).length : Int) = (ly : Int) := by rw [List.length_map, hly]
    rw [← hly] at hs2
    obtain ⟨mm, hmm⟩ : ∃ mm : Int, mm = if (ly : Int) - 1 < 3 then (ly : Int) - 1 else 3 := ⟨_, rfl⟩
    have mm0 : 0 < mm ∧ mm < 1000000 ∧ mm ≤ 3 ∧ mm ≤ (ly : Int) - 1 := by
      rw [hmm]
      split <;> omega
    refine bm_ret (em_tupM (Ra := fun gs L' => ∃ n : Nat, 2 ≤ n ∧ n ≤ 4 ∧ n ≤ ly ∧ gs = [.d (.str "hub"), .d (strsD (sortS ((y0 :: y1 :: yr).take n))), .d (numD q)] ∧ StT p gp cs t 2000 L') (am_imp (am_cons (Ra := fun g r L' => ∃ n : Nat, 2 ≤ n ∧ n ≤ 4 ∧ n ≤ ly ∧ g = .d (.str "hub") ∧ r = [.d (strsD (sortS ((y0 :: y1 :: yr).take n))), .d (numD q)] ∧ StT p gp cs t 2000 L') (em_eg eg_str) ?_) ?_) ?_)
    · rintro _ _ ⟨rfl, rfl⟩
      refine am_imp (am_two (R1 := fun g L' => ∃ n : Nat, 2 ≤ n ∧ n ≤ 4 ∧ n ≤ ly ∧ g = .d (strsD (sortS ((y0 :: y1 :: yr).take n))) ∧ StT p gp cs t 2000 L') (R2' := fun g g' L' => g' = .d (numD q) ∧ ∃ n : Nat, 2 ≤ n ∧ n ≤ 4 ∧ n ≤ ly ∧ g = .d (strsD (sortS ((y0 :: y1 :: yr).take n))) ∧ StT p gp cs t 2000 L')
        (em_cb (am_one (R := fun g L' => ∃ n : Nat, 2 ≤ n ∧ n ≤ 4 ∧ n ≤ ly ∧ g = .d (.list ((sortS ((y0 :: y1 :: yr).take n)).map .str)) ∧ StT p gp cs t 2000 L') (em_cb (am_one (R := fun g L' => ∃ n : Nat, 2 ≤ n ∧ n ≤ 4 ∧ n ≤ ly ∧ g = .d (.list (((y0 :: y1 :: yr).take n).map .str)) ∧ StT p gp cs t 2000 L')
          (em_slL (lo := none) (em_eg (eg_var rfl)) (fun _ _ _ => og_none) ?_)) ?_)) ?_) ?_) ?_
      · rintro _ _ ⟨rfl, rfl⟩
        refine om_some (R := fun g L' => ∃ n : Nat, 2 ≤ n ∧ n ≤ 4 ∧ n ≤ ly ∧ g = .d (.int (n : Nat)) ∧ StT p gp cs t 2000 L') (em_op (R1 := fun g L' => g = .d (.int 2) ∧ L' = stH p gp gs4 cs r4 t4) (R2' := fun _ g' L' => ∃ v, 0 ≤ v ∧ v < mm ∧ g' = .d (.int v) ∧ StT p gp cs t 2000 L') (em_eg eg_int) ?_ ?_) ?_
        · rintro _ _ ⟨rfl, rfl⟩
          refine em_imp (drawG (mm := mm) a4 (by omega) mm0.1 mm0.2.1 rfl ?_) ?_
          · rw [hmm, ← hly2]
            exact eg_cb (ag_cons eg_int (ag_cons (eg_i0 (eg_cb (ag_cons (eg_var rfl) ag_nil) cg_lenL) eg_int) ag_nil)) cg_min2
          · rintro _ _ ⟨v, a, b, rfl, gs', r', t', c, d, rfl⟩
            exact ⟨v, a, b, rfl, gs', r', t', c, by omega, rfl⟩
        · rintro _ _ _ _ ⟨rfl, rfl⟩ ⟨v, a, b, rfl, h⟩
          refine ⟨_, _, .int (2 + v), rfl, rfl, rg_addI, (2 + v).toNat, by omega, by omega, by omega, ?_, h⟩
          rw [Int.toNat_of_nonneg (by omega)]
        · rintro _ _ ⟨n, a, b, c, rfl, h⟩
          exact ⟨n, rfl, _, rfl, n, a, b, c, by rw [cutD_take, List.map_take], h⟩
      · rintro _ _ ⟨_, rfl, n, a, b, c, rfl, h⟩
        exact ⟨[.list (((y0 :: y1 :: yr).take n).map .str)], _, rfl, cg_sortStrs, n, a, b, c, rfl, h⟩
      · rintro _ _ ⟨_, rfl, n, a, b, c, rfl, h⟩
        exact ⟨[.list ((sortS ((y0 :: y1 :: yr).take n)).map .str)], _, rfl, cg_tupL, n, a, b, c, rfl, h⟩
      · rintro _ _ h
        refine em_imp (em_eg (eg_var rfl)) ?_
        rintro _ _ ⟨rfl, rfl⟩
        exact ⟨rfl, h⟩
      · rintro _ _ ⟨_, _, rfl, rfl, n, a, b, c, rfl, h⟩
        exact ⟨n, a, b, c, rfl, rfl, h⟩
    · rintro _ _ ⟨_, _, rfl, n, a, b, c, rfl, rfl, h⟩
      exact ⟨n, a, b, c, rfl, h⟩
    · rintro _ _ ⟨n, a, b, c, rfl, h⟩
      have sub : ∀ x ∈ sortS ((y0 :: y1 :: yr).take n), x ∈ zs := fun x hx => suby x (List.mem_of_mem_take (sort_mem.mp hx))
      have len : (sortS ((y0 :: y1 :: yr).take n)).length = n := by
        rw [sort_len, List.length_take]
        omega
      exact ⟨Nat.le_of_ble_eq_true rfl, partL (.hub (sortS ((y0 :: y1 :: yr).take n)) q), rfl, .hub (sortS ((y0 :: y1 :: yr).take n)) q, ⟨⟨⟨fun x hx => nm x (sub x hx), sort_asc (ndy.sublist (List.take_sublist _ _)), by omega⟩, by omega, hq.num⟩, hq, sub, by show (sortS ((y0 :: y1 :: yr).take n)).length ≤ 4; omega, fun z => absurd hs1 z, fun _ => by show ("hub" : Str) ≠ "lead"; decide⟩, rfl, h⟩
  · rintro _ _ L' ⟨q, _, z, _⟩
    cases z
  rintro _ ⟨_, gs4, r4, t4, a4, b4, rfl⟩
  obtain ⟨lo, hlo⟩ : ∃ lo, lo = if y1.cps.toList < y0.cps.toList then y1 else y0 := ⟨_, rfl⟩
  obtain ⟨hi, hhi⟩ : ∃ hi, hi = if y0.cps.toList < y1.cps.toList then y1 else y0 := ⟨_, rfl⟩
  have lh : SLt lo hi ∧ (lo = y0 ∨ lo = y1) ∧ (hi = y0 ∨ hi = y1) := by
    rw [hlo, hhi]
    by_cases c : y1.cps.toList < y0.cps.toList
    · have c2 : ¬ y0.cps.toList < y1.cps.toList := fun z => List.lt_irrefl _ (List.lt_trans c z)
      rw [if_pos c, if_neg c2]
      exact ⟨c, .inr rfl, .inl rfl⟩
    · have c2 : y0.cps.toList < y1.cps.toList := by
        rcases List.le_iff_lt_or_eq.mp (List.not_lt.mp c) with z | z
        · exact z
        · exact absurd (str_ext z) ne01
      rw [if_neg c, if_pos c2]
      exact ⟨c2, .inl rfl, .inr rfl⟩
  have sl : ∀ {L0 : SH}, EG K L0 [some (.r p), some (.d (.list (zs.map .str))), some (.d (.str sw)), some (.d (.list ((y0 :: y1 :: yr).map .str))), some (.d (numD q))] (tSl (rSlL K) (tVar 3) tNoPart (tPart (tC (.int 2)))) (.list [.str y0, .str y1]) := fun {L0} => eg_of (eg_slL (eg_var rfl) og_none (og_some eg_int)) (by rw [show (2 : Int) = ((2 : Nat) : Int) from rfl, cutD_take]; rfl)
  refine bm_imp (bm_ret (em_eg (eg_tup (ds := partL (.arc false lo hi q)) (ag_cons eg_str (ag_cons (eg_of (eg_cb (ag_cons sl ag_nil) cg_minS) (by rw [hlo])) (ag_cons (eg_of (eg_cb (ag_cons sl ag_nil) cg_maxS) (by rw [hhi])) (ag_cons (eg_var rfl) ag_nil)))) (Nat.le_of_ble_eq_true rfl)))) ?_
  rintro _ _ ⟨rfl, rfl⟩
  have m0 : lo ∈ zs ∧ hi ∈ zs := by
    obtain ⟨_, h1, h2⟩ := lh
    refine ⟨?_, ?_⟩
    · rcases h1 with rfl | rfl <;> exact suby _ (by simp)
    · rcases h2 with rfl | rfl <;> exact suby _ (by simp)
  refine ⟨.arc false lo hi q, ⟨⟨nm lo m0.1, nm hi m0.2, hq.num, lh.1⟩, hq, fun x h => ?_, Nat.le_of_ble_eq_true rfl, fun _ => by show ("pipe" : Str) ≠ "hub"; decide, fun _ => kd_pipe⟩, rfl, gs4, r4, t4, a4, by omega, rfl⟩
  simp [Part.ends] at h
  rcases h with h | h
  · exact h ▸ m0.1
  · exact h ▸ m0.2⟩
end
end K13
namespace K13
open PySem PySem.Spec PyProof.Rows L2
open Evl (Ex fresh_back ex_l ex_t)
/-- one step of reading an expression's worth -/
local macro_rules | `(tactic| walk_at "eg1") => `(tactic| first
  | exact eg_var rfl | exact eg_int | exact eg_str | exact eg_bl | exact eg_non | exact tg_yes | exact og_none
  | apply og_some
  | apply tg_test | apply tg_B | apply tg_not | apply eg_notV | apply eg_neg
  | apply eg_isi
  | apply eg_ixT | apply eg_ixL
  | apply eg_cmp | apply eg_i0 | apply eg_ic
  | apply eg_op (hr := rg_eqI) | apply eg_op (hr := rg_eqS) | apply eg_op (hr := rg_neI) | apply eg_op (hr := rg_neS)
  | apply eg_cb (hr := cg_gcd)
  | exact (rfl : atI _ _ = _) | exact (rfl : kitB _ _ = _)
  | exact ag_nil | apply ag_cons
  | exact (by assumption : EG _ _ _ _ _) | apply eg_tup | apply eg_lst | exact Nat.le_of_ble_eq_true rfl)
local macro_rules | `(tactic| walk_at "eg") => `(tactic| repeat' walk_at "eg1")
section
variable {P : Program} {w : World} {K : PySem.W.Frag} {mg : Str → Option Value} {base : Heap} {L : SH} {G : Gm} {te ta tb tl : TE} {ts : TS} {R : GV → SH → Prop}
def P__law_ct_net (_K : PySem.W.Frag) (as : List GV) (L : SH) (Z : GV → SH → Prop) : Prop := ∃ p gp gs cs r t, ∃ (xs : List Str) (s : Str), 0 ≤ t ∧ t ≤ 100000 ∧ TapsD xs ∧ L = stH p gp gs cs r t ∧ as = [.r p, .d (strsD xs), .d (.str s)] ∧
  Z = fun g L' => ∃ ps, NetD xs ps ∧ g = .d (netD xs ps) ∧ StT p gp cs t 100000 L'
abbrev s__law_ct_net : Stmt := top 74
abbrev N__law_ct_net : List Str := ["_law_state", "_law_taps_here", "_law_sort_here", "_law_inner", "_law_places_here", "_law_parts_here", "_law_lap"]
theorem sc__law_ct_net : FnScope N__law_ct_net ["_law_state", "_law_taps_here", "_law_sort_here"] (defScope s__law_ct_net) := C8.fnScope_by (by decide +kernel)
theorem ok__law_ct_net (T : Tx w K mg base) : Cl P w K mg base CX0 6 "_law_ct_net" (spM K fun gs L Z => gs.length = 3 ∧ P__law_ct_net K gs L Z) := cl_mut T.d__law_ct_net T.g__law_ct_net sc__law_ct_net (fun _ _ _ h => h.1) (fun _ _ _ _ _ _ us hl => match us, hl with | [_, _, _], _ => rfl) fun cdv A outer s H E gs L Z hr h => ⟨_,
  (pss_cons (ps_set (i := 3) sc__law_ct_net.nd rfl (Or.inl rfl) (pe_slice (sl_listK K rfl) (pe_ix (ix_listK K rfl) (pe_lst (pa_cons (pe_lst (pa_cons pe_str (pa_cons pe_str (pa_cons pe_str pa_nil)))) (pa_cons (pe_lst (pa_cons pe_str (pa_cons pe_str (pa_cons pe_str pa_nil)))) pa_nil))) (pcl (ok__law_draw T) hr (by decide) pass0 (by rfl) (pa_cons (pv 0) (pa_cons pe_int pa_nil))) (fun _ _ => rfl)) po_none (po_some (pcl (ok__law_pick T) hr (by decide) pass0 (by rfl) (pa_cons (pv 0) (pa_cons (pe_lst (pa_cons pe_int (pa_cons pe_int (pa_cons pe_int (pa_cons pe_int pa_nil))))) pa_nil))))))
  (pss_cons (ps_set (i := 4) sc__law_ct_net.nd rfl (Or.inr rfl) (pe_op (op_catLK K rfl) (pe_callTy call_list_of (by rfl) T.n_list bt_list (pa_cons (pv 1) pa_nil)) (pv 3)))
  (pss_cons (ps_setLc (i := 5) (own := [("_law_lap", 6)]) rfl sc__law_ct_net.nd rfl rfl (sw_true rfl rfl rfl (by decide +kernel)) (pi_range1 (by rfl) T.n_range (pa_cons (pe_op op_add pe_int (pcl (ok__law_draw T) hr (by decide) pass0 (by rfl) (pa_cons (pv 0) (pa_cons pe_int pa_nil)))) pa_nil)) (blkOk_by (own := [("_law_lap", 6)]) (N := N__law_ct_net) (sc := defScope s__law_ct_net) (by decide +kernel)) (fun _ _ _ _ _ => (pg_name (i := 6) sc__law_ct_net.nd rfl (Or.inl rfl))) (fun _ _ _ _ _ => pts_nil) (fun _ _ _ _ _ => (pcl (ok__law_ct_part T) hr (by decide) pass0 (by rfl) (pa_cons (pv 0) (pa_cons (pv 4) (pa_cons (pv 2) pa_nil))))))
  (pss_one (ps_ret (pe_tup (pa_cons (pv 1) (pa_cons (pe_callTy (call_tupK K rfl) (by rfl) T.n_tuple bt_tuple (pa_cons (pv 5) pa_nil)) pa_nil)))))))), by
  replace h := h.2
 
  obtain ⟨p, gp, gs, cs, r, t, xs, sw, t0, t1, tx, rfl, rfl, rfl⟩ := h
  have hx5 := tx.hi5
  refine bm_seq (sm_asg (R := fun g L' => ∃ inn n, (inn = inA ∨ inn = inB) ∧ g = .d (.list ((inn.take n).map .str)) ∧ StT p gp cs t 10 L') (em_slL (R1 := fun g L' => ∃ inn, (inn = inA ∨ inn = inB) ∧ g = .d (.list (inn.map .str)) ∧ StT p gp cs t 1 L') (lo := none) (em_op (R1 := fun g L' => g = .d (.list ([inA, inB].map fun l => .list (l.map .str))) ∧ L' = stH p gp gs cs r t) (R2' := fun _ g' L' => ∃ v, 0 ≤ v ∧ v < 2 ∧ g' = .d (.int v) ∧ StT p gp cs t 1 L') (em_eg (by walk_at "eg")) ?_ ?_) (fun _ _ _ => og_none) ?_)) ?_
  · rintro _ _ ⟨rfl, rfl⟩
    refine em_call (am_av (av_cons (ev_var rfl) (av_cons (ev_d eg_int) av_nil))) ?_
    rintro _ _ ⟨rfl, rfl⟩
    refine ⟨_, [], _, by rw [List.append_nil], ⟨rfl, p, gp, gs, cs, r, t, 2, t0, by omega, by decide, by decide, rfl, rfl, rfl⟩, ?_⟩
    rintro _ _ ⟨v, gs', r', t', a, b, c, d, rfl, rfl⟩
    exact ⟨v, a, b, rfl, gs', r', t', c, d, by rw [List.append_nil]⟩
  · rintro _ _ _ _ ⟨rfl, rfl⟩ ⟨v, a, b, rfl, h⟩
    rcases (show v = 0 ∨ v = 1 by omega) with rfl | rfl
    · exact ⟨_, _, .list (inA.map .str), rfl, rfl, rg_ixL rfl, inA, .inl rfl, rfl, h⟩
    · exact ⟨_, _, .list (inB.map .str), rfl, rfl, rg_ixL rfl, inB, .inr rfl, rfl, h⟩
  · rintro _ _ ⟨inn, hi, rfl, gs1, r1, t1', a, b, rfl⟩
    refine om_some (R := fun g L' => ∃ n : Nat, g = .d (.int (n : Nat)) ∧ StT p gp cs t 10 L') (em_call (am_av (av_cons (ev_var rfl) (av_cons (ev_d (d := .list (([2, 1, 3, 0] : List Nat).map fun n => .int (n : Nat))) (by walk_at "eg")) av_nil))) ?_) ?_
    · rintro _ _ ⟨rfl, rfl⟩
      refine ⟨_, [], _, by rw [List.append_nil], ⟨rfl, p, gp, gs1, cs, r1, t1', _, by omega, by omega, by decide, by decide, rfl, rfl, rfl⟩, ?_⟩
      rintro _ _ ⟨d, gs', r', t', hd, c, e, rfl, rfl⟩
      obtain ⟨n, _, rfl⟩ := List.mem_map.mp hd
      exact ⟨n, rfl, gs', r', t', by omega, by omega, by rw [List.append_nil]⟩
    · rintro _ _ ⟨n, rfl, h⟩
      exact ⟨n, rfl, _, rfl, inn, n, hi, by rw [cutD_take, List.map_take], h⟩
  rintro _ _ ⟨_, rfl, inn, n, hi, rfl, gs1, r1, t1', a1, b1, rfl⟩
  obtain ⟨zn, z8, z2, znm⟩ := inner_ok (n := n) tx hi
  refine bm_seq (sm_asg (R := fun g L' => g = .d (.list ((xs ++ inn.take n).map .str)) ∧ L' = stH p gp gs1 cs r1 t1') (em_op (R1 := fun g L' => g = .d (.list (xs.map .str)) ∧ L' = stH p gp gs1 cs r1 t1') (R2' := fun _ g' L' => g' = .d (.list ((inn.take n).map .str)) ∧ L' = stH p gp gs1 cs r1 t1') (em_freeze (em_imp (em_listOf (ds := xs.map .str) (.inr (ag_cons (eg_var rfl) ag_nil))) ?_)) ?_ ?_)) ?_
  · rintro _ _ ⟨q, rfl, rfl⟩
    exact ⟨q, xs.map .str, _, rfl, rfl, rfl, rfl⟩
  · rintro _ _ ⟨rfl, rfl⟩
    refine em_imp (em_eg (eg_var rfl)) ?_
    rintro _ _ ⟨rfl, rfl⟩
    exact ⟨rfl, rfl⟩
  · rintro _ _ _ _ ⟨rfl, rfl⟩ ⟨rfl, h⟩
    refine ⟨_, _, _, rfl, rfl, rg_catL ?_, by rw [List.map_append], h⟩
    rw [List.length_append] at z8
    rw [List.length_map, List.length_map]
    exact Nat.le_trans (show _ ≤ 8 by omega) (by decide)
  rintro _ _ ⟨_, rfl, rfl, rfl⟩
  obtain ⟨zs, hzs⟩ : ∃ zs, zs = xs ++ inn.take n := ⟨_, rfl⟩
  have hxz : ∀ x ∈ xs, x ∈ zs := fun x h => by rw [hzs]; exact List.mem_append_left _ h
  rw [← hzs] at zn z8 z2 znm ⊢
  refine bm_seq (sm_asg (R := fun g L' => ∃ (ps : List Part) (pd : Addr), (∀ q ∈ ps, PartD zs sw q) ∧ ps.length ≤ 9 ∧ g = .r pd ∧ ∃ L1, StT p gp cs t 100000 L1 ∧ L' = (pd, .lst ((ps.map partD).map .d)) :: L1) (em_lcM (R0 := fun zs' L' => ∃ k, k ≤ 9 ∧ zs' = List.range k ∧ StT p gp cs t 20 L') (W := fun zs' i gs L' => ∃ ps : List Part, (∀ q ∈ ps, PartD zs sw q) ∧ ps.length = i ∧ zs'.length ≤ 9 ∧ gs = (ps.map partD).map .d ∧ StT p gp cs t (20 + 2000 * i) L')
    (im_range (am_one (R := fun g L' => ∃ k : Nat, k ≤ 9 ∧ g = .d (.int (k : Nat)) ∧ StT p gp cs t 20 L') (em_op (R1 := fun g L' => g = .d (.int 3) ∧ L' = stH p gp gs1 cs r1 t1') (R2' := fun _ g' L' => ∃ v, 0 ≤ v ∧ v < 7 ∧ g' = .d (.int v) ∧ StT p gp cs t 20 L') (em_eg eg_int) ?_ ?_)) ?_) ?_ (fun j hj => by simpa using hj) ?_ ?_ ?_ ?_)) ?_
  · rintro _ _ ⟨rfl, rfl⟩
    refine em_call (am_av (av_cons (ev_var rfl) (av_cons (ev_d eg_int) av_nil))) ?_
    rintro _ _ ⟨rfl, rfl⟩
    refine ⟨_, [], _, by rw [List.append_nil], ⟨rfl, p, gp, gs1, cs, r1, t1', 7, by omega, by omega, by decide, by decide, rfl, rfl, rfl⟩, ?_⟩
    rintro _ _ ⟨v, gs', r', t', a, b, c, d, rfl, rfl⟩
    exact ⟨v, a, b, rfl, gs', r', t', by omega, by omega, by rw [List.append_nil]⟩
  · rintro _ _ _ _ ⟨rfl, rfl⟩ ⟨v, a, b, rfl, h⟩
    refine ⟨_, _, .int (3 + v), rfl, rfl, rg_addI, (3 + v).toNat, by omega, ?_, h⟩
    rw [Int.toNat_of_nonneg (by omega)]
  · rintro _ _ ⟨_, rfl, k, hk, rfl, h⟩
    exact ⟨k, by omega, rfl, k, hk, rfl, h⟩
  · rintro _ _ ⟨k, hk, rfl, h⟩
    rw [List.length_range]
    omega
  · rintro _ _ ⟨k, hk, rfl, h⟩
    exact ⟨[], fun q hq => (by cases hq), rfl, (by rw [List.length_range]; exact hk), rfl, by simpa using h⟩
  · rintro zs' i z _ _ hz ⟨ps, hps, hl, h9, rfl, gs2, r2, t2, a2, b2, rfl⟩
    have hi9 : i < 9 := Nat.lt_of_lt_of_le (List.getElem?_eq_some_iff.mp hz).1 h9
    refine em_call (am_av (av_cons (ev_var rfl) (av_cons (ev_var rfl) (av_cons (ev_var rfl) av_nil)))) ?_
    rintro _ _ ⟨rfl, rfl⟩
    refine ⟨_, [], _, by rw [List.append_nil], ⟨rfl, p, gp, gs2, cs, r2, t2, zs, sw, by omega, by omega, z2, by omega, zn, znm, rfl, rfl, rfl⟩, ?_⟩
    rintro _ _ ⟨q, hq, rfl, gs', r', t', a, b, rfl⟩
    refine ⟨ps ++ [q], fun q' hq' => ?_, by rw [List.length_append, hl]; rfl, h9, by simp, gs', r', t', by omega, by omega, by rw [List.append_nil]⟩
    rcases List.mem_append.mp hq' with z | z
    · exact hps q' z
    · rw [List.mem_singleton.mp z]
      exact hq
  · rintro zs' i _ _ ⟨ps, _, hl, _, rfl, _⟩
    rw [List.length_map, List.length_map]
    exact hl
  · rintro zs' _ L1 pd ⟨ps, hps, hl, h9, rfl, gs', r', t', a, b, rfl⟩
    exact ⟨ps, pd, hps, by omega, rfl, _, ⟨gs', r', t', a, by omega, rfl⟩, rfl⟩
  rintro _ _ ⟨_, rfl, ps, pd, hps, h9, rfl, L1, hL, rfl⟩
  refine bm_frz (p := pd) (i := 5) (ds := ps.map partD) (Lr := L1) rfl (.refl _) ?_
  refine bm_imp (bm_ret (em_eg (eg_tup (ds := [strsD xs, .tuple (ps.map partD)]) (ag_cons (eg_var rfl) (ag_cons (eg_cb (ag_cons (eg_var rfl) ag_nil) cg_tupL) ag_nil)) (Nat.le_of_ble_eq_true rfl)))) ?_
  rintro _ _ ⟨rfl, rfl⟩
  exact ⟨ps, net_drawn tx z8 hxz hps h9, rfl, hL⟩⟩
def P__law_an_small (_K : PySem.W.Frag) (as : List GV) (L : SH) (Z : GV → SH → Prop) : Prop := ∃ p gp gs cs r t, 0 ≤ t ∧ t ≤ 10000 ∧ L = stH p gp gs cs r t ∧ as = [.r p, .d (.int 2), .d (.int 5)] ∧
  Z = fun g L' => ∃ xs ps, TapsD xs ∧ NetD xs ps ∧ g = .d (netD xs ps) ∧ StT p gp cs t 200000 L'
abbrev s__law_an_small : Stmt := top 86
abbrev N__law_an_small : List Str := ["_law_state", "_law_least", "_law_most"]
theorem sc__law_an_small : FnScope N__law_an_small ["_law_state", "_law_least", "_law_most"] (defScope s__law_an_small) := C8.fnScope_by (by decide +kernel)
theorem ok__law_an_small (T : Tx w K mg base) : Cl P w K mg base CX0 7 "_law_an_small" (spM K fun gs L Z => gs.length = 3 ∧ P__law_an_small K gs L Z) := cl_mut T.d__law_an_small T.g__law_an_small sc__law_an_small (fun _ _ _ h => h.1) (fun _ _ _ _ _ _ us hl => match us, hl with | [_, _, _], _ => rfl) fun cdv A outer s H E gs L Z hr h => ⟨_,
  (pss_one (ps_ret (pcl (ok__law_ct_net T) hr (by decide) pass0 (by rfl) (pa_cons (pv 0) (pa_cons (pcl (ok__law_ct_taps T) hr (by decide) pass0 (by rfl) (pa_cons (pv 0) (pa_cons (pv 1) (pa_cons (pv 2) pa_nil)))) (pa_cons (pcl (ok__law_pick T) hr (by decide) pass0 (by rfl) (pa_cons (pv 0) (pa_cons (pe_lst (pa_cons pe_str (pa_cons pe_str (pa_cons pe_str pa_nil)))) pa_nil))) pa_nil)))))), by
  replace h := h.2
 
  obtain ⟨p, gp, gs, cs, r, t, t0, t1, rfl, rfl, rfl⟩ := h
  refine bm_ret (em_call (Ra := fun as L' => ∃ xs sw, TapsD xs ∧ as = [.r p, .d (strsD xs), .d (.str sw)] ∧ StT p gp cs t 3000 L') (am_imp (am_cons (Ra := fun g r' L' => ∃ xs sw, TapsD xs ∧ g = .r p ∧ r' = [.d (strsD xs), .d (.str sw)] ∧ StT p gp cs t 3000 L') (em_ev (ev_var rfl)) ?_) ?_) ?_)
  · rintro _ _ ⟨rfl, rfl⟩
    refine am_imp (am_two (R1 := fun g L' => ∃ xs, TapsD xs ∧ g = .d (strsD xs) ∧ StT p gp cs t 2000 L') (R2' := fun g g' L' => ∃ xs sw, TapsD xs ∧ g = .d (strsD xs) ∧ g' = .d (.str sw) ∧ StT p gp cs t 3000 L') (em_call (am_av (av_cons (ev_var rfl) (av_cons (ev_var rfl) (av_cons (ev_var rfl) av_nil)))) ?_) ?_) ?_
    · rintro _ _ ⟨rfl, rfl⟩
      refine ⟨_, [], _, by rw [List.append_nil], ⟨rfl, p, gp, gs, cs, r, t, by omega, by omega, rfl, rfl, rfl⟩, ?_⟩
      rintro _ _ ⟨xs, tx, rfl, gs', r', t', a, b, rfl⟩
      exact ⟨xs, tx, rfl, gs', r', t', a, b, by rw [List.append_nil]⟩
    · rintro _ _ ⟨xs, tx, rfl, gs1, r1, t1', a1, b1, rfl⟩
      refine em_call (am_av (av_cons (ev_var rfl) (av_cons (ev_d (d := .list (sortsL.map .str)) (by walk_at "eg")) av_nil))) ?_
      rintro _ _ ⟨rfl, rfl⟩
      refine ⟨_, [], _, by rw [List.append_nil], ⟨rfl, p, gp, gs1, cs, r1, t1', _, by omega, by omega, by decide, by decide, rfl, rfl, rfl⟩, ?_⟩
      rintro _ _ ⟨d, gs', r', t', hd, a, b, rfl, rfl⟩
      obtain ⟨sw, _, rfl⟩ := List.mem_map.mp hd
      exact ⟨xs, sw, tx, rfl, rfl, gs', r', t', by omega, by omega, by rw [List.append_nil]⟩
    · rintro _ _ ⟨_, _, rfl, xs, sw, tx, rfl, rfl, h⟩
      exact ⟨xs, sw, tx, rfl, rfl, h⟩
  · rintro _ _ ⟨_, _, rfl, xs, sw, tx, rfl, rfl, h⟩
    exact ⟨xs, sw, tx, rfl, h⟩
  · rintro _ _ ⟨xs, sw, tx, rfl, gs1, r1, t1', a1, b1, rfl⟩
    refine ⟨_, [], _, by rw [List.append_nil], ⟨rfl, p, gp, gs1, cs, r1, t1', xs, sw, by omega, by omega, tx, rfl, rfl, rfl⟩, ?_⟩
    rintro _ _ ⟨ps, hn, rfl, gs', r', t', a, b, rfl⟩
    exact ⟨xs, ps, tx, hn, rfl, gs', r', t', by omega, by omega, by rw [List.append_nil]⟩⟩
end
end K13
namespace K13
open PySem PySem.Spec PyProof.Rows L2
open Evl (Ex fresh_back ex_l ex_t)
/-- an exception of the class cls, its dict d, at a: caught, never changed again -/
def exT (cls : Value) (d : Option Addr) (a : Addr) : HO := .ext fun h => ∃ (oe : Obj) (vs : Array Value), h.get? a = some oe ∧ Zc cls d oe ∧ oe.data = .fields vs
section
variable {X : Cx} {pins : List (Addr × Obj)} {σ : L2.St} {H : Hp} {s : Shared}
theorem inv_track {a : Addr} {oe : Obj} {vs : Array Value} {cls : Value} {d : Option Addr} (I : Inv X pins σ H s) (ho : s.heap.get? a = some oe) (hz : Zc cls d oe) (hd : oe.data = .fields vs) (na : H a = none) (nL : a ≠ X.env.locals)
    (new : ∀ b o, X.s_0.heap.get? b = some o → b ≠ a) (np : ∀ p ∈ X.pn ++ pins, p.1 ≠ a) : Inv X pins σ (upd H a (exT cls d a)) s := by
  refine ⟨I.ok, I.os, I.bare, ⟨I.base.keep, I.base.slot, fun b o e n hx => ?_, I.base.there, fun b xs e => ?_, fun b o u e => ?_, fun b ps e => ?_⟩, I.loc, I.cell, ?_, fun y c e => ?_, fun p hp => ?_, fun b u e => ?_, I.len⟩
  · rw [upd_ne (new b o e)]
    exact I.base.free b o e n hx
  · have q := I.base.tups b xs e
    rw [upd_ne (ne_of_none q na)]
    exact q
  · have q := I.base.frzs b o u e
    rw [upd_ne (ne_of_none q na)]
    exact q
  · obtain ⟨m, q⟩ := I.base.tbls b ps e
    exact ⟨m, by rw [upd_ne (ne_of_none q na)]; exact q⟩
  · rw [upd_ne (Ne.symm nL)]
    exact I.free
  · obtain ⟨v, o2, ho2, hd2⟩ := I.cell y c e
    have hc : c ≠ a := fun z => by
      rw [z, ho] at ho2
      cases ho2
      rw [hd] at hd2
      cases hd2
    rw [upd_ne hc]
    exact I.freeC y c e
  · obtain ⟨e, n, r⟩ := I.pin p hp
    exact ⟨e, by rw [upd_ne (np p hp)]; exact n, r⟩
  · by_cases hb : b = a
    · subst hb
      rw [upd_same] at e
      cases e
      exact ⟨⟨oe, vs, ho, hz, hd⟩, ⟨oe, ho⟩, fun _ _ ⟨o, v, q, r⟩ k => ⟨o, v, k o q, r⟩⟩
    · rw [upd_ne hb] at e
      refine (I.hok b u e).stay (fun c v _ q => q) (fun c q => ?_) fun c xs q => ?_
      · rw [upd_ne (ne_of_none q na)]
        exact q
      · rw [upd_ne (ne_of_none q na)]
        exact q
end
/-- where a caught exception lies: in no frame, in nothing that stood before -/
theorem exc_apart {B h : Heap} {l : List Env} {a : Addr} {oe : Obj} {vs : Array Value} (F : h.FunFrames B l) (ho : h.get? a = some oe) (hd : oe.data = .fields vs) : a ∉ frs l := by
  intro hm
  obtain ⟨_, o2, h2, h3⟩ := F.mem hm
  rw [ho] at h2
  cases h2
  exact h3 _ hd
theorem exc_fresh {X : Cx} {pins : List (Addr × Obj)} {σ : L2.St} {H : Hp} {t : Shared} {B : Heap} {a : Addr} (J : Inv X pins σ H t) (hex : X.ex = []) (hB : B.get? a = none) (nfr : a ∉ frs X.stack) (nb : ∀ b o, t.heap.get? b = some o → b ∉ frs X.stack → B.get? b = some o) :
    (∀ b o, X.s_0.heap.get? b = some o → b ≠ a) ∧ ∀ p ∈ X.pn ++ pins, p.1 ≠ a := by
  have key : ∀ b o, t.heap.get? b = some o → b ≠ a := by
    rintro b o hb rfl
    have := nb b o hb nfr
    rw [hB] at this
    cases this
  refine ⟨fun b o hb => ?_, fun p hp => key p.1 p.2 (J.pin p hp).1⟩
  obtain ⟨o2, h2⟩ := J.base.there b o hb (by rw [hex]; exact List.not_mem_nil)
  exact key b o2 h2
/-- the ends of a suite, the exception at a kept behind it -/
def keepEnds (D : Ends) (i : Nat) (o : HO) (a : Addr) : Ends where
  nx := fun τ H => D.nx (τ.set i none) (upd H a o)
  rt := fun v H => D.rt v (upd H a o)
  bk := fun τ H => D.bk (τ.set i none) (upd H a o)
  ct := fun τ H => D.ct (τ.set i none) (upd H a o)
/-- the wish of a body whose clause 'except x as n' takes all that comes -/
def wKeep (K : PySem.W.Frag) (len : Nat) (c : Value) (i : Nat) (ts : Addr → Value → Option Addr → TS) (D : Ends) : WX := fun cls d σ H =>
  PySem.W.exmOne K cls c = some true ∧ (σ.length = len → ∀ a, H a = none → ts a cls d (keepEnds D i (exT cls d a) a) (σ.set i (some (.ref a))) H)
section
variable {X : Cx} {x n : Str} {c : Value} {i : Nat} {body suite : List Stmt} {b₀ : Stmt} {np pos pos' : Pos} {tb : WX → TS} {ts : Addr → Value → Option Addr → TS}
/-- the suite, run where the exception stands in the air no more -/
theorem keep_suite {pins : List (Addr × Obj)} {σ : L2.St} {H : Hp} {D : Ends} {t : Shared} {a : Addr} {oe : Obj} {vs : Array Value} {cls : Value} {d : Option Addr} (ok : X.Ok) (S : Inv (X.suite a ((a, oe) :: (X.pn ++ pins))) [] σ H t) (hz : Zc cls d oe) (hd : oe.data = .fields vs) (nL : a ≠ X.env.locals)
    (far : (∀ b o, X.s_0.heap.get? b = some o → b ≠ a) ∧ ∀ p ∈ X.pn ++ pins, p.1 ≠ a) (hN : X.N.Nodup) (hi : X.N[i]? = some n) (hln : X.env.kindOf n = some .local) (hsu : PSs (X.suite a ((a, oe) :: (X.pn ++ pins))) (b₀ :: suite) (ts a cls d)) (na : H a = none)
    (h : ts a cls d (keepEnds D i (exT cls d a) a) (σ.set i (some (.ref a))) H) {Q : Flow → Shared → Prop} {E E2 : Value → Shared → Prop}
    (fin : ∀ f t2, wpAny (model X.prog X.w) X.A (do bindName X.env n .none; unbindBehindTheSuite X.env n pos') (fun _ t3 => SP X pins D f t3) X.xe t2 → Q f t2) :
    wpAny (model X.prog X.w) (X.A.mark (some (.ref a))) (storeName X.env n (.ref a)) (fun _ t2 => wpAny (model X.prog X.w) (X.A.mark (some (.ref a))) (execs (b₀ :: suite) X.env) Q E2 t2) E t := by
  refine store_ok (X := X.suite a ((a, oe) :: (X.pn ++ pins))) (v := .ref a) S hN hi (.inl hln) rfl (fun t2 S2 => ?_) (.inr hln)
  refine wpAny_mono (hsu.run [] t2 _ H _ S2 h) (fun f t3 sp => fin f t3 ?_) fun _ _ z => z.elim
  have close : ∀ {τ : L2.St} {G : Hp}, Inv (X.suite a ((a, oe) :: (X.pn ++ pins))) [] τ G t3 → (∀ t4, Inv X pins (τ.set i none) (upd G a (exT cls d a)) t4 → SP X pins D f t4) →
      wpAny (model X.prog X.w) X.A (do bindName X.env n .none; unbindBehindTheSuite X.env n pos') (fun _ t4 => SP X pins D f t4) X.xe t3 := by
    intro τ G S3 k
    have p3 := S3.pin (a, oe) (List.mem_append_left _ List.mem_cons_self)
    exact gone_ok (inv_track (S3.unsuite ok) p3.1 hz hd p3.2.1 nL far.1 far.2) hN hi hln k
  cases f with
  | ret u =>
    obtain ⟨v, τ, G, S3, rv, q⟩ := sp
    exact close S3 fun t4 I4 => ⟨v, _, _, I4, rv, q⟩
  | next =>
    obtain ⟨τ, G, S3, q⟩ := sp
    exact close S3 fun t4 I4 => ⟨_, _, I4, q⟩
  | brk =>
    obtain ⟨τ, G, S3, q⟩ := sp
    exact close S3 fun t4 I4 => ⟨_, _, I4, q⟩
  | cont =>
    obtain ⟨τ, G, S3, q⟩ := sp
    exact close S3 fun t4 I4 => ⟨_, _, I4, q⟩
/-- the clause's test: a global class -/
theorem keep_test {Y : Cx} {pins : List (Addr × Obj)} {σ : L2.St} {H : Hp} {t : Shared} (I : Inv Y pins σ H t) (hc : L2.Names Y x c) {Q : Value → Shared → Prop} {E : Value → Shared → Prop} (q : Q c t) : wpAny (model Y.prog Y.w) Y.A (eval (.Name x np) Y.env) Q E t := by
  obtain ⟨g1, g2, g3⟩ := hc
  rcases g3 with g3 | ⟨g3, g4, g5⟩
  · exact ld_glob I g1 g3 q g2
  · exact ld_blt I g1 g3 g4 q g5 g2
theorem ps_try_keep (hex : X.ex = []) (hs : X.stack = X.env :: X.outer) (hf : X.env.frame = some X.env.locals) (hN : X.N.Nodup) (hi : X.N[i]? = some n) (hln : X.env.kindOf n = some .local) (hc : L2.Names X x c)
    (hb : ∀ (W : WX) (pn : List (Addr × Obj)) (xe : Value → Shared → Prop), Takes (X.tr pn xe) W → PSs (X.tr pn xe) body (tb W))
    (hsu : ∀ (a : Addr) (oe : Obj) (cls : Value) (d : Option Addr) (pn : List (Addr × Obj)), Zc cls d oe → PSs (X.suite a ((a, oe) :: pn)) (b₀ :: suite) (ts a cls d)) :
    PS X (.Try body [.ExceptHandler (some (.Name x np)) (some n) (b₀ :: suite) pos'] [] [] pos) (fun D σ H => tb (wKeep X.K X.N.length c i ts D) D σ H) := by
  refine ⟨fun pins t0 σ H D I h => wpAny_Try_except ?_⟩
  have ok := I.ok
  let back : Value → Shared → Prop := fun e s₁ => wpAny (model X.prog X.w) X.A (noteFrame e X.env) (fun _ s₂ => wpAny (model X.prog X.w) X.A (setFlight e none) (fun _ s₃ => wpAny (model X.prog X.w) X.A (handleBy e X.env [.ExceptHandler (some (.Name x np)) (some n) (b₀ :: suite) pos']) (SP X pins D) X.xe s₃) X.xe s₂) X.xe s₁
  have run := (hb (wKeep X.K X.N.length c i ts D) (X.pn ++ pins) back ?takes).run [] t0 σ H D (I.toTry _) h
  case takes =>
    intro u t1 air
    obtain ⟨a, B, tI, pins1, τ, G, cls, d, hu, J1, nb, up, sky, na, os, ag, hm, hy⟩ := air
    subst hu
    have J : Inv X pins τ G tI := J1.ofTry ok
    rw [show (X.tr _ _).stack = X.env :: X.outer from hs] at sky
    have hfr : X.A.frames = some (X.env :: X.outer) := by rw [ok.frames, hs]
    refine Sky.land (Q := fun _ t3 => wpAny (model X.prog X.w) X.A (handleBy (.ref a) X.env [.ExceptHandler (some (.Name x np)) (some n) (b₀ :: suite) pos']) (SP X pins D) X.xe t3) Zc.steady hfr hf sky fun h3 fl up3 => ?_
    obtain ⟨o3, v3, g3, z3, d3⟩ := fl.there
    have out := exc_apart fl.2.2.1 g3 d3
    have nL : a ≠ X.env.locals := fun e => out (List.mem_filterMap.mpr ⟨X.env, List.mem_cons_self, by rw [hf, e]⟩)
    have nF : a ∉ X.fs := fun e => out (by
      obtain ⟨v, hv, e2⟩ := List.mem_filterMap.mp e
      exact List.mem_filterMap.mpr ⟨v, List.mem_cons_of_mem _ hv, e2⟩)
    have far := exc_fresh J hex fl.2.1 (by rw [hs]; exact out) nb
    have L3 : Inv X pins τ G { t1 with heap := h3 } := J.landed nb fl.1 (up.trans up3) os ag
    have S3 := L3.suite g3 d3 na nL nF
    have ty : PySem.W.Looks (model X.prog X.w) h3 (typeOf (.ref a)) cls := fun _ _ _ _ keep q => wpAny_typeOf_ref (keep _ _ g3) (by rw [z3.1]; exact q)
    refine wpAny_handleBy_cons (codeAny_handlers_test (keep_test S3 hc ((PySem.W.exm_one (M := model X.prog X.w) S3.kIn ty hm).here ?_))) fun z => by cases z
    refine codeAny_handlers_suite_as (HandSPX.lands_againZ fl fun h4 fl4 up4 => ?_)
    obtain ⟨o4, v4, g4, z4, d4⟩ := fl4.there
    have L4 : Inv X pins τ G { t1 with heap := h4 } := J.landed nb fl4.1 ((up.trans up3).trans up4) os ag
    have S4 := L4.suite g4 d4 na nL nF
    exact keep_suite ok S4 z4 d4 nL far hN hi hln (hsu a o4 cls d _ z4) na (hy J.len a na) fun f t2 w => w
  refine wpAny_mono run (fun f t1 sp => ?_) fun _ _ z => z
  cases f with
  | next =>
    obtain ⟨τ, G, J, q⟩ := sp
    exact wpAny_execs_nil ⟨τ, G, J.ofTry ok, q⟩
  | ret u =>
    obtain ⟨v, τ, G, J, rv, q⟩ := sp
    exact ⟨v, τ, G, J.ofTry ok, rv, q⟩
  | brk =>
    obtain ⟨τ, G, J, q⟩ := sp
    exact ⟨τ, G, J.ofTry ok, q⟩
  | cont =>
    obtain ⟨τ, G, J, q⟩ := sp
    exact ⟨τ, G, J.ofTry ok, q⟩
end
/-- isinstance(e, c), e a kept exception -/
def ExTd (H : Hp) (d : Option Addr) : Prop := d = none ∨ ∃ dd fs, d = some dd ∧ H dd = some (.xd fs)
def rIsT (K : PySem.W.Frag) : List V → Hp → VK → Prop := fun xs H Q => ∃ (a D : Addr) (d : Option Addr) (c : V) (cv : Value) (b : Bool), xs = [.ref a, c] ∧ H a = some (exT (.ref D) d a) ∧ ExTd H d ∧ ExcC K D ∧ (∀ u, RelV c u → u = cv) ∧ PySem.W.kitOne K (.ref D) cv = some b ∧ Q (.bl b) H
theorem exT_at {P : Program} {w : World} {H : Hp} {h : Heap} {a : Addr} {cls : Value} {d : Option Addr} (hok : HOk P w H h) (e : H a = some (exT cls d a)) : ∃ (oe : Obj) (vs : Array Value), h.get? a = some oe ∧ Zc cls d oe ∧ oe.data = .fields vs := (hok a _ e).1
theorem call_isT {X : Cx} (K : PySem.W.Frag) (hK : X.K = K) : CallR X (.builtin "isinstance") (rIsT K) := by
  subst hK
  intro pins s σ H xs us Q I r h
  obtain ⟨a, D, d, c, cv, b, rfl, ha, hd, C, hcv, e, q⟩ := h
  cases r with
  | cons rx rr =>
    cases rr with
    | cons rt rr =>
      cases rr
      cases rx
      have ec := hcv _ rt
      subst ec
      obtain ⟨oe, vs, hget, hz, hv⟩ := exT_at I.hok ha
      obtain ⟨od, J⟩ : ∃ od, PySem.W.InstAt s.heap a oe D od := by
        obtain ⟨oc, od, oda, osl⟩ := oe
        obtain ⟨h1, h2⟩ := hz
        dsimp only at h1 h2 hv
        subst h1 h2 hv
        rcases hd with rfl | ⟨dd, fs, rfl, hdd⟩
        · exact ⟨none, hget, rfl, rfl, trivial⟩
        · obtain ⟨mA, ⟨o, es, ep, ho, _⟩, _⟩ : ObjOk X.prog X.w H s.heap dd (.xd fs) := I.hok dd _ hdd
          exact ⟨some o, hget, rfl, rfl, ho⟩
      have hcl : (PySem.W.clsIn X.K D).isSome = true := by
        obtain ⟨cd, hc, _⟩ := PySem.W.any_some C.hd
        rw [hc]
        rfl
      exact PySem.W.kia_one (PySem.W.kitx_exc (ox := oe) (od := od) hcl C.hg C.hk C.hs C.ha C.hn C.ht C.hm) I.kIn J e (fun z => nomatch z) fun tk => ⟨.bl b, H, I.kept (t' := tk) fun _ _ z => z, rfl, q⟩
/-- e.f, e a kept exception with a dict -/
def tXk (K : PySem.W.Frag) (f : Str) (te : TE) : TE := fun σ H Q => te σ H fun x H1 => ∃ (a C dd : Addr) (fs : List (Str × V)) (v : V), x = .ref a ∧ H1 a = some (exT (.ref C) (some dd) a) ∧ XfC K C ∧ PySem.W.findIn K (.ref C) f = some none ∧ H1 dd = some (.xd fs) ∧ fs.lookup f = some v ∧ Q v H1
theorem pe_xk {X : Cx} {e : Expr} {te : TE} {pos : Pos} {n : Str} (he : PE X e te) (hb : attributeBase e n X.env (eval e X.env) = eval e X.env := by rfl) : PE X (.Attribute e n pos) (tXk X.K n te) := by
  refine ⟨fun pins s σ H Q I h => ?_⟩
  refine attr_of hb (thn (he.run pins s σ H _ I h) fun u s1 hh => ?_)
  obtain ⟨x, H1, I1, rx, a, C, dd, fs, v, ex, ec, T, hno, ea, l, q⟩ := hh
  subst ex
  obtain rfl : u = Value.ref a := rx
  obtain ⟨oe, vs, ha, hz, hd⟩ := exT_at I1.hok ec
  have hx : ObjOk X.prog X.w H1 s1.heap dd (.xd fs) := I1.hok dd _ ea
  obtain ⟨mA, hns, hr⟩ := hx
  obtain ⟨od, ho, hl⟩ := lookIn_ns hns
  obtain ⟨u, hu, ru⟩ := RelO.some_of (v := v) (o := mA n) (by rw [← l]; exact hr n)
  have J : PySem.W.InstAt s1.heap a oe C (some od) := ⟨ha, hz.1, by unfold PySem.W.notCls; rw [hd] <;> rfl, by rw [hz.2]; exact ho⟩
  exact HandSPX.exc_get I1.kIn J T.ga T.gg T.exC (PySem.W.findObj_own T.hdC hno rfl (by rw [hl, hu])) (handed_of ru) ⟨v, H1, I1.tok _, ru, q⟩
end K13
namespace K13
open PySem PySem.Spec PyProof.Rows L2
open Evl (Ex fresh_back ex_l ex_t)
open LamX (GivesTo Tabs TabB CodeO LamS)
abbrev N_caught : List Str := ["_law_action", "_law_found", "error"]
theorem sc_caught : FnScope N_caught ["_law_action"] (defScope (top 64)) := C8.fnScope_by (by decide +kernel)
/-- found = None; try: a(); except C as error: found = error; return found -/
def TTk (K : PySem.W.Frag) (CT : Addr) : (XK → Hp → VK → Prop) → Hp → VK → Prop := fun tl H Q =>
  tl (fun cls d H' => PySem.W.exmOne K cls (.ref CT) = some true ∧ ∀ a, H' a = none → Q (.ref a) (upd H' a (exT cls d a))) H fun _ H' => Q .non H'
theorem caught_gives {X : Cx} {g CT : Addr} {cdg : Value} {q : Str} (hme : X.mg "TapError" = some (.ref CT)) : GivesTo X N_caught "_law_caught" (defScope (top 64)) g cdg (defBody (top 64)) "_law_action" q (TTk X.K CT) := by
  intro f c' s H Q tl act hc h
  refine ⟨_, pss_cons (ps_set (i := 1) sc_caught.nd rfl (Or.inl rfl) pe_non) (pss_cons (ps_try_keep (X := (cxOf C8.CX0 X.prog X.w X.K X.mg X.base N_caught "_law_caught" (defScope (top 64)) g cdg X.A X.stack s H C8.E0).nox) (i := 2) (c := .ref CT)
      (tb := fun W D σ H => ∃ Ech : XK, (∀ cls d σ' H', Ech cls d H' → W cls d σ' H') ∧ σ[0]? = some (some (.ref f)) ∧ H c' = some (CodeO c' q) ∧ tl Ech H (fun _ H' => D.nx σ H'))
      rfl rfl rfl sc_caught.nd rfl rfl ⟨rfl, by decide, .inl hme⟩ (fun W pn xe tk => ?_) (fun a oe cls d pn _ => pss_one (ps_set (i := 1) sc_caught.nd rfl (Or.inl rfl) (pv 2))))
    (pss_one (ps_ret (pv 1)))), ?_⟩
  · refine ⟨fun pins s' σ H' D I h' => ?_⟩
    obtain ⟨Ech, hW, h1, h2, h3⟩ := h'
    exact (pss_one (ps_expr (act W pn xe Ech _ _ tk hW))).run pins s' σ H' D I ⟨h1, h2, h3⟩
  · refine ⟨fun cls d H' => PySem.W.exmOne X.K cls (.ref CT) = some true ∧ ∀ a, H' a = none → Q (.ref a) (upd H' a (exT cls d a)), ?_, rfl, hc, ?_⟩
    · rintro cls d σ' H' ⟨e1, e2⟩
      refine ⟨e1, fun hl a na => ?_⟩
      have hl3 : σ'.length = 3 := hl
      refine ⟨.ref a, ?_, .ref a, ?_, e2 a na⟩
      · rw [List.getElem?_set_self (by omega)]
      · rw [List.getElem?_set_ne (by decide), List.getElem?_set_self (by rw [List.length_set]; omega)]
    · show tl _ H (fun _ H' => ∃ v, (((L2.start N_caught [V.ref f]).set 1 (some V.non)) : L2.St)[1]? = some (some v) ∧ Q v H')
      have e : (fun (_ : V) (H' : Hp) => ∃ v, (((L2.start N_caught [V.ref f]).set 1 (some V.non)) : L2.St)[1]? = some (some v) ∧ Q v H') = fun _ H' => Q .non H' := by
        funext _ H'
        refine propext ⟨fun ⟨v, h1, h2⟩ => ?_, fun h => ⟨.non, rfl, h⟩⟩
        have h1' : some (some V.non) = some (some v) := h1
        cases h1'
        exact h2
      rw [e]
      exact h
end K13
namespace K13
open PySem PySem.Spec PyProof.Rows L2
/-- nothing but numbers, names and rows of them, at most n deep -/
def okD (n : Nat) (d : PyData) : Prop := d.canLay0 = true ∧ d.depth ≤ n ∧ d.plain = true
def okA (n : Nat) (ds : List PyData) : Prop := PyData.canLayAll0 ds = true ∧ PyData.depthAll ds ≤ n ∧ PyData.plainAll ds = true
theorem okA_nil {n : Nat} : okA n [] := ⟨rfl, Nat.zero_le _, rfl⟩
theorem okA_cons {n : Nat} {d : PyData} {ds : List PyData} (h : okD n d) (k : okA n ds) : okA n (d :: ds) := by
  obtain ⟨a, b, c⟩ := h
  obtain ⟨a', b', c'⟩ := k
  refine ⟨?_, ?_, ?_⟩
  · show (d.canLay0 && PyData.canLayAll0 ds) = true
    rw [a, a']; rfl
  · show max d.depth (PyData.depthAll ds) ≤ n
    omega
  · show (d.plain && PyData.plainAll ds) = true
    rw [c, c']; rfl
theorem okA_map {α : Type} {n : Nat} {f : α → PyData} : ∀ {xs : List α}, (∀ x ∈ xs, okD n (f x)) → okA n (xs.map f)
  | [], _ => okA_nil
  | x :: xs, h => okA_cons (h x (by simp)) (okA_map fun y hy => h y (by simp [hy]))
theorem okD_tup {n : Nat} {ds : List PyData} (h : okA n ds) : okD (n + 1) (.tuple ds) := ⟨h.1, Nat.succ_le_succ h.2.1, h.2.2⟩
theorem okD_mono {n m : Nat} {d : PyData} (h : okD n d) (hm : n ≤ m) : okD m d := ⟨h.1, Nat.le_trans h.2.1 hm, h.2.2⟩
theorem okD_int {n : Nat} {i : Int} : okD n (.int i) := ⟨rfl, Nat.zero_le _, rfl⟩
theorem okD_name {n : Nat} {x : Str} (h : nameB x = true) : okD n (.str x) := ⟨name_lay h, Nat.zero_le _, rfl⟩
theorem okD_kind {n : Nat} (p : Part) : okD n (.str p.kind) := by
  cases p with
  | arc ld x y w =>
    cases ld
    · exact ⟨show PyData.strOk ("pipe" : Str) = true by decide +kernel, Nat.zero_le _, rfl⟩
    · exact ⟨show PyData.strOk ("lead" : Str) = true by decide +kernel, Nat.zero_le _, rfl⟩
  | hub zs w => exact ⟨show PyData.strOk ("hub" : Str) = true by decide +kernel, Nat.zero_le _, rfl⟩
theorem okD_num {q : Q2} : okD 1 (numD q) := by
  unfold numD
  split
  · exact okD_int
  · exact okD_tup (okA_cons okD_int (okA_cons okD_int okA_nil))
theorem okD_strs {xs : List Str} (h : ∀ x ∈ xs, nameB x = true) : okD 1 (strsD xs) := okD_tup (okA_map fun x hx => okD_name (h x hx))
theorem okD_part {p : Part} (h : PartOk p) : okD 2 (partD p) := by
  cases p with
  | arc ld x y w => exact okD_tup (okA_cons (okD_kind _) (okA_cons (okD_name h.1) (okA_cons (okD_name h.2.1) (okA_cons okD_num okA_nil))))
  | hub zs w => exact okD_tup (okA_cons (okD_kind (.hub zs w)) (okA_cons (okD_strs h.1.ok) (okA_cons okD_num okA_nil)))
theorem okD_net {xs : List Str} {ps : List Part} (n : NetOk xs ps) : okD 4 (netD xs ps) :=
  okD_tup (okA_cons (okD_mono (okD_strs n.taps.nm.ok) (by decide)) (okA_cons (okD_tup (okA_map fun p hp => okD_part (n.ok p hp))) okA_nil))
theorem net_shaped {xs : List Str} {ps : List Part} (n : NetOk xs ps) : SeqAt.shaped (netD xs ps) = true := by
  obtain ⟨a, b, _⟩ := okD_net n
  unfold SeqAt.shaped
  rw [a, decide_eq_true (Nat.le_trans b (by decide))]
  rfl
theorem net_eqv {xs : List Str} {ps : List Part} (n : NetOk xs ps) : PyData.eqv (netD xs ps) (netD xs ps) = true := SeqAt.eqv_refl_plain _ (okD_net n).2.2
theorem fold_keep {x : List Str} : ∀ (ys : List Str) (f : List (List Str)), x ∈ f → x ∈ ys.foldl (fun f t => f ++ f.map (· ++ [t])) f
  | [], _, h => h
  | y :: ys, f, h => fold_keep ys _ (List.mem_append_left _ h)
theorem first_plain {xs : List Str} {s : Str} (t : Taps xs) : ∃ l, l ∈ plainsF xs s := by
  have lo := t.lo
  have nd := asc_nd t.nm.asc
  match xs, lo with
  | x :: y :: r, _ =>
    refine ⟨[x], ?_⟩
    have h1 : [x] ∈ lotsF (x :: y :: r) := by
      unfold lotsF sortL
      refine List.mem_mergeSort.mpr (List.mem_filter.mpr ⟨?_, ?_⟩)
      · unfold subs
        rw [List.foldl_cons]
        exact fold_keep _ _ (by simp)
      · simp
    have ho : otherF (x :: y :: r) [x] = y :: r := by
      unfold otherF
      rw [List.filter_cons]
      have : (!decide (x ∈ [x])) = false := by simp
      rw [this]
      simp only [Bool.false_eq_true, if_false]
      refine List.filter_eq_self.mpr fun z hz => ?_
      have hne : z ≠ x := fun e => (List.nodup_cons.mp nd).1 (e ▸ hz)
      simp [hne]
    unfold plainsF
    split
    · exact h1
    · refine List.mem_filter.mpr ⟨h1, decide_eq_true ?_⟩
      unfold plainF
      rw [ho]
      by_cases hr : r = []
      · subst hr
        simp
      · have : 0 < r.length := by
          cases r with
          | nil => exact absurd rfl hr
          | cons _ _ => simp
        rw [if_pos (by simp; omega), if_pos (by simp; omega)]
theorem plains_sub {xs l : List Str} {s : Str} (h : l ∈ plainsF xs s) : l ∈ lotsF xs := by
  unfold plainsF at h
  split at h
  · exact h
  · exact (List.mem_filter.mp h).1
theorem lotK_inj {a b : List Str} (h : lotK a = lotK b) : a = b := by
  have key : ∀ {a b : List Str}, (a.map Sum.inr : List Key) = b.map Sum.inr → a = b := by
    intro a
    induction a with
    | nil => intro b h; cases b with
      | nil => rfl
      | cons y ys => cases h
    | cons x xs ih => intro b h; cases b with
      | nil => cases h
      | cons y ys =>
        simp only [List.map_cons, List.cons.injEq, Sum.inr.injEq] at h
        rw [h.1, ih h.2]
  exact key h
theorem walls_fold {ps : List Part} {am : List Str → Int} {lot : List Str} : ∀ (ls : List (List Str)) (acc : List (List Key × GV)),
    valG (ls.foldl (fun acc lot => putGK acc (lotK lot) (.d (numD (red (am lot) (comm (widths ps)))))) acc) (lotK lot) = if lot ∈ ls then some (.d (numD (red (am lot) (comm (widths ps))))) else valG acc (lotK lot)
  | [], _ => by simp
  | l :: ls, acc => by
    rw [List.foldl_cons, walls_fold ls, valG_put]
    by_cases h1 : lot ∈ ls
    · rw [if_pos h1, if_pos (by simp [h1])]
    · rw [if_neg h1]
      by_cases h2 : lot = l
      · subst h2
        rw [if_pos rfl, if_pos (by simp)]
      · rw [if_neg fun e => h2 (lotK_inj e), if_neg (by simp [h1, h2])]
theorem walls_val {ps : List Part} {am : List Str → Int} {lot : List Str} {ls : List (List Str)} (h : lot ∈ ls) : valG (wallsG ps am ls) (lotK lot) = some (.d (numD (red (am lot) (comm (widths ps))))) := by
  unfold wallsG
  rw [walls_fold, if_pos h]
theorem put_key {κ : Type} [DecidableEq κ] {kvs : List (κ × GV)} {k : κ} {v : GV} {kg : κ × GV} (h : kg ∈ putGK kvs k v) : kg.1 = k ∨ ∃ kg' ∈ kvs, kg'.1 = kg.1 := by
  unfold putGK at h
  split at h
  · obtain ⟨kg', h1, h2⟩ := List.mem_map.mp h
    refine .inr ⟨kg', h1, ?_⟩
    rw [← h2]
    split <;> rfl
  · rcases List.mem_append.mp h with h | h
    · exact .inr ⟨kg, h, rfl⟩
    · simp at h
      exact .inl (by rw [h])
theorem walls_keys {ps : List Part} {am : List Str → Int} : ∀ (ls : List (List Str)) (acc : List (List Key × GV)) {kg : List Key × GV},
    kg ∈ ls.foldl (fun acc lot => putGK acc (lotK lot) (.d (numD (red (am lot) (comm (widths ps)))))) acc → (∃ lot ∈ ls, kg.1 = lotK lot) ∨ ∃ kg' ∈ acc, kg'.1 = kg.1
  | [], _, kg, h => .inr ⟨kg, h, rfl⟩
  | l :: ls, acc, kg, h => by
    rw [List.foldl_cons] at h
    rcases walls_keys ls _ h with ⟨lot, h1, h2⟩ | ⟨kg', h1, h2⟩
    · exact .inl ⟨lot, by simp [h1], h2⟩
    · rcases put_key h1 with e | ⟨kg2, h3, h4⟩
      · exact .inl ⟨l, by simp, by rw [← h2, e]⟩
      · exact .inr ⟨kg2, h3, h4.trans h2⟩
theorem walls_key {ps : List Part} {am : List Str → Int} {ls : List (List Str)} {kg : List Key × GV} (h : kg ∈ wallsG ps am ls) : ∃ lot ∈ ls, kg.1 = lotK lot := by
  rcases walls_keys ls [] h with h | ⟨_, h, _⟩
  · exact h
  · cases h
theorem walls_some {ps : List Part} {am : List Str → Int} {ls : List (List Str)} {l : List Str} (h : l ∈ ls) : wallsG ps am ls ≠ [] := fun e => by
  have := walls_val (ps := ps) (am := am) h
  rw [e] at this
  simp [valG] at this
theorem pick_fun {α : Type} {A : α → Prop} {B : α → Int → Prop} (h : ∀ x, A x → ∃ n, B x n) : ∃ f : α → Int, ∀ x, A x → B x (f x) := by
  classical
  refine ⟨fun x => if hx : A x then (h x hx).choose else 0, fun x hx => ?_⟩
  simp only [hx, dif_pos]
  exact (h x hx).choose_spec
theorem same_walls {xs : List Str} {ps qs : List Part} (n : NetOk xs ps) (m : NetOk xs qs) (h : ∀ S, cutN (loadF 12) S qs = cutN (loadF 12) S ps) :
    ∃ (ap aq : List Str → Int), ∀ lot ∈ lotsF xs, NetMin xs ps lot (otherF xs lot) (ap lot) ∧ NetMin xs qs lot (otherF xs lot) (aq lot) ∧ red (ap lot) (comm (widths ps)) = red (aq lot) (comm (widths qs)) ∧
      ∀ am, Least (loadF (comm (widths ps))) xs ps lot am → red am (comm (widths ps)) = red (aq lot) (comm (widths qs)) := by
  have np : ∀ p ∈ ps, Num p.w := fun p hp => (n.ok p hp).num
  have nq : ∀ p ∈ qs, Num p.w := fun p hp => (m.ok p hp).num
  have key : ∀ lot, lot ∈ lotsF xs → ∃ M, Least (loadF 12) xs ps lot M := fun lot _ => least_exists fun p hp => loadQ_nn (np p hp) (by decide)
  obtain ⟨V, hV⟩ := pick_fun key
  obtain ⟨ap, hap⟩ := pick_fun fun lot (hl : lot ∈ lotsF xs) => net_val np (lots_ok n.taps hl).2.2 (hV lot hl)
  obtain ⟨aq, haq⟩ := pick_fun fun lot (hl : lot ∈ lotsF xs) => net_val nq (lots_ok n.taps hl).2.2 (least_same h (hV lot hl))
  refine ⟨ap, aq, fun lot hl => ⟨(hap lot hl).1, (haq lot hl).1, (hap lot hl).2.trans (haq lot hl).2.symm, fun am ha => ?_⟩⟩
  obtain ⟨h1, h2⟩ := least_12 np ha
  rw [h2, least_unique h1 (hV lot hl)]
  exact (haq lot hl).2.symm
end K13
namespace K13
open PySem PySem.Spec PyProof.Rows L2
theorem cut_one {wt : Q2 → Int} {S : Str → Bool} {p : Part} : cutN wt S [p] = cutP wt S p := by
  unfold cutN
  simp
theorem cut_hubs {wt : Q2 → Int} {S : Str → Bool} {ps : List Part} (h : ∀ p ∈ ps, p.kind ≠ "lead") : cutN wt S (ps.map hubF) = cutN wt S ps := by
  rw [List.map_eq_flatMap]
  exact cutN_flat fun p hp => by rw [cut_one]; exact cut_hub (h p hp)
theorem cut_leads {wt : Q2 → Int} {S : Str → Bool} {ps : List Part} (h : ∀ p ∈ ps, isArc p = true) : cutN wt S (ps.flatMap bothF) = cutN wt S ps := cutN_flat fun p hp => cut_both (h p hp)
theorem kind_leads {ps : List Part} (h : kindF ps ≠ "leads") : anyK ps "lead" = false := by
  cases e : anyK ps "lead" with
  | false => rfl
  | true => exact absurd (by simp [kindF, e]) h
theorem len23 {p : Part} (h : PartOk p) (h3 : p.ends.length ≤ 3) : p.ends.length = 2 ∨ p.ends.length = 3 := by
  have := ends_ge h
  omega
theorem cut_inpipes {ps : List Part} {S : Str → Bool} (hk : anyK ps "lead" = false) (hw : ∀ p ∈ ps, W6 p.w) (ho : ∀ p ∈ ps, PartOk p) (h3 : ∀ p ∈ ps, p.ends.length ≤ 3) : cutN (loadF 12) S (ps.flatMap pipesF) = cutN (loadF 12) S ps :=
  cutN_flat fun p hp => cut_pipes (hw p hp) (anyK_of hk p hp) (len23 (ho p hp) (h3 p hp))
theorem num_one : Num (1, 1) := ⟨by decide, by decide, by decide, by decide, by decide⟩
theorem num_three : Num (3, 1) := ⟨by decide, by decide, by decide, by decide, by decide⟩
theorem w_one : W6 (1, 1) := ⟨num_one, by decide⟩
theorem w_three : W6 (3, 1) := ⟨num_three, by decide⟩
def fixP : List Part := [.hub ["a", "b", "c"] (3, 1), .arc false "b" "c" (1, 1)]
def fixQ : List Part := [.arc false "a" "b" (3, 2), .arc false "a" "c" (3, 2), .arc false "b" "c" (3, 2), .arc false "b" "c" (1, 1)]
theorem fix_eq : fixP.flatMap pipesF = fixQ := by rfl
theorem abc_names : Names ["a", "b", "c"] := ⟨by decide +kernel, by decide +kernel, by decide⟩
theorem fix_ok {xs : List Str} (t : Taps xs) (h5 : xs.length ≤ 5) : NetOk xs fixP ∧ (placesF xs fixP).length ≤ 8 := by
  have hp : ∀ p ∈ fixP, PartOk p ∧ ∀ x ∈ p.ends, x ∈ (["a", "b", "c"] : List Str) := by
    intro p hp
    simp [fixP] at hp
    rcases hp with rfl | rfl
    · exact ⟨⟨abc_names, by decide, num_three⟩, fun x h => h⟩
    · refine ⟨⟨by decide +kernel, by decide +kernel, num_one, ?_⟩, fun x h => ?_⟩
      · rw [if_neg (by decide)]
        decide +kernel
      · have h : x ∈ (["b", "c"] : List Str) := h
        simp at h ⊢
        exact .inr h
  have few : (placesF xs fixP).length ≤ 8 := Nat.le_trans (sub_len (ys := xs ++ (["a", "b", "c"] : List Str)) (places_ok xs fixP).nd fun x h => by
    rcases places_mem.mp h with h | ⟨p, hpp, h⟩
    · exact List.mem_append_left _ h
    · exact List.mem_append_right _ ((hp p hpp).2 x h)) (by rw [List.length_append]; show xs.length + 3 ≤ 8; omega)
  exact ⟨⟨t, by decide, fun p h => (hp p h).1, by decide +kernel, by omega⟩, few⟩
theorem fix_turn {xs : List Str} (t : Taps xs) (h5 : xs.length ≤ 5) : NetOk xs fixQ ∧ (∀ S, cutN (loadF 12) S fixQ = cutN (loadF 12) S fixP) ∧ kindF fixP ≠ "leads" ∧ (∀ p ∈ fixP, p.ends.length ≤ 3) := by
  obtain ⟨n, _⟩ := fix_ok t h5
  have hk : anyK fixP "lead" = false := by decide +kernel
  have hw : ∀ p ∈ fixP, W6 p.w := by
    intro p hp
    simp [fixP] at hp
    rcases hp with rfl | rfl
    · exact w_three
    · exact w_one
  have h3 : ∀ p ∈ fixP, p.ends.length ≤ 3 := by decide +kernel
  rw [← fix_eq]
  exact ⟨net_pipes n hk hw h3 (by rw [fix_eq]; decide), fun S => cut_inpipes hk hw n.ok h3, by decide +kernel, h3⟩
theorem flat_rep {α β : Type} {f : α → List β} {x : α} {n : Nat} : ((List.replicate n x).flatMap f).length = n * (f x).length := by
  induction n with
  | zero => simp
  | succ n ih => rw [List.replicate_succ, List.flatMap_cons, List.length_append, ih, Nat.succ_mul, Nat.add_comm]
theorem taps2 {x y : Str} (hx : nameB x = true) (hy : nameB y = true) (h : SLt x y) : Taps [x, y] := ⟨names_pair hx hy h, Nat.le_refl 2, show 2 ≤ 6 by decide⟩
theorem rep_net {x y : Str} {p : Part} {zs : List Str} {n : Nat} (t : Taps [x, y]) (hp : PartOk p) (hz : ∀ z ∈ p.ends, z ∈ zs) (h10 : zs.length ≤ 10) (hn : n ≤ 200) (hk : p.kind ≠ "lead") : NetOk [x, y] (List.replicate n p) := by
  have few : (placesF [x, y] (List.replicate n p)).length ≤ 12 := Nat.le_trans (sub_len (ys := [x, y] ++ zs) (places_ok _ _).nd fun z h => by
    rcases places_mem.mp h with h | ⟨q, hq, h⟩
    · exact List.mem_append_left _ h
    · rw [(List.mem_replicate.mp hq).2] at h
      exact List.mem_append_right _ (hz z h)) (by rw [List.length_append]; show 2 + zs.length ≤ 12; omega)
  refine ⟨t, by rw [List.length_replicate]; exact hn, fun q hq => ?_, fun h => ?_, by omega⟩
  · rw [(List.mem_replicate.mp hq).2]
    exact hp
  · have : anyK (List.replicate n p) "lead" = false := anyK_false fun q hq => by rw [(List.mem_replicate.mp hq).2]; exact hk
    rw [this] at h
    exact absurd h.1 (by decide)
theorem rep_leads {p : Part} {n : Nat} (hk : p.kind ≠ "lead") : kindF (List.replicate n p) ≠ "leads" := by
  have : anyK (List.replicate n p) "lead" = false := anyK_false fun q hq => by rw [(List.mem_replicate.mp hq).2]; exact hk
  unfold kindF
  rw [this]
  simp only [Bool.false_eq_true, if_false]
  split <;> decide
theorem rep_hubs {p : Part} {n : Nat} (hk : p.kind ≠ "hub") : kindF (List.replicate n p) ≠ "hubs" := by
  have : anyK (List.replicate n p) "hub" = false := anyK_false fun q hq => by rw [(List.mem_replicate.mp hq).2]; exact hk
  unfold kindF
  rw [this]
  simp only [Bool.false_eq_true, if_false]
  split <;> decide
theorem q_out {xs : List Str} (t : TapsD xs) : ("q" : Str) ∉ xs := fun h => by
  have := in_ok.2.1 "q" (by decide)
  rcases t.pool with p | p
  · exact this.2.1 (p _ h)
  · exact this.2.2 (p _ h)
theorem three_ok {x y : Str} (hx : nameB x = true) (hy : nameB y = true) (h : SLt x y) (hq : ("q" : Str) ∉ [x, y]) : Names (sortS [x, y, "q"]) ∧ (sortS [x, y, "q"]).length = 3 := by
  have nd : [x, y, ("q" : Str)].Nodup := by
    have h1 : x ≠ y := fun e => by
      rw [e] at h
      exact List.lt_irrefl _ h
    simp at hq
    simp [h1, Ne.symm hq.1, Ne.symm hq.2]
  refine ⟨⟨fun z hz => ?_, sort_asc nd, by rw [sort_len]; show 3 ≤ 1000; decide⟩, by rw [sort_len]; rfl⟩
  have hz := sort_mem.mp hz
  simp at hz
  rcases hz with rfl | rfl | rfl
  · exact hx
  · exact hy
  · decide +kernel
theorem pipes_three {p : Part} (h : p.ends.length = 3) : (pipesF p).length = 3 := by
  unfold pipesF
  match p.ends, h with
  | [a, b, c], _ => rfl
end K13
namespace K13
open PySem PySem.Spec PyProof.Rows L2
open Evl (Ex fresh_back ex_l ex_t)
/-- the class, the dict, what is known of it -/
abbrev RXt := Value → Option Addr → Hp → Prop
def EX (K : PySem.W.Frag) (L : SH) (G : Gm) (E : XK) (te : TE) (Z : RXt) : Prop := ∀ σ N H, En K L G σ N H → Ex N H → ∀ Q : VK, (∀ cls d N' H', Nw N H N' H' → Z cls d N' → E cls d H') → te σ H Q
def BX (K : PySem.W.Frag) (L : SH) (G : Gm) (E : XK) (ts : TS) (Z : RXt) : Prop := ∀ σ N H (D : Ends), En K L G σ N H → Ex N H → (∀ cls d N' H', Nw N H N' H' → Z cls d N' → E cls d H') → ts D σ H
/-- the promise: these data, this exception -/
def spX (K : PySem.W.Frag) (P : List PyData → RXt → Prop) : Sp := fun vs H _ E => ∃ ds N Z, Ex N H ∧ DpAll K N vs ds ∧ P ds Z ∧ ∀ cls d N' H', Nw N H N' H' → Z cls d N' → E cls d H'
/-- an exception without fields; one with one field that holds a number -/
def zBare (C : Addr) : RXt := fun cls d _ => cls = .ref C ∧ d = none
def zNum (C : Addr) (f : Str) (n : Int) : RXt := fun cls d N => cls = .ref C ∧ ∃ dd, d = some dd ∧ N dd = some (.xd [(f, .int n)])
section
variable {K : PySem.W.Frag} {L : SH} {G : Gm} {E : XK} {te : TE} {tr : TA} {tt : TT} {tu tz : TS} {Z : RXt} {b : Bool} {d : PyData} {ds : List PyData}
theorem bx_take (h : TG K L G tt b) (hb : b = true) (k : BX K L G E tu Z) : BX K L G E (tSeq (tIfS tt tu tNext) tz) Z := fun σ N H D n ex q => h σ N H n ex _ fun N1 H1 w1 => by
  subst hb
  exact k σ N1 H1 _ (n.step w1) w1.b fun cls d N2 H2 w2 => q cls d N2 H2 (w1.trans w2)
theorem bx_skip (h : TG K L G tt b) (hb : b = false) (k : BX K L G E tz Z) : BX K L G E (tSeq (tIfS tt tu tNext) tz) Z := fun σ N H D n ex q => h σ N H n ex _ fun N1 H1 w1 => by
  subst hb
  exact k σ N1 H1 _ (n.step w1) w1.b fun cls d N2 H2 w2 => q cls d N2 H2 (w1.trans w2)
theorem bx_ite (h : TG K L G tt b) (k1 : b = true → BX K L G E tu Z) (k0 : b = false → BX K L G E tz Z) : BX K L G E (tSeq (tIfS tt tu tNext) tz) Z := by
  cases b with
  | true => exact bx_take h rfl (k1 rfl)
  | false => exact bx_skip h rfl (k0 rfl)
theorem bx_asg {m : Nat} (h : EG K L G te d) (k : BX K L (G.set m (some (.d d))) E tz Z) : BX K L G E (tSeq (tAsg te (gName m)) tz) Z := fun σ N H D n ex q =>
  h σ N H n ex _ fun v N1 H1 w1 k1 => k (σ.set m (some v)) N1 H1 D ((n.step w1).set k1) w1.b fun cls d N2 H2 w2 => q cls d N2 H2 (w1.trans w2)
theorem bx_ret (h : EX K L G E te Z) : BX K L G E (tRet te) Z := fun σ N H D n ex q => h σ N H n ex _ q
theorem ex_call {P : List PyData → RXt → Prop} (h : AG K L G tr ds) (hP : P ds Z) : EX K L G E (tCall (spX K P) [] E tr) Z := fun σ N H n ex Q q =>
  h σ N H n ex _ fun vs N1 H1 w1 k1 => ⟨ds, N1, Z, w1.b, by rw [List.append_nil]; exact k1, hP, fun cls d N2 H2 w2 => q cls d N2 H2 (w1.trans w2)⟩
/-- raise C('..') -/
theorem bx_bare {C : Addr} : BX K L G E (fun _ σ H => (fun (_ : L2.St) (H : Hp) (Q : XK) => Q (.ref C) none H) σ H fun cls d H' => E cls d H') (zBare C) := fun σ N H D n ex q => q _ _ N H (.refl ex) ⟨rfl, rfl⟩
/-- what the __init__ of an exception with one field keeps -/
def spI (C : Addr) (f : Str) (n : Int) : Sp := fun vs H Q _ => ∃ a : Addr, vs = [.ref a, .int n] ∧ H a = some (exo a C none) ∧
  ∀ dx, H dx = none → dx ≠ a → Q .non (upd (upd H dx (exd dx [(f, .int n)])) a (exo a C (some dx)))
theorem del_upd {H : Hp} {a dx : Addr} {u o o' : HO} (h : H a = none) (ne : dx ≠ a) : upd (del (upd (upd (upd H a u) dx o) a o') a) dx (.xd [(f, y)]) = upd H dx (.xd [(f, y)]) := by
  funext b
  by_cases hb : b = dx
  · subst hb
    rw [upd_same, upd_same]
  · rw [upd_ne hb, upd_ne hb]
    by_cases ha : b = a
    · subst ha
      rw [del_same, h]
    · rw [del_ne ha, upd_ne ha, upd_ne hb, upd_ne ha]
/-- raise C(n) -/
theorem bx_num {C : Addr} {f : Str} {i : Int} (h : AG K L G tr [.int i]) : BX K L G E (fun _ σ H => tMkO C (spI C f i) [] tr σ H fun cls d H' => E cls d H') (zNum C f i) := fun σ N H D n ex q =>
  h σ N H n ex _ fun vs N1 H1 w1 k1 => by
    cases k1 with
    | cons a b =>
    cases b
    obtain rfl := dp_int a
    refine ⟨Nat.le_of_ble_eq_true rfl, fun a ha => ⟨a, rfl, upd_same, fun dx hdx ne => ⟨rfl, dx, [(f, .int i)], upd_same, ?_, ?_, ?_⟩⟩⟩
    · rw [upd_ne ne, upd_same]
    · rw [upd_ne ne] at hdx
      exact hdx
    · rw [upd_ne ne] at hdx
      rw [del_upd ha ne]
      exact q _ _ (upd N1 dx (.xd [(f, .int i)])) _ (w1.trans (.new w1.b hdx)) ⟨rfl, dx, rfl, upd_same⟩
end
section
variable {P : Program} {w : World} {K : PySem.W.Frag} {mg : Str → Option Value} {base : Heap} {x qual : Str} {st : Stmt} {N ps : List Str} {k : Nat} {f : Addr}
/-- a def from data to an exception -/
theorem cl_rse {R : List PyData → RXt → Prop} (d : ∃ fd, FunD K x x (defArgs st) (defBody st) (defScope st) [] [] (He.ga K x) fd) (hm : mg x = some (.ref (He.ga K x))) (S : FnScope N ps (defScope st)) (len : ∀ ds d, R ds d → ds.length = ps.length)
    (hb : ∀ (kV doc pm : Value) (an : Option Addr) (cdv ct : Value) (us : List Value), us.length = ps.length → bindArgs (PySem.W.fnOf x x (defArgs st) (defBody st) (defScope st) .none kV doc pm an cdv ct) ⟨us, []⟩ = pure (ps.zip us))
    (hbody : ∀ (cdv : Value) (A : Around) (outer : List Env) (s : Shared) (H : Hp) (E : XK) (ds : List PyData) (Z : RXt), Room k (A.deeper (envOfC x (defScope st) s.heap.objs.size (He.ga K x) cdv)) → R ds Z →
      ∃ t, PSs (cxOf (L2.CX P w) P w K mg base N x (defScope st) (He.ga K x) cdv A outer s H E) (defBody st) t ∧ BX K [] (ds.map (fun d => some (GV.d d)) ++ List.replicate (N.length - ds.length) none) E t Z) : Cl P w K mg base (L2.CX P w) (k + 1) x (spX K R) := by
  obtain ⟨fd, F⟩ := d
  refine ⟨fd, ps, F.ok S (fun vs H Q E h => ?_) (fun cdv A outer s H vs Q E hr h => ?_), hm, F.kp, F.bindsN hb⟩
  · obtain ⟨ds, N1, Z, _, h1, h2, _⟩ := h
    rw [dps_len h1]
    exact len _ _ h2
  · obtain ⟨ds, N1, Z, ex, h1, h2, q⟩ := h
    obtain ⟨t, p1, p2⟩ := hbody cdv A outer s H E ds Z hr h2
    have hl : ds.length ≤ N.length := by
      rw [len _ _ h2]
      have := congrArg List.length S.pre
      rw [List.length_take] at this
      omega
    exact ⟨t, p1, p2 (L2.start N vs) N1 H _ ⟨En0.start h1 hl, .nil⟩ ex q⟩
/-- in a def that may raise: what is let out goes to the caller -/
theorem takesX {P : Program} {w : World} {K : PySem.W.Frag} {mg : Str → Option Value} {base : Heap} {N : List Str} {qual : Str} {scope : Scope} {f : Addr} {cd : Value} {A : Around} {outer : List Env} {s : Shared} {H : Hp} {E : XK} :
    Takes (cxOf (L2.CX P w) P w K mg base N qual scope f cd A outer s H E) (fun cls d _ H => E cls d H) := takes_of rfl rfl rfl rfl
end
end K13
namespace K13
open PySem PySem.Spec PyProof.Rows L2
open Evl (Ex fresh_back ex_l ex_t)
open NdefX (NF NScope nscope_by CellsAt startF envF ncx inv_startN)
/-- what the written part tells of that def: F at fI, its class C in its one cell -/
structure InitX (P : Program) (K : PySem.W.Frag) (C fI : Addr) (F : NF) : Prop where
  lk : ∃ oc od kV doc pm an ct osl, K.lookup fI = some ⟨oc, od, .func (PySem.W.fnX F.name F.qual F.params F.body F.scope F.cl .none kV doc pm an (.ref F.c) ct), osl⟩
  cd : PySem.W.codeIn K (.ref F.c) F.qual = true
  fi : ∃ ccl cdd vs ccs file tf, K.lookup F.c = some ⟨ccl, cdd, .fields vs, ccs⟩ ∧ vs[2]? = some (.str file tf) ∧ ((P.main.file : Str) == file) = true
  cell : ∃ cc cl cld csl, F.cl = [(("__class__" : Str), cc)] ∧ K.lookup cc = some ⟨cl, cld, .cell (some (.ref C)), csl⟩
  sup : PySem.W.ks_superIn K C C "__init__" = some (some (.builtin "ValueError.__init__"))
  op : PySem.W.nsIn K cStatics "thirdparty.any" = some none
  ve : PySem.W.subIn K (.ref C) (.type "ValueError") = some true
  mro : PySem.W.mroIn K C (.ref C) = some true
section
variable {X : Cx} {pins : List (Addr × Obj)} {σ : L2.St} {H : Hp} {s : Shared} {a C : Addr} {u : Addr}
/-- ValueError.__init__ bound to the new exception, called -/
theorem call_mw {us : List Value} {Q : Value → Shared → Prop} {E : Value → Shared → Prop} {A : Around} (T : OexC X.K C) (I : Inv X ((u, PySem.W.kxs_mw "ValueError.__init__" a) :: pins) σ H s) (e : H a = some (exo a C none)) (hl : us.length ≤ sizeLine) (h : ∀ s', Inv X pins σ H s' → Q .none s') :
    wpAny (model X.prog X.w) A (call (.ref u) us) Q E s := by
  obtain ⟨nm, q, N, bs, bm, sn, sub, ab, col, dd, k0, k1, k2, k3, k5, hC, hbm⟩ := T.cls
  obtain ⟨t1, ho⟩ := exo_at I.hok e
  have hu : s.heap.get? u = some (PySem.W.kxs_mw "ValueError.__init__" a) := ClX.pin_at I
  have IC := I.kIn _ _ hC
  have I0 := ClX.unpin I
  obtain ⟨hp, g, d, t, os⟩ := s
  refine wpAny_call (codeAny_of_tree ?_)
  show wpAny _ A.in1 (callAny (.ref u) ⟨us, []⟩) _ _ _
  simp only [callAny]
  refine wpAny_bind (wpAny_load hu ?_)
  simp only [PySem.W.kxs_mw, show (Value.type "method-wrapper" == Value.type "method" || Value.type "method-wrapper" == Value.type "builtin_function_or_method" || Value.type "method-wrapper" == Value.type "method-wrapper") = true by decide, if_true]
  refine PySem.W.KFB.if_so (by decide) ?_
  refine wpAny_bind (PySem.W.check_bound_init F.excBase_ValueError.toExcCallFacts IC ho rfl ?_)
  refine wpAny_bind (wpAny_pure (wpAny_pure ?_))
  refine ⟨plainId_quiet F.excBase_ValueError.init.plain _, codeAny_builtin F.excBase_ValueError.initEntry ?_⟩
  refine PySem.W.exc_init_tree (cls := .ref C) (t0 := t1) (dv := none) (c2 := .none) (c3 := .none) (b4 := .bool false) ho hl fun h' k hx _ => ?_
  have J := I0.write (t' := t) (x := a) (e := a) (o := exo a C none) (by rw [e]; exact True.intro) (.inl rfl) k ⟨_, hx⟩ (exo_ok hx)
  have eu : upd H a (exo a C none) = H := by
    funext b
    by_cases hb : b = a
    · rw [hb, upd_same, e]
    · exact upd_ne hb
  rw [eu] at J
  exact h _ J
/-- super(), __init__ asked of it: a new object, bound to the new exception -/
theorem super_mw {P : Program} {fI : Addr} {F : NF} {ar : Arg}  {body : List Stmt} {p0 p1 : Pos} {whole : Sem Value} {pl : Sem Bool} {Q : Value × List Value → Shared → Prop} {E : Value → Shared → Prop} {W : Value → Shared → Prop} (T : OexC X.K C) (B : InitX P X.K C fI F) (hP : X.prog = P) (top0 : (P.main.scope.names.lookup ("super" : Str)).isSome = false) (I : Inv X pins σ H s) (e : H a = some (exo a C none))
    (hk : X.env.scope.kind = .function) (hfu : X.env.func = some fI) (hco : X.env.code = .ref F.c) (hcl : X.env.cells = F.cl) (hsc : X.env.scope = F.scope)
    (hks : X.env.kindOf "super" = some .globalImplicit) (hkc : X.env.kindOf "__class__" = some .free) (hka : X.env.kindOf ar.arg = some .local) (hns : X.mg "super" = none)
    (hp : (F.params.posonlyargs ++ F.params.args).head? = some ar) (hN : X.N[0]? = some ar.arg) (hs : σ[0]? = some (some (.ref a)))
    (k : ∀ v s1, (∀ u s2, Inv X ((u, PySem.W.kxs_mw "ValueError.__init__" a) :: pins) σ H s2 → Q (.ref u, []) s2) → wpAny (model X.prog X.w) X.A (getMethod v "__init__" pl) Q E s1 → W v s1)
    (q : ∀ u s2, Inv X ((u, PySem.W.kxs_mw "ValueError.__init__" a) :: pins) σ H s2 → Q (.ref u, []) s2) :
    _root_.PySem.wpAt (model X.prog X.w) X.A (.func body X.env) (attributeBase (.Call (.Name "super" p0) [] [] p1) "__init__" X.env whole) W E s := by
  subst hP
  obtain ⟨nm, qn, N, bs, bm, sn, sub, ab, col, dd, k0, k1, k2, k3, k5, hC, hbm⟩ := T.cls
  have hcd : PySem.W.clsIn X.K C = some { name := nm, bases := bs, mro := .ref C :: bm, ns := N, qualname := qn, hasDict := true, slotNames := sn, subclasses := sub, abstract := ab, collection := col, hasDel := false } := by unfold PySem.W.clsIn; rw [hC] <;> rfl
  obtain ⟨oc, od, kV, doc, pm, an, ct, osl, lk⟩ := B.lk
  obtain ⟨ccl, cdd, vs, ccs, file, tf, lc, hv2, hfile⟩ := B.fi
  obtain ⟨cc, cl0, cld, csl, ecl, lcc⟩ := B.cell
  obtain ⟨t1, ho⟩ := exo_at I.hok e
  obtain ⟨mb, hb1, hb2⟩ := I.mod.blt
  obtain ⟨m, hn, hl⟩ := I.loc
  have IK := I.kIn
  refine ks_wpAt_super_base hks hkc (show (("__init__" : Str) == ("__class__" : Str)) = false by decide) hfu (IK _ _ lk) rfl hp hco (IK _ _ lc) rfl hv2 hfile top0 ?_
  refine PySem.W.ks_loadName_global hk hks (Calls.loadGlobal_builtin (by rw [I.ok.glob]; exact I.mod.glob.keeps I.bk) hns (by rw [I.ok.blt]; exact hb1.keeps I.bk) ((hb2 _ (by decide)).trans (by decide +kernel : bootBuiltins ("super" : Str) = some (.type "super"))) ⟨rfl, ?_⟩)
  refine wpAny_loadName_free hk hkc (c := cc) (by rw [hcl, ecl]; rfl) ⟨_, IK _ _ lcc, rfl⟩ ?_
  obtain ⟨us, rs, l⟩ := hl 0 ar.arg _ hN hs (.inl hka)
  obtain rfl : us = Value.ref a := rs
  have hm : m ar.arg = some (.ref a) := by
    rcases l with ⟨_, z⟩ | ⟨z, _⟩
    · exact z
    · rcases z with z | z <;> rw [hka] at z <;> cases z
  refine wpAny_loadName_local hk hka hn hm ?_
  refine ks_wpAny_isType_cls (IK _ _ hC) rfl ⟨rfl, ?_⟩
  obtain ⟨hp0, g, d, t, os⟩ := s
  refine ks_wpAny_call_super (IK _ _ hC) rfl ho rfl (fun c z => by cases z) (PySem.W.looks_mroIn IK B.mro) (fun h' eso kk => ?_)
  have I1 := ClX.pin_new (t' := t) I kk (Nat.le_refl _) eso (fun v z => by cases z)
  refine k _ _ q ?_
  have IK1 := I1.kIn
  have hne : a ≠ C := fun z => by
    have z1 := IK _ _ hC
    rw [← z] at z1
    rw [show hp0.get? a = _ from ho] at z1
    cases z1
  have inst : PySem.W.InstAt h' a _ C none := ⟨kk _ _ ho, rfl, rfl, trivial⟩
  refine PySem.W.kxs_getMethod PySem.W.kxs_ValueError (K := X.K) (l₀ := .ref C :: bm) (ClX.pin_at I1) (PySem.W.looks_opaque IK1 B.op) ((PySem.W.looks_clsIn IK1 hcd).andThen .now) rfl IK1 ?_ (inst.type.andThen (PySem.W.looks_subIn IK1 B.ve)) hne (by decide) ?_
  · have := B.sup
    unfold PySem.W.ks_superIn at this
    rw [hcd] at this
    exact this
  · have I2 := ClX.pin_new (t' := t + 1) I1 (fun b u z => Heap.get?_push_of_some _ z) (Nat.le_refl _) (o := PySem.W.kxs_mw "ValueError.__init__" a) (Heap.get?_push_at rfl rfl) (fun v z => by cases z)
    refine q _ _ (I2.pins_of fun p hp => I2.pin p (List.mem_append_right _ ?_))
    rcases List.mem_cons.mp hp with z | z
    · rw [z]; exact List.mem_cons_self
    · exact List.mem_cons_of_mem _ (List.mem_cons_of_mem _ z)
end
abbrev N_TM : List Str := ["self", "most", "__class__"]
/-- the def of TooMany.__init__, its cell at cc, its code object at c -/
def fTM (cc c : Addr) : NF := ⟨"__init__", "TooMany.__init__", defArgs s_TM, defBody s_TM, defScope s_TM, [("__class__", cc)], c⟩
theorem sc_TM : NScope N_TM ["self", "most"] ["__class__"] (defScope s_TM) := nscope_by (by decide +kernel)
section
variable {P : Program} {w : World} {K : PySem.W.Frag} {mg : Str → Option Value} {base : Heap} {C fI cc c : Addr}
theorem cells_TM {cl : Value} {cld : Option Addr} {csl : Array (Option Value)} {A : Around} {outer : List Env} {s : Shared} {H : Hp} (e0 : Env0 P w K mg base A outer s H) (lcc : K.lookup cc = some ⟨cl, cld, .cell (some (.ref C)), csl⟩) : CellsAt [(("__class__" : Str), cc)] ["__class__"] [none] s.heap H := by
  have one : ∀ {y : Str} {c : Addr}, [(("__class__" : Str), cc)].lookup y = some c → y = "__class__" ∧ c = cc := fun {y c} h => by
    rw [List.lookup_cons] at h
    by_cases e : (y == ("__class__" : Str)) = true
    · rw [e] at h
      cases h
      exact ⟨by simpa using e, rfl⟩
    · rw [Bool.eq_false_iff.mpr e] at h
      cases h
  obtain ⟨h1, h2⟩ := e0.bs cc _ (e0.mod.kin _ _ lcc)
  refine ⟨rfl, fun y c h => ?_, fun x y c h1 h2 => (one h1).1.trans (one h2).1.symm, fun i y h => ?_⟩
  · obtain ⟨_, rfl⟩ := one h
    exact ⟨h2, _, _, h1, rfl⟩
  · refine ⟨cc, ?_, fun v hv => ?_⟩
    · match i, h with
      | 0, h => cases h; rfl
    · match i, hv with
      | 0, hv => cases hv
theorem fn_TM (T : OexC K C) (B : InitX P K C fI (fTM cc c)) (hno : PySem.W.findIn K (.ref C) "most" = some none) (hns : mg "super" = none) (top0 : (P.main.scope.names.lookup ("super" : Str)).isSome = false) :
    ∃ fd, FnOk P w K mg base CX0 1 fI fd ["self", "most"] (spI C "most" 200) ∧ Binds K fd ["self", "most"] [] := by
  obtain ⟨oc, od, kV, doc, pm, an, ct, osl, lk⟩ := B.lk
  obtain ⟨cc', cl0, cld, csl, ecl, lcc⟩ := B.cell
  obtain rfl : cc = cc' := by cases ecl; rfl
  refine ⟨PySem.W.fnX (fTM cc c).name (fTM cc c).qual (fTM cc c).params (fTM cc c).body (fTM cc c).scope (fTM cc c).cl .none kV doc pm an (.ref (fTM cc c).c) ct, ⟨fun vs H Q E h => ?_, fun A outer s H args us vs Q E hr e0 hb r hsp => ?_⟩, .all fun us hl => match us, hl with | [_, _], _ => rfl⟩
  · obtain ⟨a, rfl, _⟩ := h
    rfl
  obtain ⟨a, rfl, ea, q⟩ := hsp
  have lim : s.heap.NoLimit := e0.mod.nolimit.keeps fun b o e => (e0.bs b o e).1
  have KX : K.In s.heap := e0.mod.kin.keeps fun b o e => (e0.bs b o e).1
  refine ks_codeAny_call_defAt hr.depth (KX _ _ lk) rfl lim (PySem.W.codeRec_of KX B.cd) rfl hb sc_TM.nocell (fun ⟨n, _⟩ hy => sc_TM.par n (List.of_mem_zip hy).1) fun h₁ hns1 kp => ?_
  have I : Inv (ncx CX0 P w K mg base N_TM (fTM cc c) fI A outer s H E) [] (startF N_TM [.ref a, .int 200] [none]) H { s with heap := h₁, toks := s.toks + ((["self", "most"] : List Str).zip us).length } := inv_startN sc_TM hr.hd e0 rfl r (cells_TM e0 lcc) hns1 kp
  refine ks_wpAt_execs_cons (ks_wpAt_Expr_any (ks_wpAt_MethodCall ?_))
  refine super_mw (X := ncx CX0 P w K mg base N_TM (fTM cc c) fI A outer s H E) (σ := startF N_TM [.ref a, .int 200] [none]) (H := H) (a := a) (F := fTM cc c) (fI := fI) T B rfl top0 I ea rfl rfl rfl rfl rfl rfl rfl rfl hns rfl rfl rfl (Q := fun fx s₂ => wpAny (model P w) (A.deeper (envF (fTM cc c) fI s.heap.objs.size)) (callWith _ fx.1 fx.2 _ []) _ _ s₂) (fun v s1 _ h => h) fun u s2 I2 => ?_
  have hj : ∀ {x : Str} {j : Nat} {p1 p2 p3 p4 : Pos}, PA (ncx CX0 P w K mg base N_TM (fTM cc c) fI A outer s H E) [.JoinedStr [.Constant (.str x) j p1, .FormattedValue (.Name "most" p2) (-1) none p3] p4] (tCons (fun σ H Q => tJs [tC (.str x), tFmt (tVar 1)] Str.empty σ H fun out H1 => Q (.str out) H1) tNil) := fun {x j p1 p2 p3 p4} => pa_cons (pe_joined (.cons pe_str (.cons (pe_fmt (pe_var (i := 1) rfl (.inl rfl))) .nil))) pa_nil
  refine PySem.W.kxs_callWith (i := "ValueError.__init__") (u := u) (x := a) rfl (PySem.Calls.evalArgs_plain (thn (hj.run _ _ s2 _ H (fun vs H1 => H1 = H ∧ vs.length = 1) I2 ⟨_, rfl, by rw [sizeLine_eq]; decide +kernel, .int 200, rfl, .inr ⟨200, rfl, by decide +kernel, _, rfl, by rw [sizeLine_eq]; decide +kernel, rfl, rfl⟩⟩) fun us2 s3 hh => ?_))
  obtain ⟨vs2, H2, I3, r3, eH, l3⟩ := hh
  subst eH
  refine ⟨ClX.pin_at I3, ?_⟩
  refine call_mw (us := us2) T I3 ea (by rw [← Paired.length r3, l3, sizeLine_eq]; decide) fun s4 J => ?_
  have hps : ∀ {p1 p2 p3 p4 : Pos}, PS (ncx CX0 P w K mg base N_TM (fTM cc c) fI A outer s H2 E) (.Assign [.Attribute (.Name "self" p1) "most" p2] (.Name "most" p3) p4) (tOst K "most" (tVar 0) (tVar 1)) := fun {p1 p2 p3 p4} => (ps_ost (pe_var (i := 0) rfl (.inl rfl)) (pe_var (i := 1) rfl (.inl rfl)))
  refine wpAt_of_wpAny (wpAny_mono ((pss_one hps).run [] s4 (startF N_TM [.ref a, .int 200] [none]) H2 { nx := fun _ H' => Q .non H', rt := Q } J ⟨_, rfl, _, rfl, a, C, rfl, T, hno, .inl ⟨ea, fun dx h1 h2 => q dx h1 h2⟩⟩) (fun fl s5 hs => ?_) fun e s' hs => hs)
  cases fl with
  | ret u =>
    obtain ⟨v, σ', H', J', rv, q'⟩ := hs
    exact ⟨v, H', J'.os, J'.bare, J'.base, J'.hok, rv, q'⟩
  | next =>
    obtain ⟨σ', H', J', q'⟩ := hs
    exact ⟨.non, H', J'.os, J'.bare, J'.base, J'.hok, rfl, q'⟩
  | brk =>
    obtain ⟨_, _, _, z⟩ := hs
    exact False.elim z
  | cont =>
    obtain ⟨_, _, _, z⟩ := hs
    exact False.elim z
/-- what is known of the exceptions behind the top -/
structure Xs (P : Program) (K : PySem.W.Frag) : Prop where
  cB : ExcC K (He.ga K "BadNet")
  cM : ExcC K (He.ga K "TooMany")
  kB : PySem.W.kitOne K (.ref (He.ga K "BadNet")) (.ref (He.ga K "BadNet")) = some true
  kM : PySem.W.kitOne K (.ref (He.ga K "TooMany")) (.ref (He.ga K "TooMany")) = some true
  oM : OexC K (He.ga K "TooMany")
  xM : XfC K (He.ga K "TooMany")
  nM : PySem.W.findIn K (.ref (He.ga K "TooMany")) "most" = some none
  init : ∃ fI cc c, InitX P K (He.ga K "TooMany") fI (fTM cc c) ∧ PySem.W.findIn K (.ref (He.ga K "TooMany")) "__init__" = some (some (.ref fI)) ∧ PySem.W.typeIn K (.ref fI) = some (.type "function")
  top0 : (P.main.scope.names.lookup ("super" : Str)).isSome = false
end
section
variable {X : Cx} {k : Nat} {t : TA} {es : List Expr} {e : Expr} {m : Str} {j : Nat} {p p2 pos : Pos}
/-- TooMany(n) made -/
theorem pmk_many (T : Tx X.w X.K X.mg X.base) (Y : Xs X.prog X.K) (hr : Room k X.A) (hk : 2 ≤ k) (hg : Gl X "TooMany") (ha : PA X (e :: es) t) (he : starEach (e :: es) X.env = (false, eval e X.env) :: starEach es X.env := by rfl) (hpl : (backTo pos (starEach es X.env)).any (·.1) = false := by rfl) :
    PMk X (.Call (.Name "TooMany" p) (e :: es) [] pos) (tMkO (He.ga X.K "TooMany") (spI (He.ga X.K "TooMany") "most" 200) [] t) := by
  obtain ⟨fI, cc, c, B, h1, h2⟩ := Y.init
  obtain ⟨fd, F, b⟩ := fn_TM (w := X.w) (mg := X.mg) (base := X.base) Y.oM B Y.nM T.n_super Y.top0
  obtain ⟨u, g1, g2⟩ := T.c_TooMany
  obtain rfl : u = _ := g2
  exact pmk_oex Y.oM h1 h2 F (hr.mono hk) b .nil pass0 hg g1 ha (by decide) he hpl
/-- BadNet('..') made -/
theorem pmk_bad (T : Tx X.w X.K X.mg X.base) (Y : Xs X.prog X.K) (hg : Gl X "BadNet") : PMk X (.Call (.Name "BadNet" p) [.Constant (.str m) j p2] [] pos) (fun _ H Q => Q (.ref (He.ga X.K "BadNet")) none H) := by
  obtain ⟨u, g1, g2⟩ := T.c_BadNet
  obtain rfl : u = _ := g2
  obtain ⟨h1, h2, h3, h4⟩ := T.exc_BadNet
  exact pmk_own F.excBase_ValueError h1 g1 h2 (raises_own h3 h4) hg
end
end K13
namespace K13
open PySem PySem.Spec PyProof.Rows L2
open Evl (Ex fresh_back ex_l ex_t)
/-- one step of reading an expression's worth -/
local macro_rules | `(tactic| walk_at "eg1") => `(tactic| first
  | exact eg_var rfl | exact eg_int | exact eg_str | exact eg_bl | exact eg_non | exact tg_yes | exact og_none
  | apply og_some
  | apply tg_test | apply tg_B | apply tg_not | apply eg_notV | apply eg_neg
  | apply eg_isi
  | apply eg_ixT | apply eg_ixL
  | apply eg_cmp | apply eg_i0 | apply eg_ic
  | apply eg_op (hr := rg_eqI) | apply eg_op (hr := rg_eqS) | apply eg_op (hr := rg_neI) | apply eg_op (hr := rg_neS)
  | apply eg_cb (hr := cg_gcd)
  | exact (rfl : atI _ _ = _) | exact (rfl : kitB _ _ = _)
  | exact ag_nil | apply ag_cons
  | exact (by assumption : EG _ _ _ _ _) | apply eg_tup | apply eg_lst | exact Nat.le_of_ble_eq_true rfl)
local macro_rules | `(tactic| walk_at "eg") => `(tactic| repeat' walk_at "eg1")
section
variable {P : Program} {w : World} {K : PySem.W.Frag} {mg : Str → Option Value} {base : Heap} {L : SH} {G : Gm} {te : TE}
/-- BadNet; TooMany of 200 -/
abbrev zB (K : PySem.W.Frag) : RXt := zBare (He.ga K "BadNet")
abbrev zM (K : PySem.W.Frag) : RXt := zNum (He.ga K "TooMany") "most" 200
def PX_of_parts (K : PySem.W.Frag) (ds : List PyData) (Z : RXt) : Prop := ∃ (xs : List Str) (ps : List Part) (pss : List (List Part)), 200 < pss.flatten.length ∧ pss.flatten.length ≤ 100000 ∧ ds = [netD xs ps, .list (pss.map fun l => .list (l.map partD))] ∧ Z = zM K
def PX_as_leads (K : PySem.W.Frag) (ds : List PyData) (Z : RXt) : Prop := ∃ xs ps, NetOk xs ps ∧ ds = [netD xs ps] ∧ ((kindF ps = "hubs" ∧ Z = zB K) ∨ (kindF ps ≠ "hubs" ∧ 200 < (ps.flatMap bothF).length ∧ Z = zM K))
def PX_as_hubs (K : PySem.W.Frag) (ds : List PyData) (Z : RXt) : Prop := ∃ xs ps, NetOk xs ps ∧ ds = [netD xs ps] ∧ kindF ps = "leads" ∧ Z = zB K
def PX_as_pipes (K : PySem.W.Frag) (ds : List PyData) (Z : RXt) : Prop := ∃ xs ps, NetOk xs ps ∧ ds = [netD xs ps] ∧ (((kindF ps = "leads" ∨ ∃ p ∈ ps, 3 < p.ends.length) ∧ Z = zB K) ∨ (kindF ps ≠ "leads" ∧ (∀ p ∈ ps, p.ends.length ≤ 3) ∧ 200 < (ps.flatMap pipesF).length ∧ Z = zM K))
theorem okx_of_parts (T : Tx w K mg base) (Y : Xs P K) : Cl P w K mg base (L2.CX P w) 3 "of_parts" (spX K fun ds Z => ds.length = 2 ∧ PX_of_parts K ds Z) := cl_rse T.d_of_parts T.g_of_parts sc_of_parts (fun _ _ h => h.1) (fun _ _ _ _ _ _ us hl => match us, hl with | [_, _], _ => rfl) fun cdv A outer s H E ds Z hr h => ⟨_,
  (pss_cons (ps_setLc2 (i := 2) (own := [("some", 3), ("part", 4)]) (vs1 := [4]) (wi1 := iList K (tVar 3)) rfl sc_of_parts.nd rfl rfl (sw_true rfl rfl rfl (by decide +kernel)) (pi_list (pv 1)) (blkOk_by (own := [("some", 3), ("part", 4)]) (N := N_of_parts) (sc := defScope s_of_parts) (by decide +kernel)) (by decide) (fun _ _ _ _ _ => (pg_name (i := 3) sc_of_parts.nd rfl (Or.inl rfl))) (fun _ _ _ _ _ => pts_nil) (fun _ _ _ _ _ => (pi_list (pv 3))) (fun _ _ _ _ _ => (pg_name (i := 4) sc_of_parts.nd rfl (Or.inl rfl))) (fun _ _ _ _ _ => pts_nil) (fun _ _ _ _ _ => (pv 4)))
  (pss_cons (ps_if (pt_cmpR op_gt (pe_callB (call_lenK K rfl) (by rfl) T.n_len bt_len (pa_cons (pv 2) pa_nil)) (C8.pe_gc (by rfl) T.c_MOST_PARTS) (nomark _))
    (pss_one (ps_raise rfl takesX (pmk_many T Y hr (by decide) (by rfl) (pa_cons (C8.pe_gc (by rfl) T.c_MOST_PARTS) pa_nil))))
    pss_nil)
  (pss_one (ps_ret (pe_tup (pa_cons (pe_ix (ix_tupK K rfl) (pv 0) pe_int (fun _ _ => rfl)) (pa_cons (pe_callTy (call_tupK K rfl) (by rfl) T.n_tuple bt_tuple (pa_cons (pv 2) pa_nil)) pa_nil))))))), by
  replace h := h.2
 
  obtain ⟨xs, ps, pss, hz, hz2, rfl, rfl⟩ := h
  have e : (pss.flatMap fun l => l.map partD) = pss.flatten.map partD := by
    rw [List.map_flatten, List.flatMap_def]
  refine bx_asg (eg_lc2 (ys := fun l : List Part => l) (f := fun _ p => partD p) (ig_lst (g := fun l : List Part => .list (l.map partD)) (eg_var rfl)) (fun j hj => ?_) (fun l _ => ig_lst (g := partD) (eg_var rfl)) (fun j hj => by simpa using hj) (fun l _ p _ => eg_var rfl) ?_) ?_
  · simp at hj ⊢; exact hj.1
  · rw [e, List.length_map]; omega
  · rw [e]
    refine bx_take (b := true) (tg_of (tg_test (eg_cmp (eg_cb (ag_cons (eg_var rfl) ag_nil) cg_lenL) eg_int)) ?_) rfl (bx_num (ag_cons eg_int ag_nil))
    rw [List.length_map]
    exact decide_eq_true (by omega)⟩
theorem len_both (ps : List Part) : (ps.flatMap bothF).length ≤ 2 * ps.length := by
  induction ps with
  | nil => simp
  | cons p ps ih =>
    have : (bothF p).length ≤ 2 := by
      cases p with
      | arc ld x y w => cases ld <;> simp [bothF]
      | hub zs w => simp [bothF]
    rw [List.flatMap_cons, List.length_append, List.length_cons]
    omega
theorem len_pipes (ps : List Part) : (ps.flatMap pipesF).length ≤ 3 * ps.length := by
  induction ps with
  | nil => simp
  | cons p ps ih =>
    have : (pipesF p).length ≤ 3 := by
      unfold pipesF
      split <;> simp
    rw [List.flatMap_cons, List.length_append, List.length_cons]
    omega
theorem okx_as_leads (T : Tx w K mg base) (Y : Xs P K) : Cl P w K mg base (L2.CX P w) 8 "as_leads" (spX K fun ds Z => ds.length = 1 ∧ PX_as_leads K ds Z) := cl_rse T.d_as_leads T.g_as_leads sc_as_leads (fun _ _ h => h.1) (fun _ _ _ _ _ _ us hl => match us, hl with | [_], _ => rfl) fun cdv A outer s H E ds Z hr h => ⟨_,
  (pss_cons (ps_if (pt_cmpR op_eq (pcl (ok_sort_of T) hr (by decide) pass0 (by rfl) (pa_cons (pv 0) pa_nil)) pe_str (nomark _))
    (pss_one (ps_raise rfl takesX (pmk_bad T Y (by rfl))))
    pss_nil)
  (pss_one (ps_ret (pcl (okx_of_parts T Y) hr (by decide) (passes_call takesX fun _ _ _ _ h => h) (by rfl) (pa_cons (pv 0) (pa_cons (pe_lc (own := [("part", 1)]) rfl sc_as_leads.nd (pi_tup (pe_ix (ix_tupK K rfl) (pv 0) pe_int (fun _ _ => rfl))) (blkOk_by (own := [("part", 1)]) (N := N_as_leads) (sc := defScope s_as_leads) (by decide +kernel)) (fun _ _ _ _ _ => (pg_name (i := 1) sc_as_leads.nd rfl (Or.inl rfl))) (fun _ _ _ _ _ => pts_nil) (fun _ _ _ _ _ => (pcl (ok_both_leads T) hr (by decide) pass0 (by rfl) (pa_cons (pv 1) pa_nil)))) pa_nil)))))), by
  replace h := h.2
 
  obtain ⟨xs, ps, n, rfl, ⟨hk, rfl⟩ | ⟨hk, hz, rfl⟩⟩ := h
  · exact bx_take (tg_test (eg_op (eg_call (ag_cons (eg_var rfl) ag_nil) ⟨rfl, xs, ps, n, rfl, rfl⟩) eg_str rg_eqS)) (decide_eq_true hk) bx_bare
  · have hl := n.len
    have h2 := len_both ps
    refine bx_skip (tg_test (eg_op (eg_call (ag_cons (eg_var rfl) ag_nil) ⟨rfl, xs, ps, n, rfl, rfl⟩) eg_str rg_eqS)) (decide_eq_false hk) (bx_ret (ex_call (ag_cons (eg_var rfl) (ag_cons (eg_lcA (f := fun p => .list ((bothF p).map partD)) (ig_tup (g := partD) (xs := ps) (eg_ixT (eg_var rfl) eg_int rfl)) (by omega) (fun j hj => by simpa using hj) fun p hp => eg_call (ag_cons (eg_var rfl) ag_nil) ⟨rfl, p, no_hub (kind_hubs n hk) p hp, rfl, rfl⟩) ag_nil)) ⟨rfl, xs, ps, ps.map bothF, by rw [flat_map]; exact hz, by rw [flat_map]; omega, ?_, rfl⟩))
    rw [List.map_map]; rfl⟩
theorem okx_as_hubs (T : Tx w K mg base) (Y : Xs P K) : Cl P w K mg base (L2.CX P w) 8 "as_hubs" (spX K fun ds Z => ds.length = 1 ∧ PX_as_hubs K ds Z) := cl_rse T.d_as_hubs T.g_as_hubs sc_as_hubs (fun _ _ h => h.1) (fun _ _ _ _ _ _ us hl => match us, hl with | [_], _ => rfl) fun cdv A outer s H E ds Z hr h => ⟨_,
  (pss_cons (ps_if (pt_cmpR op_eq (pcl (ok_sort_of T) hr (by decide) pass0 (by rfl) (pa_cons (pv 0) pa_nil)) pe_str (nomark _))
    (pss_one (ps_raise rfl takesX (pmk_bad T Y (by rfl))))
    pss_nil)
  (pss_one (ps_ret (pcl (okx_of_parts T Y) hr (by decide) (passes_call takesX fun _ _ _ _ h => h) (by rfl) (pa_cons (pv 0) (pa_cons (pe_lc (own := [("part", 1)]) rfl sc_as_hubs.nd (pi_tup (pe_ix (ix_tupK K rfl) (pv 0) pe_int (fun _ _ => rfl))) (blkOk_by (own := [("part", 1)]) (N := N_as_hubs) (sc := defScope s_as_hubs) (by decide +kernel)) (fun _ _ _ _ _ => (pg_name (i := 1) sc_as_hubs.nd rfl (Or.inl rfl))) (fun _ _ _ _ _ => pts_nil) (fun _ _ _ _ _ => (pe_lst (pa_cons (pe_tup (pa_cons pe_str (pa_cons (pcl (ok_ends T) hr (by decide) pass0 (by rfl) (pa_cons (pv 1) pa_nil)) (pa_cons (pe_ix (ix_tupK K rfl) (pv 1) (pe_un un_neg pe_int) (fun _ _ => rfl)) pa_nil)))) pa_nil)))) pa_nil)))))), by
  replace h := h.2
 
  obtain ⟨xs, ps, n, rfl, hk, rfl⟩ := h
  exact bx_take (tg_test (eg_op (eg_call (ag_cons (eg_var rfl) ag_nil) ⟨rfl, xs, ps, n, rfl, rfl⟩) eg_str rg_eqS)) (decide_eq_true hk) bx_bare⟩
theorem okx_as_pipes (T : Tx w K mg base) (Y : Xs P K) : Cl P w K mg base (L2.CX P w) 8 "as_pipes" (spX K fun ds Z => ds.length = 1 ∧ PX_as_pipes K ds Z) := cl_rse T.d_as_pipes T.g_as_pipes sc_as_pipes (fun _ _ h => h.1) (fun _ _ _ _ _ _ us hl => match us, hl with | [_], _ => rfl) fun cdv A outer s H E ds Z hr h => ⟨_,
  (pss_cons (ps_if (PW.pt (pw_or (pt_cmpR op_eq (pcl (ok_sort_of T) hr (by decide) pass0 (by rfl) (pa_cons (pv 0) pa_nil)) pe_str (nomark _)) (pw_or1 (pt_val (pe_callB (cr_any rfl) (by rfl) T.n_any bt_any (pa_cons (pe_lc (own := [("part", 1)]) rfl sc_as_pipes.nd (pi_tup (pe_ix (ix_tupK K rfl) (pv 0) pe_int (fun _ _ => rfl))) (blkOk_by (own := [("part", 1)]) (N := N_as_pipes) (sc := defScope s_as_pipes) (by decide +kernel)) (fun _ _ _ _ _ => (pg_name (i := 1) sc_as_pipes.nd rfl (Or.inl rfl))) (fun _ _ _ _ _ => pts_nil) (fun _ _ _ _ _ => (pe_cmpR op_gt (pe_callB (call_lenK K rfl) (by rfl) T.n_len bt_len (pa_cons (pcl (ok_ends T) hr (by decide) pass0 (by rfl) (pa_cons (pv 1) pa_nil)) pa_nil)) pe_int (nomark _)))) pa_nil))))))
    (pss_one (ps_raise rfl takesX (pmk_bad T Y (by rfl))))
    pss_nil)
  (pss_one (ps_ret (pcl (okx_of_parts T Y) hr (by decide) (passes_call takesX fun _ _ _ _ h => h) (by rfl) (pa_cons (pv 0) (pa_cons (pe_lc (own := [("part", 1)]) rfl sc_as_pipes.nd (pi_tup (pe_ix (ix_tupK K rfl) (pv 0) pe_int (fun _ _ => rfl))) (blkOk_by (own := [("part", 1)]) (N := N_as_pipes) (sc := defScope s_as_pipes) (by decide +kernel)) (fun _ _ _ _ _ => (pg_name (i := 1) sc_as_pipes.nd rfl (Or.inl rfl))) (fun _ _ _ _ _ => pts_nil) (fun _ _ _ _ _ => (pcl (ok_in_pipes T) hr (by decide) pass0 (by rfl) (pa_cons (pv 1) pa_nil)))) pa_nil)))))), by
  replace h := h.2
 
  obtain ⟨xs, ps, n, rfl, h⟩ := h
  have hl := n.len
  refine bx_ite (tg_or (a := decide (kindF ps = "leads")) (b := ps.any fun p => decide ((3 : Int) < (p.ends.length : Int))) (tg_test (eg_op (eg_call (ag_cons (eg_var rfl) ag_nil) ⟨rfl, xs, ps, n, rfl, rfl⟩) eg_str rg_eqS)) fun _ => tg_test (eg_cb (ag_cons (eg_lcA (f := fun p : Part => .bool (decide ((3 : Int) < (p.ends.length : Int)))) (ig_tup (g := partD) (xs := ps) (eg_ixT (eg_var rfl) eg_int rfl)) (by omega) (fun j hj => by simpa using hj) fun p hp => eg_of (eg_cmp (eg_cb (ag_cons (eg_call (ag_cons (eg_var rfl) ag_nil) ⟨rfl, p, rfl, rfl⟩) ag_nil) (cg_lenT (ds := p.ends.map .str))) eg_int) (by rw [List.length_map])) ag_nil) cg_anyM)) (fun hb => ?_) fun hb => ?_
  · rcases h with ⟨hk, rfl⟩ | ⟨hk, he, hz, rfl⟩
    · exact bx_bare
    · exfalso
      rw [decide_eq_false hk, Bool.false_or] at hb
      obtain ⟨p, hp, h3⟩ := List.any_eq_true.mp hb
      have := he p hp
      have := of_decide_eq_true h3
      omega
  · obtain ⟨h0, h1⟩ := Bool.or_eq_false_iff.mp hb
    rcases h with ⟨hk, rfl⟩ | ⟨hk, he, hz, rfl⟩
    · exfalso
      rcases hk with hk | ⟨p, hp, h3⟩
      · exact of_decide_eq_false h0 hk
      · have := of_decide_eq_false (Bool.eq_false_iff.mpr (List.any_eq_false.mp h1 p hp))
        omega
    · have h2 := len_pipes ps
      refine bx_ret (ex_call (ag_cons (eg_var rfl) (ag_cons (eg_lcA (f := fun p => .list ((pipesF p).map partD)) (ig_tup (g := partD) (xs := ps) (eg_ixT (eg_var rfl) eg_int rfl)) (by omega) (fun j hj => by simpa using hj) fun p hp => eg_call (ag_cons (eg_var rfl) ag_nil) ⟨rfl, p, (n.ok p hp).num, ?_, rfl, rfl⟩) ag_nil)) ⟨rfl, xs, ps, ps.map pipesF, by rw [flat_map]; exact hz, by rw [flat_map]; omega, ?_, rfl⟩)
      · have := he p hp
        have := ends_ge (n.ok p hp)
        omega
      · rw [List.map_map]; rfl⟩
end
end K13
namespace K13
open PySem PySem.Spec PyProof.Rows L2
open Evl (Ex fresh_back ex_l ex_t)
/-- one step of reading an expression's worth -/
local macro_rules | `(tactic| walk_at "eg1") => `(tactic| first
  | exact eg_var rfl | exact eg_int | exact eg_str | exact eg_bl | exact eg_non | exact tg_yes | exact og_none
  | apply og_some
  | apply tg_test | apply tg_B | apply tg_not | apply eg_notV | apply eg_neg
  | apply eg_isi
  | apply eg_ixT | apply eg_ixL
  | apply eg_cmp | apply eg_i0 | apply eg_ic
  | apply eg_op (hr := rg_eqI) | apply eg_op (hr := rg_eqS) | apply eg_op (hr := rg_neI) | apply eg_op (hr := rg_neS)
  | apply eg_cb (hr := cg_gcd)
  | exact (rfl : atI _ _ = _) | exact (rfl : kitB _ _ = _)
  | exact ag_nil | apply ag_cons
  | exact (by assumption : EG _ _ _ _ _) | apply eg_tup | apply eg_lst | exact Nat.le_of_ble_eq_true rfl)
local macro_rules | `(tactic| walk_at "eg") => `(tactic| repeat' walk_at "eg1")
section
variable {P : Program} {w : World} {K : PySem.W.Frag} {mg : Str → Option Value} {base : Heap} {L : SH} {G : Gm} {te ta tb tl : TE} {ts : TS} {R : GV → SH → Prop}
def P__law_begun (_K : PySem.W.Frag) (as : List GV) (L : SH) (Z : GV → SH → Prop) : Prop := ∃ ns : List Int, ns.length ≤ 1000 ∧ L = [] ∧ as = [scr ns] ∧ Z = fun g L' => ∃ p gp gs, g = .r p ∧ L' = stH p gp gs (ns.map fun n => ((n.natAbs : Nat) : Int)) 0 0
abbrev s__law_begun : Stmt := top 59
abbrev N__law_begun : List Str := ["_law_script", "_law_great", "_law_cell"]
theorem sc__law_begun : FnScope N__law_begun ["_law_script"] (defScope s__law_begun) := C8.fnScope_by (by decide +kernel)
theorem ok__law_begun (T : Tx w K mg base) : Cl P w K mg base CX0 1 "_law_begun" (spM K fun gs L Z => gs.length = 1 ∧ P__law_begun K gs L Z) := cl_mut T.d__law_begun T.g__law_begun sc__law_begun (fun _ _ _ h => h.1) (fun _ _ _ _ _ _ us hl => match us, hl with | [_], _ => rfl) fun cdv A outer s H E gs L Z hr h => ⟨_,
  (pss_cons (ps_setLc (i := 1) (own := [("_law_cell", 2)]) rfl sc__law_begun.nd rfl rfl (sw_true rfl rfl rfl (by decide +kernel)) (pi_list (pv 0)) (blkOk_by (own := [("_law_cell", 2)]) (N := N__law_begun) (sc := defScope s__law_begun) (by decide +kernel)) (fun _ _ _ _ _ => (pg_name (i := 2) sc__law_begun.nd rfl (Or.inl rfl))) (fun _ _ _ _ _ => pts_one (pt_cmpR op_ge (pe_callB call_abs (by rfl) T.n_abs bt_abs (pa_cons (pv 2) pa_nil)) (pe_op op_pow pe_int pe_int) (nomark _))) (fun _ _ _ _ _ => (pe_op op_sub (pe_callB call_abs (by rfl) T.n_abs bt_abs (pa_cons (pv 2) pa_nil)) (pe_op op_pow pe_int pe_int))))
  (pss_one (ps_ret (pe_disp (pps_cons pe_str (pv 1) (pps_cons pe_str (pe_lc (own := [("_law_cell", 2)]) rfl sc__law_begun.nd (pi_list (pv 0)) (blkOk_by (own := [("_law_cell", 2)]) (N := N__law_begun) (sc := defScope s__law_begun) (by decide +kernel)) (fun _ _ _ _ _ => (pg_name (i := 2) sc__law_begun.nd rfl (Or.inl rfl))) (fun _ _ _ _ _ => pts_nil) (fun _ _ _ _ _ => (pe_callB call_abs (by rfl) T.n_abs bt_abs (pa_cons (pv 2) pa_nil)))) (pps_cons pe_str pe_int (pps_cons pe_str pe_int pps_nil)))) (by rfl) (by rfl) (fun z => by cases z) (by decide))))), by
  replace h := h.2
 
  obtain ⟨ns, hn, rfl, rfl, rfl⟩ := h
  refine bm_seq (sm_asg (em_lcO (p := fun n : Int => decide ((n.natAbs : Nat) ≥ (10 : Int) ^ (18 : Int).toNat)) (f := fun n : Int => .int ((n.natAbs : Nat) - (10 : Int) ^ (18 : Int).toNat)) (ig_scr (ev_var rfl)) (by omega) (fun j hj => by simpa using hj) (fun n _ => ?_) fun n _ _ => ?_)) ?_
  · exact tg_test (eg_cmp (eg_cb (ag_cons (eg_var rfl) ag_nil) cg_abs) (eg_ic eg_int eg_int ⟨by decide, by decide, by decide⟩))
  · exact eg_i0 (eg_cb (ag_cons (eg_var rfl) ag_nil) cg_abs) (eg_ic eg_int eg_int ⟨by decide, by decide, by decide⟩)
  rintro _ _ ⟨_, rfl, gp, rfl, rfl⟩
  refine bm_ret (em_imp (em_disp (kgs := stK gp (ns.map fun n => ((n.natAbs : Nat) : Int)) 0 0) (pv_cons (k := .inr "great") eg_str (ev_var rfl) (pv_cons (k := .inr "cells") eg_str (eg_of (eg_lcA (f := fun n : Int => PyData.int ((n.natAbs : Nat) : Int)) (ig_scr (ev_var rfl)) (by omega) (fun j hj => by simpa using hj) fun n _ => eg_cb (ag_cons (eg_var rfl) ag_nil) cg_abs) (by rw [List.map_map]; rfl)) (pv_cons (k := .inr "rest") eg_str (ev_d eg_int) (pv_cons (k := .inr "turn") eg_str (ev_d eg_int) pv_nil)))) (Nat.le_of_ble_eq_true rfl)) ?_)
  rintro _ _ ⟨p, rfl, rfl⟩
  refine ⟨p, gp, (ns.filter fun n : Int => decide ((n.natAbs : Nat) ≥ (10 : Int) ^ (18 : Int).toNat)).map fun n => (n.natAbs : Nat) - (10 : Int) ^ (18 : Int).toNat, rfl, ?_⟩
  unfold stH intG
  rw [List.map_map, List.map_map]
  rfl⟩
end
end K13
namespace K13
open PySem PySem.Spec PyProof.Rows L2
open Evl (Ex fresh_back ex_l ex_t)
open LamX (GivesTo TabB CodeO LamS lamEnv lamCx)
theorem codeO_nt {c : Addr} {q : Str} (ps : Array Value) : CodeO c q ≠ .tbl ps := LamX.codeO_ne ps
theorem exT_nt {cls : Value} {d : Option Addr} {a : Addr} (ps : Array Value) : exT cls d a ≠ .tbl ps := fun z => by
  unfold exT at z
  cases z
/-- all code objects that the table tells are known and bear the name q -/
def TabN (N : Hp) (q : Str) (ps : Array Value) : Prop := TriplesOk ps.toList ∧ ∀ (pos : Pos) (cv : Value), codeAmong pos ps.toList = some cv → ∃ c, cv = .ref c ∧ N c = some (CodeO c q)
theorem TabN.mono {N N' : Hp} {q : Str} {ps : Array Value} (e : Ex N N') (h : TabN N q ps) : TabN N' q ps := ⟨h.1, fun pos cv hc => by
  obtain ⟨c, rfl, hh⟩ := h.2 pos cv hc
  exact ⟨c, rfl, e _ _ hh⟩⟩
def TbS (q : Str) : MO := .o (fun _ N u => ∃ ps, u = .tbl ps ∧ TabN N q ps) fun _ _ _ u e h => by
  obtain ⟨ps, rfl, t⟩ := h
  exact ⟨ps, rfl, t.mono e⟩
theorem TabN.nil {N : Hp} {q : Str} : TabN N q #[] := ⟨True.intro, fun pos cv hc => by
  have z : codeAmong pos [] = some cv := hc
  simp [codeAmong] at z⟩
/-- a table with one more line -/
theorem TabN.snoc {N : Hp} {q : Str} {ps : Array Value} {c : Addr} {pos : Pos} (h : TabN N q ps) (hn : N c = none) : TabN (upd N c (CodeO c q)) q (ps ++ #[rawInt pos.line, rawInt pos.col, .ref c]) := by
  have el : (ps ++ #[rawInt pos.line, rawInt pos.col, .ref c]).toList = ps.toList ++ [rawInt pos.line, rawInt pos.col, .ref c] := by simp
  refine ⟨by rw [el]; exact PySem.TriplesOk_snoc _ _ _ _ h.1, fun p cv hc => ?_⟩
  rw [el] at hc
  rcases LamX.among_app _ h.1 hc with z | rfl
  · obtain ⟨b, rfl, hb⟩ := h.2 p cv z
    exact ⟨b, rfl, Ex.new hn _ _ hb⟩
  · exact ⟨c, rfl, upd_same⟩
section
variable {X : Cx} {pins : List (Addr × Obj)} {σ : L2.St} {H : Hp} {s : Shared} {c P : Addr} {q : Str} {ps : Array Value} {params : Arguments} {body : Expr} {scope : Scope} {pos : Pos} {Q : Value → Shared → Prop} {E : Value → Shared → Prop}
/-- what a state tells of a lambda just made at f, its code object at c' -/
structure LamAt (X : Cx) (H1 : Hp) (s' : Shared) (params : Arguments) (body : Expr) (scope : Scope) (f c' : Addr) : Prop where
  ob : ∃ pm ctv, s'.heap.get? f = some (PySem.W.kla_obj "<lambda>" (X.env.qual ++ "<lambda>") params body scope (cloFrom X.env.cells scope.names []) pm c' ctv)
  un : H1 f = none
  fr : f ∉ frs X.stack
  co : H1 c' = some (CodeO c' (X.env.qual ++ "<lambda>"))
theorem far_frs (I : Inv X pins σ H s) {f : Addr} (hf : s.heap.objs.size ≤ f) : f ∉ frs X.stack := fun hm => by
  rcases List.mem_cons.mp (I.stkSub _ hm) with e | e
  · rw [e] at hf
    exact Nat.lt_irrefl _ (Nat.lt_of_lt_of_le I.lt hf)
  · exact I.nofs hf e
theorem lam_eval (I : Inv X pins σ H s) (TB : TabB X.base X.mg c P) (hcode : X.env.code = .ref c) (hP : H P = some (.tbl ps)) (ht : TabN H (X.env.qual ++ "<lambda>") ps) (hdef : defaultsOf params X.env = ([], [])) (hfree : ∀ y ∈ scope.names, y.2 = .free → ∃ c, X.env.cells.lookup y.1 = some c)
    (old : ∀ f c' s', Inv X pins σ H s' → LamAt X H s' params body scope f c' → Q (.ref f) s')
    (new : ∀ f c' s', H c' = none → Inv X pins σ (upd (upd H c' (CodeO c' (X.env.qual ++ "<lambda>"))) P (.tbl (ps ++ #[rawInt pos.line, rawInt pos.col, .ref c']))) s' →
      LamAt X (upd (upd H c' (CodeO c' (X.env.qual ++ "<lambda>"))) P (.tbl (ps ++ #[rawInt pos.line, rawInt pos.col, .ref c']))) s' params body scope f c' → Q (.ref f) s') :
    wpAny (model X.prog X.w) X.A (eval (.Lambda params body scope pos) X.env) Q E s := by
  have bP : s.heap.BuiltinsAt X.mg P := TB.bm.keeps I.bk
  have hP' : s.heap.get? P = some { cls := .none, data := .fields ps } := I.hok P _ hP
  have hcl := closure_ok hfree
  refine PySem.W.kla_eval hdef ?_
  cases hc : codeAmong pos ps.toList with
  | some cv =>
    obtain ⟨c', rfl, hco⟩ := ht.2 pos cv hc
    refine PySem.W.kla_makeFunctionHit (mg := X.mg) (c := c) (P := P) (ps := ps) hcl I.ok.glob (I.mod.glob.keeps I.bk) hcode (TB.code.keeps I.bk) hP' ht.1 hc bP fun ctv h' tk hx hsz => ?_
    exact old _ c' _ (I.kept fun b o e => Heap.get?_push_of_some _ (hx b o e)) ⟨⟨_, ctv, Heap.get?_push_size _ rfl⟩, I.hok.fresh hsz, far_frs I hsz, hco⟩
  | none =>
    refine PySem.W.kla_makeFunction (mg := X.mg) (c := c) (P := P) (ps := ps) hcl I.ok.glob (I.mod.glob.keeps I.bk) hcode (TB.code.keeps I.bk) hP' ht.1 hc TB.gP bP fun c' ctv h' tk hx hge hlt hrec htb => ?_
    obtain ⟨c2, oc, vs, t, e2, hoc, hd, hv⟩ := hrec
    cases e2
    have hsz : s.heap.objs.size ≤ h'.objs.size := Nat.le_trans hge (Nat.le_of_lt hlt)
    have nC : H c' = none := I.hok.fresh hge
    have ne : P ≠ c' := ne_of_none hP nC
    have sw : ∀ u v, upd (upd H P u) c' v = upd (upd H c' v) P u := fun u v => by
      funext b
      by_cases h1 : b = P
      · subst h1; rw [upd_ne ne, upd_same, upd_same]
      · rw [upd_ne h1]
        by_cases h2 : b = c'
        · subst h2; rw [upd_same, upd_same]
        · rw [upd_ne h2, upd_ne h2, upd_ne h1]
    have J := LamX.inv_table (q := X.env.qual ++ "<lambda>") (t' := tk) (more := #[rawInt pos.line, rawInt pos.col, .ref c']) (h' := h'.push (PySem.W.kla_obj "<lambda>" (X.env.qual ++ "<lambda>") params body scope (cloFrom X.env.cells scope.names []) ((X.mg "__name__").getD .none) c' ctv)) I hP
      (fun b o hb e => Heap.get?_push_of_some _ (hx b o hb e)) (Heap.get?_push_of_some _ htb) hge ⟨oc, vs, t, Heap.get?_push_of_some _ hoc, hd, hv⟩
    rw [sw] at J
    have n1 : h'.objs.size ≠ c' := Nat.ne_of_gt hlt
    have n2 : h'.objs.size ≠ P := Nat.ne_of_gt (Nat.lt_of_lt_of_le (Heap.lt_size hP') hsz)
    refine new _ c' _ nC J ⟨⟨_, ctv, Heap.get?_push_size _ rfl⟩, ?_, far_frs I hsz, ?_⟩
    · rw [upd_ne n2, upd_ne n1]
      exact I.hok.fresh hsz
    · rw [upd_ne (Ne.symm ne), upd_same]
end
/-- x(lambda: ..): TT what x makes of the lambda's reading t -/
def tLamM (P : Addr) (q : Str) (TT : (XK → Hp → VK → Prop) → Hp → VK → Prop) (t : XK → TE) : TE := fun σ H Q => ∃ ps, H P = some (.tbl ps) ∧ TabN H q ps ∧ TT (fun E H' Q' => t E σ H' Q') H Q ∧
  ∀ (c' : Addr) (pos : Pos), H c' = none → TT (fun E H' Q' => t E σ H' Q') (upd (upd H c' (CodeO c' q)) P (.tbl (ps ++ #[rawInt pos.line, rawInt pos.col, .ref c']))) Q
section
variable {X : Cx}
theorem pe_lamM {TT : (XK → Hp → VK → Prop) → Hp → VK → Prop} {x a : Str} {g c P : Addr} {k : Nat} {pg : Arguments} {bg : List Stmt} {sg : Scope} {dV kV doc pm cdv ct oc : Value} {an od : Option Addr} {osl : Array (Option Value)} {Ng : List Str}
    {params : Arguments} {body : Expr} {scope : Scope} {t : XK → TE} {p lpos pos : Pos} (hg : Gl X x) (hm : X.mg x = some (.ref g)) (hk : PySem.W.keepIn X.K (.ref g) = true)
    (lk : X.K.lookup g = some ⟨oc, od, .func (PySem.W.fnOf x x pg bg sg dV kV doc pm an cdv ct), osl⟩) (hcg : PySem.W.codeIn X.K cdv x = true) (hb : Binds X.K (PySem.W.fnOf x x pg bg sg dV kV doc pm an cdv ct) [a] []) (Sg : FnScope Ng [a] sg) (hNg : Ng[0]? = some a) (hva : Vis sg a)
    (hG : GivesTo X Ng x sg g cdv bg a (X.env.qual ++ "<lambda>") TT) (TB : TabB X.base X.mg c P) (hcode : X.env.code = .ref c) (hr : Room (k + 2) X.A) (L : LamS X.env.scope scope) (hdef : defaultsOf params X.env = ([], []))
    (hbind : ∀ (q : Str) (cl : List (Str × Addr)) (pm cv ctv : Value), bindArgs (PySem.W.kla_fn "<lambda>" q params body scope cl pm cv ctv) ⟨[], []⟩ = pure [])
    (hbody : ∀ (A : Around) (outer : List Env) (s : Shared) (H : Hp) (E : XK) (f c' : Addr), Room k (A.deeper (lamEnv X scope s.heap.objs.size f c')) → PE (lamCx X A outer s H E scope f c') body (t E))
    (hdb : (x == ("__debug__" : Str)) = false := by decide) (hd : (a == ("__debug__" : Str)) = false := by decide) (hcd : (a == ("__classdict__" : Str)) = false := by decide) :
    PE X (.Call (.Name x p) [.Lambda params body scope lpos] [] pos) (tLamM P (X.env.qual ++ "<lambda>") TT t) := by
  refine ⟨fun pins s σ H Q I h => ?_⟩
  obtain ⟨ps, hP, hT, h0, h1⟩ := h
  have given : ∀ (f c' : Addr) (s' : Shared) (H1 : Hp), Inv X pins σ H1 s' → LamAt X H1 s' params body scope f c' → TT (fun E H' Q' => t E σ H' Q') H1 Q → wpAny (model X.prog X.w) X.A (call (.ref g) [.ref f]) (EP X pins σ Q) X.xe s' := by
    intro f c' s' H1 I1 la ht
    obtain ⟨⟨pm', ctv, hf⟩, hfn, hfr, hco⟩ := la
    have rc : codeAny (model X.prog X.w) X.A (.call (.ref g) ⟨[.ref f], []⟩) (CR C8.CX0 X.stack X.prog X.w H1 s' Q C8.E0) s' := by
      refine LamX.run_ofS (N := Ng) (ps := [a]) (us := [.ref f]) (vs := [.ref f]) lk hcg Sg hr I1.env0 (hb s' [.ref f] I1.kIn rfl) (.cons rfl .nil) rfl fun hr' => ?_
      have act := fun (W : WX) (pn : List (Addr × Obj)) (xe : Value → Shared → Prop) (E : XK) (p1 p2 : Pos) tk hW => LamX.pe_act (Ng := Ng) (qg := x) (sg := sg) (cdg := cdv) (CXg := C8.CX0) (Eg := C8.E0) (g := g) (k := k) (a := a) (pn := pn) (xe := xe) (W := W) (E := E) (tb := t E) (p1 := p1) (p2 := p2) (i := 0) I1 L hf hfn hfr (hbind _ _ _ _ _) tk hW hr' (fun A outer s H hr2 => hbody A outer s H E f c' hr2) hNg hva hd hcd
      obtain ⟨t', ht', hq'⟩ := hG f c' s' H1 Q (fun E H' Q' => t E σ H' Q') act hco ht
      exact ⟨t', ht'.nox, hq'⟩
    refine wpAny_call (codeAny_mono rc fun r s2 hq => ?_)
    match r, hq with
    | .ok (.ret u), hq => exact I1.after hq
    | .ok .next, hq => exact False.elim hq
    | .ok .brk, hq => exact False.elim hq
    | .ok .cont, hq => exact False.elim hq
    | .error e, hq => exact False.elim hq
  refine wpAny_Call_Name_kw (ld_glob I hg hm ?_ hdb)
  refine PySem.W.callWith_K (h₀ := X.base) I.ok.mod.kin hk ?_ (by rfl) (by rfl)
  show wpAny _ _ (spliced ((false, eval (.Lambda params body scope lpos) X.env) :: backTo pos (starEach [] X.env))) _ _ s
  exact Calls.spliced_cons (lam_eval I TB hcode hP hT hdef (L.has I.ok) (fun f c' s' I1 la => Calls.spliced_nil ⟨I1.kIn, given f c' s' H I1 la h0⟩) fun f c' s' hc I1 la => Calls.spliced_nil ⟨I1.kIn, given f c' s' _ I1 la (h1 c' lpos hc)⟩)
end
end K13
namespace K13
open PySem PySem.Spec PyProof.Rows L2
open Evl (Ex fresh_back ex_l ex_t)
open LamX (GivesTo TabB CodeO LamS lamEnv lamCx)
/-- what is told of an exception stays told -/
def RXm (Z : RXt) : Prop := ∀ cls d N N', Ex N N' → Z cls d N → Z cls d N'
theorem bare_m {C : Addr} : RXm (zBare C) := fun _ _ _ _ _ h => h
theorem num_m {C : Addr} {f : Str} {n : Int} : RXm (zNum C f n) := fun _ _ _ _ e h => by
  obtain ⟨h1, dd, h2, h3⟩ := h
  exact ⟨h1, dd, h2, e _ _ h3⟩
/-- a kept exception -/
def kx (Z : RXt) (m : RXm Z) : GV := .k (fun _ N v => ∃ a cls d, v = .ref a ∧ N a = some (exT cls d a) ∧ Z cls d N) fun _ _ _ _ e h => by
  obtain ⟨a, cls, d, h1, h2, h3⟩ := h
  exact ⟨a, cls, d, h1, e _ _ h2, m _ _ _ _ e h3⟩
/-- what a lambda's body does: an end as it should be (where Rn), or an exception as Z tells -/
def LM (K : PySem.W.Frag) (L : SH) (G : Gm) (t : XK → TE) (Rn : Prop) (Z : RXt) : Prop := ∀ (E : XK) σ N H, En K L G σ N H → Ex N H → ∀ Q : VK, (Rn → ∀ v N' H', Nw N H N' H' → Q v H') → (∀ cls d N' H', Nw N H N' H' → Z cls d N' → E cls d H') → t E σ H Q
theorem putL_same {p : Addr} {o : MO} : ∀ {L : SH}, (keysH L).Nodup → (p, o) ∈ L → putL p o L = L
  | [], _, h => by cases h
  | (q, u) :: r, nd, h => by
    have nd' : q ∉ keysH r ∧ (keysH r).Nodup := by simpa [keysH] using nd
    unfold putL
    rcases List.mem_cons.mp h with e | e
    · cases e
      rw [if_pos rfl]
    · have hne : q ≠ p := fun z => nd'.1 (by rw [z]; exact mem_keys e)
      rw [if_neg hne, putL_same nd'.2 e]
section
variable {K : PySem.W.Frag} {L : SH} {G : Gm} {te ta tb : TE} {tr : TA} {R : GV → SH → Prop} {Z : RXt} {Rn : Prop} {t t1 t2 : XK → TE} {ds : List PyData} {d : PyData}
theorem lm_ex (h : ∀ E, EX K L G E (t E) Z) : LM K L G t False Z := fun E σ N H n ex Q _ q => h E σ N H n ex Q q
theorem lm_eg (h : ∀ E, EG K L G (t E) d) : LM K L G t True (fun _ _ _ => False) := fun E σ N H n ex Q q _ => h E σ N H n ex Q fun v N' H' w _ => q trivial v N' H' w
theorem lm_l (h : LM K L G t1 Rn Z) : LM K L G (fun E σ H Q => t1 E σ H Q ∨ t2 E σ H Q) Rn Z := fun E σ N H n ex Q q1 q2 => .inl (h E σ N H n ex Q q1 q2)
theorem lm_r (h : LM K L G t2 Rn Z) : LM K L G (fun E σ H Q => t1 E σ H Q ∨ t2 E σ H Q) Rn Z := fun E σ N H n ex Q q1 q2 => .inr (h E σ N H n ex Q q1 q2)
/-- _law_caught(lambda: ..) -/
theorem em_caught {P CT : Addr} {q : Str} {m : RXm Z} (hL : (P, TbS q) ∈ L) (h : LM K L G t Rn Z) (hz : ∀ cls d N, Z cls d N → PySem.W.exmOne K cls (.ref CT) = some true) (r1 : Rn → R (.d .none) L) (r2 : (∃ cls d N, Z cls d N) → R (kx Z m) L) : EM K L G (tLamM P q (TTk K CT) t) R := fun σ N H n ex Q qq => by
  obtain ⟨nP, _, hP, ps, rfl, tn⟩ := n.ms.at_ _ _ hL
  have go : ∀ {N1 H1 : Hp}, Tr L N H L N1 H1 → En K L G σ N1 H1 → TTk K CT (fun E H' Q' => t E σ H' Q') H1 Q := by
    intro N1 H1 t1 n1
    refine h _ σ N1 H1 n1 t1.b _ (fun rn v N2 H2 w2 => qq .non (.d .none) L N2 H2 (t1.trans (.of w2)) (n1.ms.step w2) .non (r1 rn)) fun cls d N2 H2 w2 z => ⟨hz _ _ _ z, fun a ha => ?_⟩
    have wa : Nw N2 H2 (upd N2 a (exT cls d a)) (upd H2 a (exT cls d a)) := .new w2.b ha exT_nt
    exact qq (.ref a) (kx Z m) L _ _ (t1.trans (.of (w2.trans wa))) (n1.ms.step (w2.trans wa)) ⟨a, cls, d, rfl, upd_same, m _ _ _ _ wa.a z⟩ (r2 ⟨_, _, _, z⟩)
  refine ⟨ps, hP, tn.mono ex, go (.refl ex) n, fun c pos hc => ?_⟩
  have wc : Nw N H (upd N c (CodeO c q)) (upd H c (CodeO c q)) := .new ex hc codeO_nt
  have mc := n.ms.step wc
  have hP2 : upd H c (CodeO c q) P = some (.tbl ps) := wc.c _ _ hP
  have tp := Tr.put (o := TbS q) (u := .tbl (ps ++ #[rawInt pos.line, rawInt pos.col, .ref c])) mc wc.b hL
  have mp := mc.put (o := TbS q) (u := .tbl (ps ++ #[rawInt pos.line, rawInt pos.col, .ref c])) hL ⟨_, upd_same, _, rfl, tn.snoc (fresh_back ex hc)⟩
  rw [putL_same n.ms.nd hL] at tp mp
  exact go ((Tr.of wc).trans tp) ⟨n.nm.mono wc.a, mp⟩
/-- isinstance of a kept exception -/
theorem em_isKx {C : Addr} {b : Bool} {m : RXm Z} {Ra : List GV → SH → Prop} (h : AM K L G tr Ra) (hz : ∀ cls d N, Z cls d N → cls = .ref C ∧ (d = none ∨ ∃ dd fs, d = some dd ∧ N dd = some (.xd fs))) (hc : ExcC K C) (hk : PySem.W.kitOne K (.ref C) (.ref C) = some b)
    (hr : ∀ gs L1, Ra gs L1 → gs = [kx Z m, .r C] ∧ R (.d (.bool b)) L1) : EM K L G (tCB (rIsT K) tr) R := fun σ N H n ex Q q =>
  h σ N H n ex _ fun vs gs L1 N1 H1 t1 m1 k1 r => by
    obtain ⟨rfl, rr⟩ := hr _ _ r
    cases k1 with
    | cons a1 a2 =>
    cases a2 with
    | cons b1 b2 =>
    cases b2
    obtain ⟨a, cls, d, rfl, hN, z⟩ := a1
    obtain ⟨rfl, hd⟩ := hz _ _ _ z
    obtain rfl := (show _ = V.ref C from b1)
    refine (⟨a, C, d, .ref C, .ref C, b, rfl, t1.b _ _ hN, ?_, hc, fun u hu => hu, hk, q _ (.d (.bool b)) L1 N1 H1 t1 m1 (.bl b) rr⟩ : rIsT K _ H1 Q)
    rcases hd with rfl | ⟨dd, fs, rfl, hdd⟩
    · exact .inl rfl
    · exact .inr ⟨dd, fs, rfl, t1.b _ _ hdd⟩
theorem eg_isKx {C : Addr} {b : Bool} {m : RXm Z} (h : EV K L G te (kx Z m)) (hz : ∀ cls d N, Z cls d N → cls = .ref C ∧ (d = none ∨ ∃ dd fs, d = some dd ∧ N dd = some (.xd fs))) (hc : ExcC K C) (hk : PySem.W.kitOne K (.ref C) (.ref C) = some b) :
    EG K L G (tCB (rIsT K) (tCons te (tCons (tC (.ref C)) tNil))) (.bool b) := fun σ N H n ex Q q =>
  h σ N H n ex _ fun v N1 H1 w1 k1 => by
    obtain ⟨a, cls, d, rfl, hN, z⟩ := k1
    obtain ⟨rfl, hd⟩ := hz _ _ _ z
    refine (⟨a, C, d, .ref C, .ref C, b, rfl, w1.b _ _ hN, ?_, hc, fun u hu => hu, hk, q _ N1 H1 w1 (.bl b)⟩ : rIsT K _ H1 Q)
    rcases hd with rfl | ⟨dd, fs, rfl, hdd⟩
    · exact .inl rfl
    · exact .inr ⟨dd, fs, rfl, w1.b _ _ hdd⟩
theorem num_is {C : Addr} {f : Str} {i : Int} (cls : Value) (d : Option Addr) (N : Hp) (h : zNum C f i cls d N) : cls = .ref C ∧ (d = none ∨ ∃ dd fs, d = some dd ∧ N dd = some (.xd fs)) := by
  obtain ⟨h1, dd, h2, h3⟩ := h
  exact ⟨h1, .inr ⟨dd, _, h2, h3⟩⟩
/-- e.f of a kept exception with one field -/
theorem eg_xk {C : Addr} {f : Str} {i : Int} (h : EV K L G te (kx (zNum C f i) num_m)) (hx : XfC K C) (hf : PySem.W.findIn K (.ref C) f = some none) : EG K L G (tXk K f te) (.int i) := fun σ N H n ex Q q =>
  h σ N H n ex _ fun v N1 H1 w1 k1 => by
    obtain ⟨a, cls, d, rfl, hN, rfl, dd, rfl, hdd⟩ := k1
    refine ⟨a, C, dd, _, .int i, rfl, w1.b _ _ hN, hx, hf, w1.b _ _ hdd, ?_, q _ N1 H1 w1 (.int i)⟩
    simp [List.lookup]
/-- a kept exception is not None -/
theorem eg_kxN {m : RXm Z} (h : EV K L G te (kx Z m)) : EG K L G (tOp (fun x y H Q => y = .non ∧ Q (.bl (decide (x = .non))) H) te (tC .non)) (.bool false) := fun σ N H n ex Q q =>
  h σ N H n ex _ fun v N1 H1 w1 k1 => by
    obtain ⟨a, cls, d, rfl, _, _⟩ := k1
    exact ⟨rfl, q _ N1 H1 w1 (.bl false)⟩
end
section
variable {X : Cx} {A : Around} {outer : List Env} {s : Shared} {H : Hp} {E : XK} {scope : Scope} {f c' : Addr} {params : Arguments} {body : Expr} {t : XK → TE} {p1 lpos pos : Pos} {k j : Nat}
theorem takesL : Takes (lamCx X A outer s H E scope f c') (fun cls d _ H => E cls d H) := takes_of rfl rfl rfl rfl
theorem pe_caught (T : Tx X.w X.K X.mg X.base) {p : He.Defn} (hp : p ∈ tf) (hcode : X.env.code = .ref (He.cT X.K p).1) (hr : Room j X.A) (hk : k + 2 ≤ j) (hg : Gl X "_law_caught") (L : LamS X.env.scope scope) (hdef : defaultsOf params X.env = ([], []))
    (hbind : ∀ (q : Str) (cl : List (Str × Addr)) (pm cv ctv : Value), bindArgs (PySem.W.kla_fn "<lambda>" q params body scope cl pm cv ctv) ⟨[], []⟩ = pure [])
    (hbody : ∀ (A : Around) (outer : List Env) (s : Shared) (H : Hp) (E : XK) (f c' : Addr), Room k (A.deeper (lamEnv X scope s.heap.objs.size f c')) → PE (lamCx X A outer s H E scope f c') body (t E)) :
    PE X (.Call (.Name "_law_caught" p1) [.Lambda params body scope lpos] [] pos) (tLamM (He.cT X.K p).2 (X.env.qual ++ "<lambda>") (TTk X.K (He.ga X.K "TapError")) t) := by
  obtain ⟨fd, F⟩ := T.d__law_caught
  obtain ⟨oc, od, dV, kV, doc, pm, an, cdv, ct, osl, rfl, lk, hcd, hD, hK⟩ := F.ex
  obtain ⟨u, g1, g2⟩ := T.c_TapError
  obtain rfl : u = _ := g2
  exact pe_lamM (Ng := N_caught) (a := "_law_action") hg T.g__law_caught F.kp lk hcd (F.bindsN fun _ _ _ _ _ _ us hl => match us, hl with | [_], _ => rfl) sc_caught rfl (.inl rfl) (caught_gives g1) (T.tb p hp) hcode (hr.mono hk) L hdef hbind hbody
end
section
variable {P : Program} {w : World} {K : PySem.W.Frag} {mg : Str → Option Value} {base : Heap} {x qual : Str} {st : Stmt} {N ps : List Str} {k : Nat} {f : Addr}
/-- a def that changes objects, its code object known -/
theorem fn_mutC {R : List GV → SH → (GV → SH → Prop) → Prop} {fd : FuncData} (F : FunD K x x (defArgs st) (defBody st) (defScope st) [] [] (He.ga K x) fd) (S : FnScope N ps (defScope st)) (len : ∀ gs L Z, R gs L Z → gs.length = ps.length)
    (hbody : ∀ (A : Around) (outer : List Env) (s : Shared) (H : Hp) (E : XK) (gs : List GV) (L : SH) (Z : GV → SH → Prop), Room k (A.deeper (envOfC x (defScope st) s.heap.objs.size (He.ga K x) (.ref (He.cT K (x, none)).1))) → R gs L Z →
      ∃ t, PSs (cxOf CX0 P w K mg base N x (defScope st) (He.ga K x) (.ref (He.cT K (x, none)).1) A outer s H E).nox (defBody st) t ∧ BM K L (gs.map some ++ List.replicate (N.length - gs.length) none) t Z) : FnOk P w K mg base CX0 (k + 1) (He.ga K x) fd ps (spM K R) := by
  obtain ⟨oc, od, dV, kV, doc, pm, an, cdv, ct, osl, rfl, lk, hcd, hD, hK⟩ := F.ex
  have hc : cdv = .ref (He.cT K (x, none)).1 := by
    obtain ⟨c, rfl⟩ := He.codeIn_ref hcd
    have : He.codeOf K (x, none) = c := He.codeOf_eq lk rfl
    rw [show (He.cT K (x, none)).1 = He.codeOf K (x, none) from rfl, this]
  subst hc
  have len' : ∀ vs H Q E, spM K R vs H Q E → vs.length = ps.length := fun vs H Q E h => by
    obtain ⟨gs, L, N1, Z, _, h1, _, h2, _⟩ := h
    rw [wds_len h1]
    exact len _ _ _ h2
  refine fn_of lk hcd S len' fun A outer s H vs Q E hr h => ?_
  obtain ⟨gs, L, N1, Z, ex, h1, ms, h2, q⟩ := h
  obtain ⟨t, p1, p2⟩ := hbody A outer s H E gs L Z hr h2
  have hl : gs.length ≤ N.length := by
    rw [len _ _ _ h2]
    have := congrArg List.length S.pre
    rw [List.length_take] at this
    omega
  exact ⟨t, p1.nox, p2 (L2.start N vs) N1 H _ ⟨En0.startW h1 hl, ms⟩ ex q fun σ' L' N' H' t' m' r => q .non (.d .none) L' N' H' t' m' .non r⟩
theorem cl_mutC {R : List GV → SH → (GV → SH → Prop) → Prop} (d : ∃ fd, FunD K x x (defArgs st) (defBody st) (defScope st) [] [] (He.ga K x) fd) (hm : mg x = some (.ref (He.ga K x))) (S : FnScope N ps (defScope st)) (len : ∀ gs L Z, R gs L Z → gs.length = ps.length)
    (hb : ∀ (kV doc pm : Value) (an : Option Addr) (cdv ct : Value) (us : List Value), us.length = ps.length → bindArgs (PySem.W.fnOf x x (defArgs st) (defBody st) (defScope st) .none kV doc pm an cdv ct) ⟨us, []⟩ = pure (ps.zip us))
    (hbody : ∀ (A : Around) (outer : List Env) (s : Shared) (H : Hp) (E : XK) (gs : List GV) (L : SH) (Z : GV → SH → Prop), Room k (A.deeper (envOfC x (defScope st) s.heap.objs.size (He.ga K x) (.ref (He.cT K (x, none)).1))) → R gs L Z →
      ∃ t, PSs (cxOf CX0 P w K mg base N x (defScope st) (He.ga K x) (.ref (He.cT K (x, none)).1) A outer s H E).nox (defBody st) t ∧ BM K L (gs.map some ++ List.replicate (N.length - gs.length) none) t Z) : Cl P w K mg base CX0 (k + 1) x (spM K R) := by
  obtain ⟨fd, F⟩ := d
  exact ⟨fd, ps, fn_mutC F S len hbody, hm, F.kp, F.bindsN hb⟩
end
end K13
namespace K13
open PySem PySem.Spec PyProof.Rows L2
open Evl (Ex fresh_back ex_l ex_t)
open LamX (GivesTo TabB CodeO LamS lamEnv lamCx)
/-- one step of reading an expression's worth -/
local macro_rules | `(tactic| walk_at "eg1") => `(tactic| first
  | exact eg_var rfl | exact eg_int | exact eg_str | exact eg_bl | exact eg_non | exact tg_yes | exact og_none
  | apply og_some
  | apply tg_test | apply tg_B | apply tg_not | apply eg_notV | apply eg_neg
  | apply eg_isi
  | apply eg_ixT | apply eg_ixL
  | apply eg_cmp | apply eg_i0 | apply eg_ic
  | apply eg_op (hr := rg_eqI) | apply eg_op (hr := rg_eqS) | apply eg_op (hr := rg_neI) | apply eg_op (hr := rg_neS)
  | apply eg_cb (hr := cg_gcd)
  | exact (rfl : atI _ _ = _) | exact (rfl : kitB _ _ = _)
  | exact ag_nil | apply ag_cons
  | exact (by assumption : EG _ _ _ _ _) | apply eg_tup | apply eg_lst | exact Nat.le_of_ble_eq_true rfl)
local macro_rules | `(tactic| walk_at "eg") => `(tactic| repeat' walk_at "eg1")
section
variable {P : Program} {w : World} {K : PySem.W.Frag} {mg : Str → Option Value} {base : Heap} {L : SH} {G : Gm} {te ta tb tl : TE} {tr : TA} {R : GV → SH → Prop}
def P__law_is_truth (ds : List PyData) (d : PyData) : Prop := ∃ a b, ds = [.bool a, .bool b] ∧ d = .bool (decide (a = b))
abbrev s__law_is_truth : Stmt := top 65
abbrev N__law_is_truth : List Str := ["_law_found", "_law_due"]
theorem sc__law_is_truth : FnScope N__law_is_truth ["_law_found", "_law_due"] (defScope s__law_is_truth) := C8.fnScope_by (by decide +kernel)
theorem ok__law_is_truth (T : Tx w K mg base) : Cl P w K mg base CX0 1 "_law_is_truth" (spD K fun ds d => ds.length = 2 ∧ P__law_is_truth ds d) := cl_pure T.d__law_is_truth T.g__law_is_truth sc__law_is_truth (fun _ _ h => h.1) (fun _ _ _ _ _ _ us hl => match us, hl with | [_, _], _ => rfl) fun cdv A outer s H E ds d hr h => ⟨_,
  (pss_one (ps_ret (pe_ifExp (pt_val (pv 1)) (pe_cmpR op_isBl (pv 0) pe_bl (nomark _)) (pe_cmpR op_isBl (pv 0) pe_bl (nomark _))))), by
  replace h := h.2
 
  obtain ⟨a, b, rfl, rfl⟩ := h
  cases b with
  | true => exact bg_ret (eg_if (b := true) (tg_test (eg_var rfl)) (fun _ => eg_op (eg_var rfl) eg_bl rg_isB) fun z => by cases z)
  | false => exact bg_ret (eg_if (b := false) (tg_test (eg_var rfl)) (fun z => by cases z) fun _ => eg_op (eg_var rfl) eg_bl rg_isB)⟩
end
/-- where the code object of a lambda in the def is told -/
abbrev lamQ (x : Str) : Str := (x ++ ".<locals>.") ++ "<lambda>"
abbrev tabL (K : PySem.W.Frag) (x : Str) : Addr × MO := (tabA K x, TbS (lamQ x))
section
variable {K : PySem.W.Frag} {L : SH} {G : Gm} {te : TE} {tr : TA} {E : XK} {i : Nat} {f : Addr} {ds : List PyData} {d z : PyData} {Z : RXt}
theorem eg_callLK {R : List PyData → PyData → Prop} (hi : G[i]? = some (some (.r f))) (h : EG K L G te d) (hR : R [d] z) : EG K L G (tCallLK i f (spD K R) E te) z := fun σ N H n ex Q q => by
  obtain ⟨v, e1, e2⟩ := n.nm.2 _ _ hi
  obtain rfl : v = V.ref f := e2
  exact ⟨e1, h σ N H n ex _ fun v N1 H1 w1 k1 => ⟨[d], z, N1, w1.b, .cons k1 .nil, hR, fun u N2 H2 w2 k2 => q u N2 H2 (w1.trans w2) k2⟩⟩
theorem ex_callL {R : List PyData → RXt → Prop} (hi : G[i]? = some (some (.r f))) (h : AG K L G tr ds) (hR : R ds Z) : EX K L G E (tCallL i f (spX K R) [] E tr) Z := fun σ N H n ex Q q => by
  obtain ⟨v, e1, e2⟩ := n.nm.2 _ _ hi
  obtain rfl : v = V.ref f := e2
  exact ⟨e1, h σ N H n ex _ fun vs N1 H1 w1 k1 => ⟨ds, N1, Z, w1.b, by rw [List.append_nil]; exact k1, hR, fun cls d N2 H2 w2 => q cls d N2 H2 (w1.trans w2)⟩⟩
end
section
variable (P : Program) (w : World) (K : PySem.W.Frag) (mg : Str → Option Value) (base : Heap)
/-- a def that turns the net a into b; one that refuses a -/
def DoorN (x : Str) (a b : PyData) : Prop := ∃ fd R, FnOk P w K mg base CX0 8 (He.ga K x) fd ["net"] (spD K R) ∧ PySem.W.keepIn K (.ref (He.ga K x)) = true ∧ (∀ (s : Shared) (u : Value), K.In s.heap → BindsTo s fd ⟨[], [("net", u)]⟩ [("net", u)]) ∧ R [a] b
def DoorX (x : Str) (a : PyData) : Prop := ∃ R, Cl P w K mg base (L2.CX P w) 8 x (spX K R) ∧ R [a] (zB K)
def P__law_an_turned_right (as : List GV) (L : SH) (Z : GV → SH → Prop) : Prop := ∃ (x : Str) (xs : List Str) (ps : List Part) (due : PyData), NetOk xs ps ∧ (placesF xs ps).length ≤ 10 ∧ as = [.r (He.ga K x), .d (netD xs ps), .d due] ∧ L = [tabL K "_law_an_turned_right"] ∧
  Z = (fun g L' => g = .d (.bool true) ∧ ∃ L0, L' = L0 ++ L) ∧ ((due = .none ∧ DoorX P w K mg base x (netD xs ps)) ∨ ∃ qs, due = .tuple (qs.map partD) ∧ NetOk xs qs ∧ (∀ S, cutN (loadF 12) S qs = cutN (loadF 12) S ps) ∧ DoorN P w K mg base x (netD xs ps) (netD xs qs))
end
section
variable {P : Program} {w : World} {K : PySem.W.Frag} {mg : Str → Option Value} {base : Heap}
abbrev s__law_an_turned_right : Stmt := top 90
abbrev N__law_an_turned_right : List Str := ["_law_door", "_law_net_here", "_law_due", "_law_own", "_law_told", "_law_group"]
theorem sc__law_an_turned_right : FnScope N__law_an_turned_right ["_law_door", "_law_net_here", "_law_due"] (defScope s__law_an_turned_right) := C8.fnScope_by (by decide +kernel)
theorem ok__law_an_turned_right (T : Tx w K mg base) (Y : Xs P K) : Cl P w K mg base CX0 11 "_law_an_turned_right" (spM K fun gs L Z => gs.length = 3 ∧ P__law_an_turned_right P w K mg base gs L Z) := cl_mutC T.d__law_an_turned_right T.g__law_an_turned_right sc__law_an_turned_right (fun _ _ _ h => h.1) (fun _ _ _ _ _ _ us hl => match us, hl with | [_, _, _], _ => rfl) fun A outer s H E gs L Z hr h => by
  obtain ⟨_, x, xs, ps, due, n, hp, rfl, rfl, rfl, h⟩ := h
  rcases h with ⟨rfl, RX, ⟨fd, pl, F, hm, hk, hb⟩, hR⟩ | ⟨qs, rfl, m, hc, fd, RD, F, hk, hb, hR⟩
  · refine ⟨_, pss_cons (ps_if (pt_cmpR op_isN (pv 2) pe_non (nomark _))
    (pss_one (ps_ret (pe_callB (call_isT K rfl) (by rfl) T.n_isinstance bt_isinstance (pa_cons (pe_caught (k := 8) T (p := ("_law_an_turned_right", none)) (by decide) rfl hr (by decide) (by rfl) (LamX.lamS_by (by rfl)) rfl (fun _ _ _ _ _ => rfl) (fun A outer s H E f c hr2 => (pe_callL (i := 0) F hr2 rfl (by exact .inr (.inr rfl)) hk hb .nil (passes_call takesL fun _ _ _ _ h => h) (pa_cons (pv 1) pa_nil)))) (pa_cons (C8.pe_gc (by rfl) T.c_BadNet) pa_nil)))))
    pss_nil) pss_nev, ?_⟩
    refine bm_when (b := true) (tg_test (eg_op (eg_var rfl) eg_non rg_isN)) (fun _ => bm_ret (em_imp (em_isKx (Z := zB K) (m := bare_m) (b := true) (R := fun g L' => g = .d (.bool true) ∧ L' = [tabL K "_law_an_turned_right"]) (am_two (R1 := fun g L' => g = kx (zB K) bare_m ∧ L' = [tabL K "_law_an_turned_right"]) (R2' := fun g g' L' => g = kx (zB K) bare_m ∧ g' = .r (He.ga K "BadNet") ∧ L' = [tabL K "_law_an_turned_right"]) (em_caught (m := bare_m) List.mem_cons_self (lm_ex fun E => ex_callL rfl (ag_cons (eg_var rfl) ag_nil) hR) ?_ (fun z => z.elim) fun _ => ⟨rfl, rfl⟩) ?_) ?_ Y.cB Y.kB ?_) ?_)) (fun _ L' r => by cases r.1) fun z => by cases z
    · rintro _ _ _ ⟨rfl, _⟩
      exact T.exm_BadNet
    · rintro _ _ ⟨rfl, rfl⟩
      refine em_imp (em_ev ev_ref) ?_
      rintro _ _ ⟨rfl, rfl⟩
      exact ⟨rfl, rfl, rfl⟩
    · rintro _ _ _ ⟨rfl, rfl⟩
      exact ⟨rfl, .inl rfl⟩
    · rintro _ _ ⟨_, _, rfl, rfl, rfl, rfl⟩
      exact ⟨rfl, rfl, rfl⟩
    · rintro _ _ ⟨rfl, rfl⟩
      exact ⟨rfl, [], rfl⟩
  · refine ⟨_, pss_cons (ps_if (pt_cmpR op_isN (pv 2) pe_non (nomark _)) (pss_one ps_never) pss_nil) (pss_cons (ps_if (pt_cmpR (op_neDK K rfl hr.units) (pe_callLK (i := 0) F (hr.mono (by decide)) rfl (by first | exact .inl rfl | exact .inr (.inl rfl)) hk hb pass0 (pv 1)) (pe_tup (pa_cons (pe_ix (ix_tupK K rfl) (pv 1) pe_int (fun _ _ => rfl)) (pa_cons (pv 2) pa_nil))) (nomark _))
    (pss_one (ps_ret pe_bl))
    pss_nil)
  (pss_cons (ps_asg (pe_tup (pa_cons (pcl (ok__law_an_fulls T) hr (by decide) pass0 (by rfl) (pa_cons (pv 1) pa_nil)) (pa_cons (pcl (ok_walls T) hr (by decide) pass0 (by rfl) (pa_cons (pe_tup (pa_cons (pe_ix (ix_tupK K rfl) (pv 1) pe_int (fun _ _ => rfl)) (pa_cons (pv 2) pa_nil))) pa_nil)) pa_nil))) (pg_tupK (n := 2) K rfl rfl (pgs_cons (pg_name (i := 3) sc__law_an_turned_right.nd rfl (by first | exact Or.inl rfl | exact Or.inr rfl) (by first | exact .inl rfl | exact .inr rfl)) (pgs_cons (pg_name (i := 4) sc__law_an_turned_right.nd rfl (by first | exact Or.inl rfl | exact Or.inr rfl) (by first | exact .inl rfl | exact .inr rfl)) pgs_nil)) (by rfl) (by rfl)))
  (pss_cons (ps_if (PW.pt (pw_or (pt_cmpR op_eq (pe_callB call_len_dT (by rfl) T.n_len bt_len (pa_cons (pv 4) pa_nil)) pe_int (nomark _)) (pw_or1 (pt_cmpR (op_neDK K rfl hr.units) (pe_lock (pe_lc (own := [("_law_group", 5)]) rfl sc__law_an_turned_right.nd (pi_keys (pv 4)) (blkOk_by (own := [("_law_group", 5)]) (N := N__law_an_turned_right) (sc := defScope s__law_an_turned_right) (by decide +kernel)) (fun _ _ _ _ _ => (pg_name (i := 5) sc__law_an_turned_right.nd rfl (Or.inl rfl))) (fun _ _ _ _ _ => pts_one (pt_cmpR (op_neDK K rfl hr.units) (pe_dget (hu_of hr) (pv 4) (pv 5) (fun _ _ => rfl)) (pe_dget (hu_of hr) (pv 3) (pv 5) (fun _ _ => rfl)) (nomark _))) (fun _ _ _ _ _ => pe_int))) (pe_lst pa_nil) (nomark _)))))
    (pss_one (ps_ret pe_bl))
    pss_nil)
  (pss_one (ps_ret (pcl (ok__law_is_truth T) hr (by decide) pass0 (by rfl) (pa_cons (pcl (ok_alike_nets T) hr (by decide) pass0 (by rfl) (pa_cons (pv 1) (pa_cons (pe_tup (pa_cons (pe_ix (ix_tupK K rfl) (pv 1) pe_int (fun _ _ => rfl)) (pa_cons (pv 2) pa_nil))) pa_nil))) (pa_cons pe_bl pa_nil)))))))), ?_⟩
    obtain ⟨ap, aq, hw⟩ := same_walls n m hc
    obtain ⟨l0, hl0⟩ := first_plain (s := kindF qs) n.taps
    have net0 : ∀ {L : SH} {G : Gm}, G[1]? = some (some (.d (netD xs ps))) → G[2]? = some (some (.d (.tuple (qs.map partD)))) → EG K L G (tTup (tCons (tOp (rIxT K) (tVar 1) (tC (.int 0))) (tCons (tVar 2) tNil))) (netD xs qs) := fun h1 h2 => eg_tup (ag_cons (eg_ixT (d := strsD xs) (eg_var h1) eg_int rfl) (ag_cons (eg_var h2) ag_nil)) (Nat.le_of_ble_eq_true rfl)
    refine bm_when (b := false) (tg_of (tg_test (eg_op (eg_var rfl) eg_non rg_isN)) rfl) (fun z => by cases z) (fun z => by cases z) fun _ => ?_
    refine bm_when (b := false) (tg_of (tg_test (eg_neD (d := netD xs qs) (e := netD xs qs) (eg_callLK rfl (eg_var rfl) hR) (net0 rfl rfl) (net_shaped m) (net_shaped m))) (by rw [net_eqv m]; rfl)) (fun z => by cases z) (fun z => by cases z) fun _ => ?_
    refine bm_seq (sm_two (Ra := fun gs L' => ∃ p p2 am, gs = [.r p, .r p2] ∧ L' = (p2, .dT (wallsG qs aq (plainsF xs (kindF qs)))) :: (p, .dT (wallsG ps am (lotsF xs))) :: [tabL K "_law_an_turned_right"] ∧ ∀ lot ∈ lotsF xs, Least (loadF (comm (widths ps))) xs ps lot (am lot))
      (am_imp (am_two (R1 := fun g L' => ∃ p am, g = .r p ∧ L' = (p, .dT (wallsG ps am (lotsF xs))) :: [tabL K "_law_an_turned_right"] ∧ ∀ lot ∈ lotsF xs, Least (loadF (comm (widths ps))) xs ps lot (am lot))
        (R2' := fun g g' L' => ∃ p p2 am, g = .r p ∧ g' = .r p2 ∧ L' = (p2, .dT (wallsG qs aq (plainsF xs (kindF qs)))) :: (p, .dT (wallsG ps am (lotsF xs))) :: [tabL K "_law_an_turned_right"] ∧ ∀ lot ∈ lotsF xs, Least (loadF (comm (widths ps))) xs ps lot (am lot))
        (em_call (am_av (av_cons (ev_var rfl) av_nil)) ?_) ?_) ?_) ?_) ?_
    · rintro _ _ ⟨rfl, rfl⟩
      refine ⟨[], [tabL K "_law_an_turned_right"], _, .refl _, ⟨rfl, xs, ps, n, hp, rfl, rfl⟩, ?_⟩
      rintro _ _ ⟨p, am, rfl, rfl, ha⟩
      exact ⟨p, am, rfl, rfl, ha⟩
    · rintro _ _ ⟨p, am, rfl, rfl, ha⟩
      refine em_call (am_av (av_cons (ev_d (net0 rfl rfl)) av_nil)) ?_
      rintro _ _ ⟨rfl, rfl⟩
      refine ⟨[], _, _, .refl _, ⟨rfl, xs, qs, aq, m, fun lot hl => (hw lot (plains_sub hl)).2.1, rfl, rfl⟩, ?_⟩
      rintro _ _ ⟨p2, rfl, rfl⟩
      exact ⟨p, p2, am, rfl, rfl, rfl, ha⟩
    · rintro _ _ ⟨_, _, rfl, p, p2, am, rfl, rfl, rfl, ha⟩
      exact ⟨p, p2, am, rfl, rfl, ha⟩
    · rintro _ _ ⟨p, p2, am, rfl, _⟩
      rfl
    rintro _ _ ⟨g, g', rfl, p, p2, am, e, rfl, ha⟩
    cases e
    refine bm_when (b := false) (tg_or (a := false) (b := false) (tg_of (tg_test (eg_op (eg_lenDT (ev_var rfl) List.mem_cons_self) eg_int rg_eqI)) ?_) fun _ => tg_of (tg_test (eg_neD (d := .list []) (e := .list []) (eg_keysNone (p := p2) (p2 := p) rfl rfl List.mem_cons_self (by decide) (Nat.le_of_ble_eq_true rfl) (by decide) (by decide) ?_) (eg_lst ag_nil (Nat.le_of_ble_eq_true rfl)) rfl rfl)) rfl) (fun z => by cases z) (fun z => by cases z) fun _ => ?_
    · refine decide_eq_false fun z => walls_some (ps := qs) (am := aq) hl0 ?_
      exact List.eq_nil_of_length_eq_zero (by omega)
    · rintro kg hkg
      obtain ⟨lot, hl, e⟩ := walls_key hkg
      rw [e]
      have hl' := plains_sub hl
      refine ⟨_, walls_val hl, ?_, numD_shaped _, numD_eqv _⟩
      rw [walls_val hl', (hw lot hl').2.2.2 _ (ha lot hl')]
    refine bm_ret (em_imp (em_eg (eg_call (ag_cons (eg_call (ag_cons (eg_var rfl) (ag_cons (net0 rfl rfl) ag_nil)) ⟨rfl, xs, ps, qs, ap, aq, n, m, fun lot hl => ⟨(hw lot hl).1, (hw lot hl).2.1, (hw lot hl).2.2.1⟩, rfl, rfl⟩) (ag_cons eg_bl ag_nil)) ⟨rfl, true, true, rfl, rfl⟩)) ?_)
    rintro _ _ ⟨rfl, rfl⟩
    exact ⟨rfl, [_, _], rfl⟩
end
end K13
namespace K13
open PySem PySem.Spec PyProof.Rows L2
open Evl (Ex fresh_back ex_l ex_t)
open LamX (GivesTo TabB CodeO LamS lamEnv lamCx)
section
variable {X : Cx}
theorem op_repTK (K : PySem.W.Frag) (h : X.K = K) : OpR X (binaryOp .Mult) (rRepT K) := h ▸ op_repT
theorem cr_sortedTK (K : PySem.W.Frag) (h : X.K = K) (hu : X.A.units + 64 < cLine) : CallR X (.builtin "sorted") (rSortT K) := h ▸ cr_sortedTup hu
end
theorem cg_sortStrsT {K : PySem.W.Frag} {xs : List Str} : CG K (rSortT K) [.tuple (xs.map .str)] (.list ((sortS xs).map .str)) := by
  rw [← sort_strs]
  refine cg_sortTup (PySem.W.AllAlike.of fun a b => rfl) (PySem.W.Sortable.others fun b => ⟨by simp, fun xs => by simp⟩) fun d hd => ?_
  obtain ⟨x, _, rfl⟩ := List.mem_map.mp hd
  show 0 ≤ 8
  decide
theorem rep_data (p : Part) (n : Nat) : (List.replicate ((n : Int)).toNat [partD p]).flatten = (List.replicate n p).map partD := by
  rw [Int.toNat_natCast, List.map_replicate]
  induction n with
  | zero => rfl
  | succ n ih => rw [List.replicate_succ, List.flatten_cons, ih, List.replicate_succ]; rfl
section
variable {P : Program} {w : World} {K : PySem.W.Frag} {mg : Str → Option Value} {base : Heap} {x y : Str} {st : Stmt} {fd : FuncData} {f : Addr} {k : Nat} {R : List PyData → PyData → Prop} {a b : PyData} {xs : List Str} {ps : List Part}
theorem binds_kw (F : FunD K x x (defArgs st) (defBody st) (defScope st) [] [] f fd)
    (h : ∀ (kV doc pm : Value) (an : Option Addr) (cdv ct : Value) (u : Value), bindArgs (PySem.W.fnOf x x (defArgs st) (defBody st) (defScope st) .none kV doc pm an cdv ct) ⟨[], [(y, u)]⟩ = pure [(y, u)]) (s : Shared) (u : Value) : BindsTo s fd ⟨[], [(y, u)]⟩ [(y, u)] := by
  obtain ⟨oc, od, dV, kV, doc, pm, an, cdv, ct, osl, rfl, lk, hcd, hD, hK⟩ := F.ex
  rcases hD with ⟨_, rfl⟩ | ⟨e, _⟩
  · exact .of_eq (h kV doc pm an cdv ct u)
  · exact absurd rfl e
theorem door_leads (T : Tx w K mg base) (n : NetOk xs ps) (hk : kindF ps ≠ "hubs") (hz : (ps.flatMap bothF).length ≤ 200) : DoorN P w K mg base "as_leads" (netD xs ps) (netD xs (ps.flatMap bothF)) := by
  obtain ⟨fd, F, ok⟩ := fk_as_leads (P := P) T
  exact ⟨fd, _, ok, F.kp, fun s u _ => binds_kw F (fun _ _ _ _ _ _ _ => rfl) s u, rfl, xs, ps, n, hk, hz, rfl, rfl⟩
theorem door_hubs (T : Tx w K mg base) (n : NetOk xs ps) (hk : kindF ps ≠ "leads") : DoorN P w K mg base "as_hubs" (netD xs ps) (netD xs (ps.map hubF)) := by
  obtain ⟨fd, F, ok⟩ := fk_as_hubs (P := P) T
  exact ⟨fd, _, ok, F.kp, fun s u _ => binds_kw F (fun _ _ _ _ _ _ _ => rfl) s u, rfl, xs, ps, n, hk, rfl, rfl⟩
theorem door_pipes (T : Tx w K mg base) (n : NetOk xs ps) (hk : kindF ps ≠ "leads") (h3 : ∀ p ∈ ps, p.ends.length ≤ 3) (hz : (ps.flatMap pipesF).length ≤ 200) : DoorN P w K mg base "as_pipes" (netD xs ps) (netD xs (ps.flatMap pipesF)) := by
  obtain ⟨fd, F, ok⟩ := fk_as_pipes (P := P) T
  exact ⟨fd, _, ok, F.kp, fun s u _ => binds_kw F (fun _ _ _ _ _ _ _ => rfl) s u, rfl, xs, ps, n, hk, h3, hz, rfl, rfl⟩
theorem shut_leads (T : Tx w K mg base) (Y : Xs P K) (n : NetOk xs ps) (hk : kindF ps = "hubs") : DoorX P w K mg base "as_leads" (netD xs ps) := ⟨_, okx_as_leads T Y, rfl, xs, ps, n, rfl, .inl ⟨hk, rfl⟩⟩
theorem shut_hubs (T : Tx w K mg base) (Y : Xs P K) (n : NetOk xs ps) (hk : kindF ps = "leads") : DoorX P w K mg base "as_hubs" (netD xs ps) := ⟨_, (okx_as_hubs T Y).mono (by decide), rfl, xs, ps, n, rfl, hk, rfl⟩
theorem shut_pipes (T : Tx w K mg base) (Y : Xs P K) (n : NetOk xs ps) (hk : kindF ps = "leads" ∨ ∃ p ∈ ps, 3 < p.ends.length) : DoorX P w K mg base "as_pipes" (netD xs ps) := ⟨_, (okx_as_pipes T Y).mono (by decide), rfl, xs, ps, n, rfl, .inl ⟨hk, rfl⟩⟩
end
/-- the state of the draws, the two tables, what else was made -/
def LwS (K : PySem.W.Frag) (p gp : Addr) (cs : List Int) (B : Int) (L : SH) : Prop := ∃ gs r t Lg, 0 ≤ t ∧ t ≤ B ∧ L.Perm (tabL K "_law_an_turned_right" :: (tabL K "law" :: (stH p gp gs cs r t ++ Lg)))
section
variable {P : Program} {w : World} {K : PySem.W.Frag} {mg : Str → Option Value} {base : Heap} {L : SH} {G : Gm} {te ta tb : TE} {tr : TA} {E : XK} {p gp : Addr} {cs : List Int} {B : Int} {Ra : List GV → SH → Prop}
theorem LwS.mem (h : LwS K p gp cs B L) : tabL K "law" ∈ L := by
  obtain ⟨_, _, _, _, _, _, hp⟩ := h
  exact hp.mem_iff.mpr (by simp)
/-- the net as it is to be turned at that door -/
def TrOk (P : Program) (w : World) (K : PySem.W.Frag) (mg : Str → Option Value) (base : Heap) (x : Str) (xs : List Str) (ps : List Part) (due : PyData) : Prop := NetOk xs ps ∧ (placesF xs ps).length ≤ 10 ∧
  ((due = .none ∧ DoorX P w K mg base x (netD xs ps)) ∨ ∃ qs, due = .tuple (qs.map partD) ∧ NetOk xs qs ∧ (∀ S, cutN (loadF 12) S qs = cutN (loadF 12) S ps) ∧ DoorN P w K mg base x (netD xs ps) (netD xs qs))
theorem em_turn (h : AM K L G tr Ra) (hR : ∀ gs L1, Ra gs L1 → LwS K p gp cs B L1 ∧ ∃ x xs ps due, gs = [.r (He.ga K x), .d (netD xs ps), .d due] ∧ TrOk P w K mg base x xs ps due) :
    EM K L G (tCall (spM K fun gs L Z => gs.length = 3 ∧ P__law_an_turned_right P w K mg base gs L Z) [] E tr) (fun g L' => g = .d (.bool true) ∧ LwS K p gp cs B L') := em_call h fun gs L1 r => by
  obtain ⟨⟨gs1, r1, t1, Lg, h0, h1, hp⟩, x, xs, ps, due, rfl, n, h10, hd⟩ := hR gs L1 r
  refine ⟨[tabL K "_law_an_turned_right"], tabL K "law" :: (stH p gp gs1 cs r1 t1 ++ Lg), _, hp, ⟨rfl, x, xs, ps, due, n, h10, rfl, rfl, rfl, hd⟩, ?_⟩
  rintro _ _ ⟨rfl, L0, rfl⟩
  refine ⟨rfl, gs1, r1, t1, L0 ++ Lg, h0, h1, ?_⟩
  have e : L0 ++ [tabL K "_law_an_turned_right"] ++ tabL K "law" :: (stH p gp gs1 cs r1 t1 ++ Lg) = L0 ++ ((tabL K "_law_an_turned_right" :: tabL K "law" :: stH p gp gs1 cs r1 t1) ++ Lg) := by simp
  have e2 : (tabL K "_law_an_turned_right" :: (tabL K "law" :: (stH p gp gs1 cs r1 t1 ++ (L0 ++ Lg)))) = (tabL K "_law_an_turned_right" :: tabL K "law" :: stH p gp gs1 cs r1 t1) ++ (L0 ++ Lg) := by simp
  rw [e, e2, ← List.append_assoc, ← List.append_assoc]
  exact List.perm_append_comm.append_right _
theorem em_pickL {ds : List PyData} (h : AM K L G tr Ra) (hR : ∀ gs L1, Ra gs L1 → LwS K p gp cs B L1 ∧ gs = [.r p, .d (.list ds)]) (hB : B ≤ 1000000) (hd : 0 < ds.length ∧ ds.length < 1000000) :
    EM K L G (tCall (spM K fun gs L Z => gs.length = 2 ∧ P__law_pick K gs L Z) [] E tr) (fun g L' => (∃ d ∈ ds, g = .d d) ∧ LwS K p gp cs (B + 1) L') := em_call h fun gs L1 r => by
  obtain ⟨⟨gs1, r1, t1, Lg, h0, h1, hp⟩, rfl⟩ := hR gs L1 r
  refine ⟨stH p gp gs1 cs r1 t1, tabL K "_law_an_turned_right" :: tabL K "law" :: Lg, _, hp.trans ?_, ⟨rfl, p, gp, gs1, cs, r1, t1, ds, h0, by omega, hd.1, hd.2, rfl, rfl, rfl⟩, ?_⟩
  · have : (tabL K "_law_an_turned_right" :: (tabL K "law" :: (stH p gp gs1 cs r1 t1 ++ Lg))) = [tabL K "_law_an_turned_right", tabL K "law"] ++ stH p gp gs1 cs r1 t1 ++ Lg := by simp
    rw [this, show stH p gp gs1 cs r1 t1 ++ tabL K "_law_an_turned_right" :: tabL K "law" :: Lg = stH p gp gs1 cs r1 t1 ++ [tabL K "_law_an_turned_right", tabL K "law"] ++ Lg by simp]
    exact List.perm_append_comm.append_right _
  · rintro _ _ ⟨d, gs2, r2, t2, hd, a, b, rfl, rfl⟩
    refine ⟨⟨d, hd, rfl⟩, gs2, r2, t2, Lg, by omega, by omega, ?_⟩
    rw [show stH p gp gs2 cs r2 t2 ++ tabL K "_law_an_turned_right" :: tabL K "law" :: Lg = stH p gp gs2 cs r2 t2 ++ [tabL K "_law_an_turned_right", tabL K "law"] ++ Lg by simp,
      show (tabL K "_law_an_turned_right" :: (tabL K "law" :: (stH p gp gs2 cs r2 t2 ++ Lg))) = [tabL K "_law_an_turned_right", tabL K "law"] ++ stH p gp gs2 cs r2 t2 ++ Lg by simp]
    exact List.perm_append_comm.append_right _
theorem tr_leads {xs : List Str} {ps : List Part} (T : Tx w K mg base) (Y : Xs P K) (nd : NetD xs ps) : TrOk P w K mg base "as_leads" xs ps (if decide (kindF ps = "hubs") = true then .none else .tuple ((ps.flatMap bothF).map partD)) := by
  have n := nd.net
  have hl := nd.len
  have h2 := len_both ps
  have h8 := nd.pl
  refine ⟨n, by omega, ?_⟩
  by_cases hk : kindF ps = "hubs"
  · rw [if_pos (decide_eq_true hk)]
    exact .inl ⟨rfl, shut_leads T Y n hk⟩
  · rw [if_neg (by rw [decide_eq_false hk]; decide)]
    have hb := kind_hubs n hk
    exact .inr ⟨_, rfl, net_leads n hb (by omega), fun S => cut_leads (no_hub hb), door_leads T n hk (by omega)⟩
theorem tr_hubs {xs : List Str} {ps : List Part} (T : Tx w K mg base) (Y : Xs P K) (nd : NetD xs ps) : TrOk P w K mg base "as_hubs" xs ps (if decide (kindF ps = "leads") = true then .none else .tuple ((ps.map hubF).map partD)) := by
  have n := nd.net
  have h8 := nd.pl
  refine ⟨n, by omega, ?_⟩
  by_cases hk : kindF ps = "leads"
  · rw [if_pos (decide_eq_true hk)]
    exact .inl ⟨rfl, shut_hubs T Y n hk⟩
  · rw [if_neg (by rw [decide_eq_false hk]; decide)]
    have hb := kind_leads hk
    exact .inr ⟨_, rfl, net_hubs n hb, fun S => cut_hubs (anyK_of hb), door_hubs T n hk⟩
def wideP (p : Part) : Bool := decide ((3 : Int) < (p.ends.length : Int))
theorem wide_no {ps : List Part} (h : ps.any wideP = false) : ∀ p ∈ ps, p.ends.length ≤ 3 := fun p hp => by
  have := of_decide_eq_false (Bool.eq_false_iff.mpr (List.any_eq_false.mp h p hp))
  omega
theorem tr_pipes {xs : List Str} {ps : List Part} (T : Tx w K mg base) (Y : Xs P K) (nd : NetD xs ps) : TrOk P w K mg base "as_pipes" xs ps (if (decide (kindF ps = "leads") || ps.any wideP) = true then .none else .tuple ((ps.flatMap pipesF).map partD)) := by
  have n := nd.net
  have hl := nd.len
  have h2 := len_pipes ps
  have h8 := nd.pl
  refine ⟨n, by omega, ?_⟩
  cases hb : decide (kindF ps = "leads") || ps.any wideP with
  | true =>
    rw [if_pos rfl]
    refine .inl ⟨rfl, shut_pipes T Y n ?_⟩
    rcases (Bool.or_eq_true _ _).mp hb with h | h
    · exact .inl (of_decide_eq_true h)
    · obtain ⟨p, hp, h3⟩ := List.any_eq_true.mp h
      have := of_decide_eq_true h3
      exact .inr ⟨p, hp, by omega⟩
  | false =>
    rw [if_neg (by decide)]
    obtain ⟨h0, h1⟩ := Bool.or_eq_false_iff.mp hb
    have hk := of_decide_eq_false h0
    have h3 := wide_no h1
    have hb := kind_leads hk
    exact .inr ⟨_, rfl, net_pipes n hb nd.w6 h3 (by omega), fun S => cut_inpipes hb nd.w6 n.ok h3, door_pipes T n hk h3 (by omega)⟩
theorem tr_fix {xs : List Str} (T : Tx w K mg base) (tx : TapsD xs) : TrOk P w K mg base "as_pipes" xs fixP (.tuple (fixQ.map partD)) := by
  obtain ⟨n, h8⟩ := fix_ok tx.taps tx.hi5
  obtain ⟨m, hc, hk, h3⟩ := fix_turn tx.taps tx.hi5
  refine ⟨n, by omega, .inr ⟨fixQ, rfl, m, hc, ?_⟩⟩
  have := door_pipes (P := P) T n hk h3 (by rw [fix_eq]; decide)
  rw [fix_eq] at this
  exact this
theorem ints_shaped {α : Type} {xs : List α} : SeqAt.shaped (.list (xs.map fun _ => PyData.int 1)) = true := by
  obtain ⟨a, b, _⟩ := okA_map (n := 0) (f := fun _ : α => PyData.int 1) (xs := xs) fun _ _ => okD_int
  unfold SeqAt.shaped
  have h1 : PyData.canLay0 (.list (xs.map fun _ => PyData.int 1)) = true := a
  have h2 : PyData.depth (.list (xs.map fun _ => PyData.int 1)) ≤ 64 := Nat.le_trans (Nat.succ_le_succ b) (by decide)
  rw [h1, decide_eq_true h2]
  rfl
theorem wide_eq {ps : List Part} : (!PyData.eqv (.list ((ps.filter wideP).map fun _ => PyData.int 1)) (.list [])) = ps.any wideP := by
  rw [eqv_nil]
  induction ps with
  | nil => rfl
  | cons p ps ih =>
    rw [List.filter_cons, List.any_cons]
    cases wideP p with
    | true => rfl
    | false => simpa using ih
end
end K13
namespace K13
open PySem PySem.Spec PyProof.Rows L2
open Evl (Ex fresh_back ex_l ex_t)
open LamX (GivesTo TabB CodeO LamS lamEnv lamCx)
/-- one step of reading an expression's worth -/
local macro_rules | `(tactic| walk_at "eg1") => `(tactic| first
  | exact eg_var rfl | exact eg_int | exact eg_str | exact eg_bl | exact eg_non | exact tg_yes | exact og_none
  | apply og_some
  | apply tg_test | apply tg_B | apply tg_not | apply eg_notV | apply eg_neg
  | apply eg_isi
  | apply eg_ixT | apply eg_ixL
  | apply eg_cmp | apply eg_i0 | apply eg_ic
  | apply eg_op (hr := rg_eqI) | apply eg_op (hr := rg_eqS) | apply eg_op (hr := rg_neI) | apply eg_op (hr := rg_neS)
  | apply eg_cb (hr := cg_gcd)
  | exact (rfl : atI _ _ = _) | exact (rfl : kitB _ _ = _)
  | exact ag_nil | apply ag_cons
  | exact (by assumption : EG _ _ _ _ _) | apply eg_tup | apply eg_lst | exact Nat.le_of_ble_eq_true rfl)
local macro_rules | `(tactic| walk_at "eg") => `(tactic| repeat' walk_at "eg1")
def P_law (K : PySem.W.Frag) (as : List GV) (L : SH) (Z : GV → SH → Prop) : Prop := ∃ ns : List Int, ns.length ≤ 1000 ∧ as = [scr ns] ∧ L = [tabL K "_law_an_turned_right", tabL K "law"] ∧ Z = fun g _ => g = .d (.bool true)
abbrev s_law : Stmt := top 91
abbrev N_law : List Str := ["_law_script", "_law_state", "_law_net_here", "_law_leads_due", "_law_hubs_due", "_law_wide", "_law_pipes_due", "_law_caught_here", "_law_many", "_law_word", "_law_parts_here", "_law_ab", "_law_part"]
theorem sc_law : FnScope N_law ["_law_script"] (defScope s_law) := C8.fnScope_by (by decide +kernel)
section
variable {P : Program} {w : World} {K : PySem.W.Frag} {mg : Str → Option Value} {base : Heap}
theorem fn_law (T : Tx w K mg base) (Y : Xs P K) {fd : FuncData} (F : FunD K "law" "law" (defArgs s_law) (defBody s_law) (defScope s_law) [] [] (He.ga K "law") fd) : FnOk P w K mg base CX0 12 (He.ga K "law") fd ["_law_script"] (spM K fun gs L Z => gs.length = 1 ∧ P_law K gs L Z) := fn_mutC F sc_law (fun _ _ _ h => h.1) fun A outer s H E gs L Z hr h => by
  obtain ⟨_, ns, hn, rfl, rfl, rfl⟩ := h
  refine ⟨_, (pss_cons (ps_set (i := 1) sc_law.nd rfl (Or.inl rfl) (pcl (ok__law_begun T) hr (by decide) pass0 (by rfl) (pa_cons (pv 0) pa_nil)))
  (pss_cons (ps_set (i := 2) sc_law.nd rfl (Or.inl rfl) (pcl (ok__law_an_small T) hr (by decide) pass0 (by rfl) (pa_cons (pv 1) (pa_cons pe_int (pa_cons pe_int pa_nil)))))
  (pss_cons (ps_par (i := 9) (j := 10) (by rfl) sc_law.nd rfl rfl (by decide) rfl rfl (pa_cons (pcl (ok__law_an_kind T) hr (by decide) pass0 (by rfl) (pa_cons (pv 2) pa_nil)) (pa_cons (pe_ix (ix_tupK K rfl) (pv 2) pe_int (fun _ _ => rfl)) pa_nil)) (by rfl))
  (pss_cons (ps_set (i := 3) sc_law.nd rfl (Or.inl rfl) (pe_ifExp (pt_cmpR op_eq (pv 9) pe_str (nomark _)) pe_non (pcl (ok__law_an_all_of T) hr (by decide) pass0 (by rfl) (pa_cons (pe_lc (own := [("_law_part", 12)]) rfl sc_law.nd (pi_tup (pv 10)) (blkOk_by (own := [("_law_part", 12)]) (N := N_law) (sc := defScope s_law) (by decide +kernel)) (fun _ _ _ _ _ => (pg_name (i := 12) sc_law.nd rfl (Or.inl rfl))) (fun _ _ _ _ _ => pts_nil) (fun _ _ _ _ _ => (pcl (ok__law_an_in_leads T) hr (by decide) pass0 (by rfl) (pa_cons (pv 12) pa_nil)))) pa_nil))))
  (pss_cons (ps_set (i := 4) sc_law.nd rfl (Or.inl rfl) (pe_ifExp (pt_cmpR op_eq (pv 9) pe_str (nomark _)) pe_non (pe_callTy (call_tupK K rfl) (by rfl) T.n_tuple bt_tuple (pa_cons (pe_lc (own := [("_law_part", 12)]) rfl sc_law.nd (pi_tup (pv 10)) (blkOk_by (own := [("_law_part", 12)]) (N := N_law) (sc := defScope s_law) (by decide +kernel)) (fun _ _ _ _ _ => (pg_name (i := 12) sc_law.nd rfl (Or.inl rfl))) (fun _ _ _ _ _ => pts_nil) (fun _ _ _ _ _ => (pe_tup (pa_cons pe_str (pa_cons (pe_callTy (call_tupK K rfl) (by rfl) T.n_tuple bt_tuple (pa_cons (pcl (ok__law_an_ends T) hr (by decide) pass0 (by rfl) (pa_cons (pv 12) pa_nil)) pa_nil)) (pa_cons (pe_ix (ix_tupK K rfl) (pv 12) (pe_un un_neg pe_int) (fun _ _ => rfl)) pa_nil)))))) pa_nil))))
  (pss_cons (ps_set (i := 5) sc_law.nd rfl (Or.inl rfl) (pe_cmpR (op_neDK K rfl hr.units) (pe_lc (own := [("_law_part", 12)]) rfl sc_law.nd (pi_tup (pv 10)) (blkOk_by (own := [("_law_part", 12)]) (N := N_law) (sc := defScope s_law) (by decide +kernel)) (fun _ _ _ _ _ => (pg_name (i := 12) sc_law.nd rfl (Or.inl rfl))) (fun _ _ _ _ _ => pts_one (pt_cmpR op_gt (pe_callB (call_lenK K rfl) (by rfl) T.n_len bt_len (pa_cons (pcl (ok__law_an_ends T) hr (by decide) pass0 (by rfl) (pa_cons (pv 12) pa_nil)) pa_nil)) pe_int (nomark _))) (fun _ _ _ _ _ => pe_int)) (pe_lst pa_nil) (nomark _)))
  (pss_cons (ps_set (i := 6) sc_law.nd rfl (Or.inl rfl) (pe_ifExp (PW.pt (pw_or (pt_cmpR op_eq (pv 9) pe_str (nomark _)) (pw_or1 (pt_val (pv 5))))) pe_non (pcl (ok__law_an_all_of T) hr (by decide) pass0 (by rfl) (pa_cons (pe_lc (own := [("_law_part", 12)]) rfl sc_law.nd (pi_tup (pv 10)) (blkOk_by (own := [("_law_part", 12)]) (N := N_law) (sc := defScope s_law) (by decide +kernel)) (fun _ _ _ _ _ => (pg_name (i := 12) sc_law.nd rfl (Or.inl rfl))) (fun _ _ _ _ _ => pts_nil) (fun _ _ _ _ _ => (pcl (ok__law_an_in_pipes T) hr (by decide) pass0 (by rfl) (pa_cons (pv 12) pa_nil)))) pa_nil))))
  (pss_cons (ps_if (PW.pt (pw_or (pt_not (pt_val (pcl (ok__law_an_turned_right T Y) hr (by decide) pass0 (by rfl) (pa_cons (pe_glob (v := .ref (He.ga K "as_leads")) (by rfl) T.g_as_leads rfl) (pa_cons (pv 2) (pa_cons (pv 3) pa_nil)))))) (pw_or1 (pt_not (pt_val (pcl (ok__law_an_turned_right T Y) hr (by decide) pass0 (by rfl) (pa_cons (pe_glob (v := .ref (He.ga K "as_hubs")) (by rfl) T.g_as_hubs rfl) (pa_cons (pv 2) (pa_cons (pv 4) pa_nil)))))))))
    (pss_one (ps_ret pe_bl))
    pss_nil)
  (pss_cons (ps_if (pt_not (pt_val (pcl (ok__law_an_turned_right T Y) hr (by decide) pass0 (by rfl) (pa_cons (pe_glob (v := .ref (He.ga K "as_pipes")) (by rfl) T.g_as_pipes rfl) (pa_cons (pv 2) (pa_cons (pv 6) pa_nil))))))
    (pss_one (ps_ret pe_bl))
    pss_nil)
  (pss_cons (ps_if (pt_not (pt_val (pcl (ok__law_an_turned_right T Y) hr (by decide) pass0 (by rfl) (pa_cons (pe_glob (v := .ref (He.ga K "as_pipes")) (by rfl) T.g_as_pipes rfl) (pa_cons (pe_tup (pa_cons (pe_ix (ix_tupK K rfl) (pv 2) pe_int (fun _ _ => rfl)) (pa_cons (pe_tup (pa_cons (pe_tup (pa_cons pe_str (pa_cons (pe_tup (pa_cons pe_str (pa_cons pe_str (pa_cons pe_str pa_nil)))) (pa_cons pe_int pa_nil)))) (pa_cons (pe_tup (pa_cons pe_str (pa_cons pe_str (pa_cons pe_str (pa_cons pe_int pa_nil))))) pa_nil))) pa_nil))) (pa_cons (pe_tup (pa_cons (pe_tup (pa_cons pe_str (pa_cons pe_str (pa_cons pe_str (pa_cons (pe_tup (pa_cons pe_int (pa_cons pe_int pa_nil))) pa_nil))))) (pa_cons (pe_tup (pa_cons pe_str (pa_cons pe_str (pa_cons pe_str (pa_cons (pe_tup (pa_cons pe_int (pa_cons pe_int pa_nil))) pa_nil))))) (pa_cons (pe_tup (pa_cons pe_str (pa_cons pe_str (pa_cons pe_str (pa_cons (pe_tup (pa_cons pe_int (pa_cons pe_int pa_nil))) pa_nil))))) (pa_cons (pe_tup (pa_cons pe_str (pa_cons pe_str (pa_cons pe_str (pa_cons pe_int pa_nil))))) pa_nil))))) pa_nil))))))
    (pss_one (ps_ret pe_bl))
    pss_nil)
  (pss_cons (ps_asg (pe_tup (pa_cons (pe_slice (sl_tupK K rfl) (pe_ix (ix_tupK K rfl) (pv 2) pe_int (fun _ _ => rfl)) po_none (po_some pe_int)) (pa_cons (pcl (ok__law_pick T) hr (by decide) pass0 (by rfl) (pa_cons (pv 1) (pa_cons (pe_lst (pa_cons pe_int (pa_cons pe_int pa_nil))) pa_nil))) pa_nil))) (pg_tupK (n := 2) K rfl rfl (pgs_cons (pg_name (i := 11) sc_law.nd rfl (by first | exact Or.inl rfl | exact Or.inr rfl) (by first | exact .inl rfl | exact .inr rfl)) (pgs_cons (pg_name (i := 8) sc_law.nd rfl (by first | exact Or.inl rfl | exact Or.inr rfl) (by first | exact .inl rfl | exact .inr rfl)) pgs_nil)) (by rfl) (by rfl)))
  (pss_cons (ps_set (i := 7) sc_law.nd rfl (Or.inl rfl) (pe_caught (k := 8) T (p := ("law", none)) (by decide) rfl hr (by decide) (by rfl) (LamX.lamS_by (by rfl)) rfl (fun _ _ _ _ _ => rfl) (fun A outer s H E f c hr2 => (pe_alt (pcl (ok_as_leads T) hr2 (by decide) pass0 (by rfl) (pa_cons (pe_tup (pa_cons (pv 11) (pa_cons (pe_op (op_repTK K rfl) (pe_tup (pa_cons (pe_tup (pa_cons pe_str (pa_cons (pe_ix (ix_tupK K rfl) (pv 11) pe_int (fun _ _ => rfl)) (pa_cons (pe_ix (ix_tupK K rfl) (pv 11) pe_int (fun _ _ => rfl)) (pa_cons pe_int pa_nil))))) pa_nil)) (pv 8)) pa_nil))) pa_nil)) (pcl (okx_as_leads T Y) hr2 (by decide) (passes_call takesL fun _ _ _ _ h => h) (by rfl) (pa_cons (pe_tup (pa_cons (pv 11) (pa_cons (pe_op (op_repTK K rfl) (pe_tup (pa_cons (pe_tup (pa_cons pe_str (pa_cons (pe_ix (ix_tupK K rfl) (pv 11) pe_int (fun _ _ => rfl)) (pa_cons (pe_ix (ix_tupK K rfl) (pv 11) pe_int (fun _ _ => rfl)) (pa_cons pe_int pa_nil))))) pa_nil)) (pv 8)) pa_nil))) pa_nil))))))
  (pss_cons (ps_if (PW.pt (pw_or (pt_cmpR op_ne (pe_cmpR op_isN (pv 7) pe_non (nomark _)) (pe_cmpR op_eq (pv 8) pe_int (nomark _)) (nomark _)) (pw_or1 (PW.pt (pw_and (pt_cmpR op_eq (pv 8) pe_int (nomark _)) (pw_and1 (PW.pt (pw_or (pt_not (pt_val (pe_callB (call_isT K rfl) (by rfl) T.n_isinstance bt_isinstance (pa_cons (pv 7) (pa_cons (C8.pe_gc (by rfl) T.c_TooMany) pa_nil))))) (pw_or1 (pt_cmpR op_ne (pe_xk (pv 7) (by rfl)) pe_int (nomark _)))))))))))
    (pss_one (ps_ret pe_bl))
    pss_nil)
  (pss_cons (ps_set (i := 8) sc_law.nd rfl (Or.inr rfl) (pcl (ok__law_pick T) hr (by decide) pass0 (by rfl) (pa_cons (pv 1) (pa_cons (pe_lst (pa_cons pe_int (pa_cons pe_int pa_nil))) pa_nil))))
  (pss_cons (ps_set (i := 7) sc_law.nd rfl (Or.inl rfl) (pe_caught (k := 8) T (p := ("law", none)) (by decide) rfl hr (by decide) (by rfl) (LamX.lamS_by (by rfl)) rfl (fun _ _ _ _ _ => rfl) (fun A outer s H E f c hr2 => (pe_alt (pcl (ok_as_pipes T) hr2 (by decide) pass0 (by rfl) (pa_cons (pe_tup (pa_cons (pv 11) (pa_cons (pe_op (op_repTK K rfl) (pe_tup (pa_cons (pe_tup (pa_cons pe_str (pa_cons (pe_callTy (call_tupK K rfl) (by rfl) T.n_tuple bt_tuple (pa_cons (pe_callB (cr_sortedTK K rfl hr2.units) (by rfl) T.n_sorted bt_sorted (pa_cons (pe_op (op_catAK K rfl) (pv 11) (pe_tup (pa_cons pe_str pa_nil))) pa_nil)) pa_nil)) (pa_cons pe_int pa_nil)))) pa_nil)) (pv 8)) pa_nil))) pa_nil)) (pcl (okx_as_pipes T Y) hr2 (by decide) (passes_call takesL fun _ _ _ _ h => h) (by rfl) (pa_cons (pe_tup (pa_cons (pv 11) (pa_cons (pe_op (op_repTK K rfl) (pe_tup (pa_cons (pe_tup (pa_cons pe_str (pa_cons (pe_callTy (call_tupK K rfl) (by rfl) T.n_tuple bt_tuple (pa_cons (pe_callB (cr_sortedTK K rfl hr2.units) (by rfl) T.n_sorted bt_sorted (pa_cons (pe_op (op_catAK K rfl) (pv 11) (pe_tup (pa_cons pe_str pa_nil))) pa_nil)) pa_nil)) (pa_cons pe_int pa_nil)))) pa_nil)) (pv 8)) pa_nil))) pa_nil))))))
  (pss_cons (ps_if (pt_cmpR op_eq (pv 8) pe_int (nomark _))
    (pss_one (ps_ret (pe_and (pe_callB (call_isT K rfl) (by rfl) T.n_isinstance bt_isinstance (pa_cons (pv 7) (pa_cons (C8.pe_gc (by rfl) T.c_TooMany) pa_nil))) (pe_one (pe_cmpR op_eq (pe_xk (pv 7) (by rfl)) pe_int (nomark _))))))
    pss_nil)
  (pss_one (ps_ret (pe_cmpR op_isN (pv 7) pe_non (nomark _)))))))))))))))))))), ?_⟩
  generalize hcs : (ns.map fun n => ((n.natAbs : Nat) : Int)) = cs
  refine bm_seq (sm_asg (em_call (R := fun g L' => ∃ p gp gs, g = .r p ∧ L' = stH p gp gs cs 0 0 ++ [tabL K "_law_an_turned_right", tabL K "law"]) (am_av (av_cons (ev_var rfl) av_nil)) ?_)) ?_
  · rintro _ _ ⟨rfl, rfl⟩
    refine ⟨[], _, _, .refl _, ⟨rfl, ns, hn, rfl, rfl, rfl⟩, ?_⟩
    rintro _ _ ⟨p, gp, gs, rfl, rfl⟩
    exact ⟨p, gp, gs, rfl, by rw [hcs]⟩
  rintro _ _ ⟨_, rfl, p, gp, gs0, rfl, rfl⟩
  refine bm_seq (sm_asg (em_call (R := fun g L' => ∃ xs ps, TapsD xs ∧ NetD xs ps ∧ g = .d (netD xs ps) ∧ LwS K p gp cs 200000 L') (am_av (av_cons (ev_var rfl) (av_cons (ev_d eg_int) (av_cons (ev_d eg_int) av_nil)))) ?_)) ?_
  · rintro _ _ ⟨rfl, rfl⟩
    refine ⟨_, [tabL K "_law_an_turned_right", tabL K "law"], _, .refl _, ⟨rfl, p, gp, gs0, cs, 0, 0, by decide, by decide, rfl, rfl, rfl⟩, ?_⟩
    rintro _ _ ⟨xs, ps, tx, nd, rfl, gs', r', t', a, b, rfl⟩
    exact ⟨xs, ps, tx, nd, rfl, gs', r', t', [], by omega, by omega, by rw [List.append_nil]; exact List.perm_append_comm⟩
  rintro _ L1 ⟨_, rfl, xs, ps, tx, nd, rfl, hL⟩
  have n := nd.net
  have hl9 := nd.len
  have hb2 := len_both ps
  have hp3 := len_pipes ps
  refine bm_seq (sm_sg (sg_par (ag_cons (eg_call (ag_cons (eg_var rfl) ag_nil) ⟨rfl, xs, ps, n.len, rfl, rfl⟩) (ag_cons (eg_ixT (d := .tuple (ps.map partD)) (eg_var rfl) eg_int rfl) ag_nil)))) ?_
  rintro _ _ ⟨rfl, rfl⟩
  refine bm_seq (sm_asg (em_eg (eg_ite (b := decide (kindF ps = "hubs")) (tg_test (eg_op (eg_var rfl) eg_str rg_eqS)) (fun _ => eg_non) fun hb => eg_call (ag_cons (eg_lcA (f := fun p => .list ((bothF p).map partD)) (ig_tup (g := partD) (xs := ps) (eg_var rfl)) (by omega) (fun j hj => by simpa using hj) fun q hq => eg_call (ag_cons (eg_var rfl) ag_nil) ⟨rfl, q, no_hub (kind_hubs n (of_decide_eq_false hb)) q hq, rfl, rfl⟩) ag_nil) ⟨rfl, ps.map bothF, by rw [flat_map]; omega, by rw [List.length_map]; omega, by rw [List.map_map]; rfl, rfl⟩))) ?_
  rintro _ _ ⟨_, rfl, rfl, rfl⟩
  rw [flat_map]
  refine bm_seq (sm_asg (em_eg (eg_ite (b := decide (kindF ps = "leads")) (d := .none) (e := .tuple ((ps.map hubF).map partD)) (tg_test (eg_op (eg_var rfl) eg_str rg_eqS)) (fun _ => eg_non) fun hb => eg_of (eg_cb (ag_cons (eg_lcA (f := fun p => partD (hubF p)) (ig_tup (g := partD) (xs := ps) (eg_var rfl)) (by omega) (fun j hj => by simpa using hj) fun q hq => eg_tup (ag_cons eg_str (ag_cons (eg_cb (ag_cons (eg_call (ag_cons (eg_var rfl) ag_nil) ⟨rfl, q, rfl, rfl⟩) ag_nil) cg_tupT) (ag_cons (eg_pZ (eg_var rfl)) ag_nil))) (Nat.le_of_ble_eq_true rfl)) ag_nil) cg_tupL) (by rw [List.map_map]; rfl)))) ?_
  rintro _ _ ⟨_, rfl, rfl, rfl⟩
  refine bm_seq (sm_asg (em_eg (eg_of (eg_neD (d := .list ((ps.filter wideP).map fun _ => .int 1)) (e := .list []) (eg_lc (p := wideP) (f := fun _ => .int 1) (ig_tup (g := partD) (xs := ps) (eg_var rfl)) (by omega) (fun j hj => by simpa using hj) (fun q hq => tg_of (tg_test (eg_cmp (eg_cb (ag_cons (eg_call (ag_cons (eg_var rfl) ag_nil) ⟨rfl, q, rfl, rfl⟩) ag_nil) (cg_lenT (ds := q.ends.map .str))) eg_int)) (by rw [List.length_map]; rfl)) fun q hq _ => eg_int) (eg_lst ag_nil (Nat.le_of_ble_eq_true rfl)) ints_shaped rfl) (congrArg PyData.bool wide_eq)))) ?_
  rintro _ _ ⟨_, rfl, rfl, rfl⟩
  refine bm_seq (sm_asg (em_eg (eg_ite (b := decide (kindF ps = "leads") || ps.any wideP) (tg_or (tg_test (eg_op (eg_var rfl) eg_str rg_eqS)) fun _ => tg_test (eg_var rfl)) (fun _ => eg_non) fun hb => eg_call (ag_cons (eg_lcA (f := fun p => .list ((pipesF p).map partD)) (ig_tup (g := partD) (xs := ps) (eg_var rfl)) (by omega) (fun j hj => by simpa using hj) fun q hq => eg_call (ag_cons (eg_var rfl) ag_nil) ⟨rfl, q, (n.ok q hq).num, len23 (n.ok q hq) (wide_no (Bool.or_eq_false_iff.mp hb).2 q hq), rfl, rfl⟩) ag_nil) ⟨rfl, ps.map pipesF, by rw [flat_map]; omega, by rw [List.length_map]; omega, by rw [List.map_map]; rfl, rfl⟩))) ?_
  rintro _ _ ⟨_, rfl, rfl, rfl⟩
  rw [flat_map]
  refine bm_whenM (Rt := fun b L' => (!b) = true ∧ LwS K p gp cs 200000 L') (tm_or (R1 := fun b L' => (!b) = true ∧ LwS K p gp cs 200000 L')
    (tm_not (R1 := fun b L' => b = true ∧ LwS K p gp cs 200000 L') (tm_val (em_turn (p := p) (gp := gp) (cs := cs) (B := 200000) (am_av (av_cons ev_ref (av_cons (ev_var rfl) (av_cons (ev_var rfl) av_nil)))) ?_) ?_))
    (fun L2 h2 => tm_not (R1 := fun b L' => b = true ∧ LwS K p gp cs 200000 L') (tm_val (em_turn (p := p) (gp := gp) (cs := cs) (B := 200000) (am_av (av_cons ev_ref (av_cons (ev_var rfl) (av_cons (ev_var rfl) av_nil)))) ?_) ?_)) fun L2 h2 => absurd h2.1 (by decide)) (fun L2 h2 => absurd h2.1 (by decide)) (fun L2 h2 => absurd h2.1 (by decide)) fun L2 h2 => ?_
  · rintro _ _ ⟨rfl, rfl⟩
    exact ⟨hL, "as_leads", xs, ps, _, rfl, tr_leads T Y nd⟩
  · rintro _ _ ⟨rfl, h⟩
    exact ⟨true, rfl, rfl, h⟩
  · rintro _ _ ⟨rfl, rfl⟩
    exact ⟨h2.2, "as_hubs", xs, ps, _, rfl, tr_hubs T Y nd⟩
  · rintro _ _ ⟨rfl, h⟩
    exact ⟨true, rfl, rfl, h⟩
  refine bm_whenM (Rt := fun b L' => (!b) = true ∧ LwS K p gp cs 200000 L') (tm_not (R1 := fun b L' => b = true ∧ LwS K p gp cs 200000 L') (tm_val (em_turn (p := p) (gp := gp) (cs := cs) (B := 200000) (am_av (av_cons ev_ref (av_cons (ev_var rfl) (av_cons (ev_var rfl) av_nil)))) ?_) ?_)) (fun L2 h2 => absurd h2.1 (by decide)) (fun L2 h2 => absurd h2.1 (by decide)) fun L3 h3 => ?_
  · rintro _ _ ⟨rfl, rfl⟩
    exact ⟨h2.2, "as_pipes", xs, ps, _, rfl, tr_pipes T Y nd⟩
  · rintro _ _ ⟨rfl, h⟩
    exact ⟨true, rfl, rfl, h⟩
  refine bm_whenM (Rt := fun b L' => (!b) = true ∧ LwS K p gp cs 200000 L') (tm_not (R1 := fun b L' => b = true ∧ LwS K p gp cs 200000 L') (tm_val (em_turn (p := p) (gp := gp) (cs := cs) (B := 200000) (am_av (av_cons ev_ref (av_cons (ev_d (d := netD xs fixP) (eg_tup (ag_cons (eg_ixT (d := strsD xs) (eg_var rfl) eg_int rfl) (ag_cons ?f1 ag_nil)) (Nat.le_of_ble_eq_true rfl))) (av_cons (ev_d (d := .tuple (fixQ.map partD)) ?f2) av_nil)))) ?_) ?_)) (fun L2 h2 => absurd h2.1 (by decide)) (fun L2 h2 => absurd h2.1 (by decide)) fun L4 h4 => ?_
  case f1 =>
    exact eg_tup (ag_cons (eg_tup (ag_cons eg_str (ag_cons (eg_tup (ag_cons eg_str (ag_cons eg_str (ag_cons eg_str ag_nil))) (Nat.le_of_ble_eq_true rfl)) (ag_cons eg_int ag_nil))) (Nat.le_of_ble_eq_true rfl)) (ag_cons (eg_tup (ag_cons eg_str (ag_cons eg_str (ag_cons eg_str (ag_cons eg_int ag_nil)))) (Nat.le_of_ble_eq_true rfl)) ag_nil)) (Nat.le_of_ble_eq_true rfl)
  case f2 =>
    have three : ∀ {a b : Str} {G : Gm} {L : SH}, EG K L G (tTup (tCons (tC (.str "pipe")) (tCons (tC (.str a)) (tCons (tC (.str b)) (tCons (tTup (tCons (tC (.int 3)) (tCons (tC (.int 2)) tNil))) tNil))))) (partD (.arc false a b (3, 2))) := eg_tup (ag_cons eg_str (ag_cons eg_str (ag_cons eg_str (ag_cons (eg_tup (ag_cons eg_int (ag_cons eg_int ag_nil)) (Nat.le_of_ble_eq_true rfl)) ag_nil)))) (Nat.le_of_ble_eq_true rfl)
    exact eg_tup (ag_cons three (ag_cons three (ag_cons three (ag_cons (eg_tup (ag_cons eg_str (ag_cons eg_str (ag_cons eg_str (ag_cons eg_int ag_nil)))) (Nat.le_of_ble_eq_true rfl)) ag_nil)))) (Nat.le_of_ble_eq_true rfl)
  · rintro _ _ ⟨rfl, rfl⟩
    exact ⟨h3.2, "as_pipes", xs, fixP, _, rfl, tr_fix T tx⟩
  · rintro _ _ ⟨rfl, h⟩
    exact ⟨true, rfl, rfl, h⟩
  obtain ⟨x, y, r, hx⟩ : ∃ x y r, xs = x :: y :: r := by
    match xs, tx.taps.lo with
    | x :: y :: r, _ => exact ⟨x, y, r, rfl⟩
  have ab : cutD (xs.map PyData.str) none (some 2) = [.str x, .str y] := by
    rw [hx, show (2 : Int) = ((2 : Nat) : Int) from rfl, cutD_take]
    rfl
  have nx : nameB x = true := tx.taps.nm.ok x (by rw [hx]; simp)
  have ny : nameB y = true := tx.taps.nm.ok y (by rw [hx]; simp)
  have lt : SLt x y := by
    have := tx.taps.nm.asc
    rw [hx] at this
    exact (List.pairwise_cons.mp this).1 y (by simp)
  have qo : ("q" : Str) ∉ [x, y] := fun h => q_out tx (by
    rw [hx]
    simp at h ⊢
    rcases h with h | h <;> simp [h])
  have t2 := taps2 nx ny lt
  obtain ⟨nm3, l3⟩ := three_ok nx ny lt qo
  refine bm_seq (sm_two (Ra := fun gs L' => ∃ v : Int, (v = 100 ∨ v = 101) ∧ gs = [.d (strsD [x, y]), .d (.int v)] ∧ LwS K p gp cs 200001 L') (am_imp (am_two (R1 := fun g L' => g = .d (strsD [x, y]) ∧ L' = L4) (R2' := fun g g' L' => ∃ v : Int, (v = 100 ∨ v = 101) ∧ g = .d (strsD [x, y]) ∧ g' = .d (.int v) ∧ LwS K p gp cs 200001 L') (em_eg (eg_of (eg_slT (ds := xs.map .str) (eg_ixT (d := strsD xs) (eg_var rfl) eg_int rfl) og_none (og_some eg_int)) (by rw [ab]; rfl))) ?_) ?_) ?_) ?_
  · rintro _ _ ⟨rfl, rfl⟩
    refine em_imp (em_pickL (p := p) (gp := gp) (cs := cs) (B := 200000) (ds := [.int 100, .int 101]) (am_av (av_cons (ev_var rfl) (av_cons (ev_d (eg_lst (ag_cons eg_int (ag_cons eg_int ag_nil)) (Nat.le_of_ble_eq_true rfl))) av_nil))) ?_ (by decide) ⟨by decide, by decide⟩) ?_
    · rintro _ _ ⟨rfl, rfl⟩
      exact ⟨h4.2, rfl⟩
    · rintro _ _ ⟨⟨d, hd, rfl⟩, h⟩
      simp at hd
      rcases hd with rfl | rfl
      · exact ⟨100, .inl rfl, rfl, rfl, h⟩
      · exact ⟨101, .inr rfl, rfl, rfl, h⟩
  · rintro _ _ ⟨_, _, rfl, v, hv, rfl, rfl, h⟩
    exact ⟨v, hv, rfl, h⟩
  · rintro _ _ ⟨v, hv, rfl, _⟩
    rfl
  rintro _ L5 ⟨g, g', rfl, v, hv, e, h5⟩
  cases e
  have arcOk : PartOk (.arc false x y (1, 1)) := ⟨nx, ny, num_one, by rw [if_neg (by decide)]; exact lt⟩
  have repA : ∀ n, n ≤ 200 → NetOk [x, y] (List.replicate n (.arc false x y (1, 1))) := fun n hn => rep_net (zs := [x, y]) t2 arcOk (fun z h => h) (show 2 ≤ 10 by decide) hn kd_pipe
  have kA : ∀ n, kindF (List.replicate n (.arc false x y (1, 1))) ≠ "hubs" := fun n => rep_hubs (show ("pipe" : Str) ≠ "hub" by decide)
  refine bm_seq (sm_asg (R := fun g L' => ((v = 100 ∧ g = .d .none) ∨ (v = 101 ∧ g = kx (zM K) num_m)) ∧ LwS K p gp cs 200001 L') ?_) ?_
  · rcases hv with rfl | rfl
    · exact em_caught (Z := fun _ _ _ => False) (m := fun _ _ _ _ _ h => h) h5.mem (lm_l (lm_eg fun E => eg_call (ag_cons (eg_tup (ag_cons (eg_var rfl) (ag_cons (eg_of (eg_op (eg_tup (ag_cons (eg_tup (ag_cons eg_str (ag_cons (eg_ixT (d := .str x) (eg_var (d := strsD [x, y]) rfl) eg_int rfl) (ag_cons (eg_ixT (d := .str y) (eg_var (d := strsD [x, y]) rfl) eg_int rfl) (ag_cons eg_int ag_nil)))) (Nat.le_of_ble_eq_true rfl)) ag_nil) (Nat.le_of_ble_eq_true rfl)) (eg_var rfl) (rg_repT (by simp) (by decide) (by decide) (Nat.le_of_ble_eq_true rfl))) (congrArg PyData.tuple (rep_data (.arc false x y (1, 1)) 100))) ag_nil)) (Nat.le_of_ble_eq_true rfl)) ag_nil) ⟨rfl, [x, y], _, repA 100 (by decide), kA 100, by rw [flat_rep]; exact (show 100 * 2 ≤ 200 by decide), rfl, rfl⟩)) (fun _ _ _ z => z.elim) (fun _ => ⟨.inl ⟨rfl, rfl⟩, h5⟩) fun ⟨_, _, _, z⟩ => z.elim
    · exact em_caught (Z := zM K) (m := num_m) h5.mem (lm_r (lm_ex fun E => ex_call (ag_cons (eg_tup (ag_cons (eg_var rfl) (ag_cons (eg_of (eg_op (eg_tup (ag_cons (eg_tup (ag_cons eg_str (ag_cons (eg_ixT (d := .str x) (eg_var (d := strsD [x, y]) rfl) eg_int rfl) (ag_cons (eg_ixT (d := .str y) (eg_var (d := strsD [x, y]) rfl) eg_int rfl) (ag_cons eg_int ag_nil)))) (Nat.le_of_ble_eq_true rfl)) ag_nil) (Nat.le_of_ble_eq_true rfl)) (eg_var rfl) (rg_repT (by simp) (by decide) (by decide) (Nat.le_of_ble_eq_true rfl))) (congrArg PyData.tuple (rep_data (.arc false x y (1, 1)) 101))) ag_nil)) (Nat.le_of_ble_eq_true rfl)) ag_nil) ⟨rfl, [x, y], _, repA 101 (by decide), rfl, .inr ⟨kA 101, by rw [flat_rep]; exact (show 200 < 101 * 2 by decide), rfl⟩⟩)) (fun cls d N h => h.1 ▸ T.exm_TooMany) (fun z => z.elim) fun _ => ⟨.inr ⟨rfl, rfl⟩, h5⟩
  rintro _ L6 ⟨g7, rfl, hg, h6⟩
  refine bm_when (b := false) ?tg (fun z => by cases z) (fun z => by cases z) fun _ => ?_
  case tg =>
    rcases hg with ⟨rfl, rfl⟩ | ⟨rfl, rfl⟩
    · exact tg_or (a := false) (b := false) (tg_of (tg_test (eg_op (eg_op (eg_var rfl) eg_non rg_isN) (eg_op (eg_var rfl) eg_int rg_eqI) rg_neB)) rfl) fun _ => tg_of (tg_and (a := false) (b := false) (tg_of (tg_test (eg_op (eg_var rfl) eg_int rg_eqI)) rfl) fun z => by cases z) rfl
    · exact tg_or (a := false) (b := false) (tg_of (tg_test (eg_op (eg_kxN (ev_var rfl)) (eg_op (eg_var rfl) eg_int rg_eqI) rg_neB)) rfl) fun _ => tg_of (tg_and (a := true) (b := false) (tg_of (tg_test (eg_op (eg_var rfl) eg_int rg_eqI)) rfl) fun _ => tg_or (a := false) (b := false) (tg_of (tg_not (tg_test (eg_isKx (m := num_m) (ev_var rfl) num_is Y.cM Y.kM))) rfl) fun _ => tg_of (tg_test (eg_op (eg_xk (ev_var rfl) Y.xM Y.nM) eg_int rg_neI)) rfl) rfl
  refine bm_seq (sm_asg (em_imp (R' := fun g L' => ∃ u : Int, (u = 66 ∨ u = 67) ∧ g = .d (.int u) ∧ LwS K p gp cs 200002 L') (em_pickL (p := p) (gp := gp) (cs := cs) (B := 200001) (ds := [.int 66, .int 67]) (am_av (av_cons (ev_var rfl) (av_cons (ev_d (eg_lst (ag_cons eg_int (ag_cons eg_int ag_nil)) (Nat.le_of_ble_eq_true rfl))) av_nil))) ?_ (by decide) ⟨by decide, by decide⟩) ?_)) ?_
  · rintro _ _ ⟨rfl, rfl⟩
    exact ⟨h6, rfl⟩
  · rintro _ _ ⟨⟨d, hd, rfl⟩, h⟩
    simp at hd
    rcases hd with rfl | rfl
    · exact ⟨66, .inl rfl, rfl, h⟩
    · exact ⟨67, .inr rfl, rfl, h⟩
  rintro _ L7 ⟨_, rfl, u, hu, rfl, h7⟩
  have hubOk : PartOk (.hub (sortS [x, y, "q"]) (1, 1)) := ⟨nm3, by omega, num_one⟩
  have repH : ∀ n, n ≤ 200 → NetOk [x, y] (List.replicate n (.hub (sortS [x, y, "q"]) (1, 1))) := fun n hn => rep_net (zs := sortS [x, y, "q"]) t2 hubOk (fun z h => h) (by omega) hn (show ("hub" : Str) ≠ "lead" by decide)
  have kH : ∀ n, kindF (List.replicate n (.hub (sortS [x, y, "q"]) (1, 1))) ≠ "leads" := fun n => rep_leads (show ("hub" : Str) ≠ "lead" by decide)
  have eH : ∀ n, ∀ p ∈ List.replicate n (Part.hub (sortS [x, y, "q"]) (1, 1)), p.ends.length ≤ 3 := fun n p hp => by
    rw [(List.mem_replicate.mp hp).2]
    exact Nat.le_of_eq l3
  have fH : (pipesF (.hub (sortS [x, y, "q"]) (1, 1))).length = 3 := pipes_three l3
  refine bm_seq (sm_asg (R := fun g L' => ((u = 66 ∧ g = .d .none) ∨ (u = 67 ∧ g = kx (zM K) num_m)) ∧ LwS K p gp cs 200002 L') ?_) ?_
  · rcases hu with rfl | rfl
    · exact em_caught (Z := fun _ _ _ => False) (m := fun _ _ _ _ _ h => h) h7.mem (lm_l (lm_eg fun E => eg_call (ag_cons (eg_tup (ag_cons (eg_var rfl) (ag_cons (eg_of (eg_op (eg_tup (ag_cons (eg_tup (ag_cons eg_str (ag_cons (eg_cb (ag_cons (eg_cb (ag_cons (eg_catA (ds := [.str x, .str y]) (es := [.str "q"]) (eg_var rfl) (eg_tup (ag_cons eg_str ag_nil) (Nat.le_of_ble_eq_true rfl)) (Nat.le_of_ble_eq_true rfl)) ag_nil) (cg_sortStrsT (xs := [x, y, "q"]))) ag_nil) cg_tupL) (ag_cons eg_int ag_nil))) (Nat.le_of_ble_eq_true rfl)) ag_nil) (Nat.le_of_ble_eq_true rfl)) (eg_var rfl) (rg_repT (by simp) (by decide) (by decide) (Nat.le_of_ble_eq_true rfl))) (congrArg PyData.tuple (rep_data (.hub (sortS [x, y, "q"]) (1, 1)) 66))) ag_nil)) (Nat.le_of_ble_eq_true rfl)) ag_nil) ⟨rfl, [x, y], _, repH 66 (by decide), kH 66, eH 66, by rw [flat_rep, fH]; decide, rfl, rfl⟩)) (fun _ _ _ z => z.elim) (fun _ => ⟨.inl ⟨rfl, rfl⟩, h7⟩) fun ⟨_, _, _, z⟩ => z.elim
    · exact em_caught (Z := zM K) (m := num_m) h7.mem (lm_r (lm_ex fun E => ex_call (ag_cons (eg_tup (ag_cons (eg_var rfl) (ag_cons (eg_of (eg_op (eg_tup (ag_cons (eg_tup (ag_cons eg_str (ag_cons (eg_cb (ag_cons (eg_cb (ag_cons (eg_catA (ds := [.str x, .str y]) (es := [.str "q"]) (eg_var rfl) (eg_tup (ag_cons eg_str ag_nil) (Nat.le_of_ble_eq_true rfl)) (Nat.le_of_ble_eq_true rfl)) ag_nil) (cg_sortStrsT (xs := [x, y, "q"]))) ag_nil) cg_tupL) (ag_cons eg_int ag_nil))) (Nat.le_of_ble_eq_true rfl)) ag_nil) (Nat.le_of_ble_eq_true rfl)) (eg_var rfl) (rg_repT (by simp) (by decide) (by decide) (Nat.le_of_ble_eq_true rfl))) (congrArg PyData.tuple (rep_data (.hub (sortS [x, y, "q"]) (1, 1)) 67))) ag_nil)) (Nat.le_of_ble_eq_true rfl)) ag_nil) ⟨rfl, [x, y], _, repH 67 (by decide), rfl, .inr ⟨kH 67, eH 67, by rw [flat_rep, fH]; decide, rfl⟩⟩)) (fun cls d N h => h.1 ▸ T.exm_TooMany) (fun z => z.elim) fun _ => ⟨.inr ⟨rfl, rfl⟩, h7⟩
  rintro _ L8 ⟨g8, rfl, hg2, h8⟩
  refine bm_when (b := decide (u = 67)) (tg_test (eg_op (eg_var rfl) eg_int rg_eqI)) (fun hb => ?_) (fun _ L' z => by cases z) fun hb => ?_
  · have hb := of_decide_eq_true hb
    rcases hg2 with ⟨rfl, _⟩ | ⟨rfl, rfl⟩
    · exact absurd hb (by decide)
    · refine bm_ret (em_imp (em_eg (eg_andV (a := true) (b := true) (eg_isKx (m := num_m) (ev_var rfl) num_is Y.cM Y.kM) fun _ => eg_of (eg_op (eg_xk (ev_var rfl) Y.xM Y.nM) eg_int rg_eqI) rfl)) ?_)
      rintro _ _ ⟨rfl, _⟩
      rfl
  · have hb := of_decide_eq_false hb
    rcases hg2 with ⟨rfl, rfl⟩ | ⟨rfl, _⟩
    · refine bm_ret (em_imp (em_eg (eg_op (eg_var rfl) eg_non rg_isN)) ?_)
      rintro _ _ ⟨rfl, _⟩
      rfl
    · exact absurd rfl hb
end
end K13
namespace K13
open PySem PySem.Spec PyProof.Rows L2
open NdefX (NF)
section
variable {K : PySem.W.Frag}
theorem ecB_ok {D : Addr} (h : ecB K D = true) : ExcC K D ∧ PySem.W.kitOne K (.ref D) (.ref D) = some true := by
  obtain ⟨h1, h⟩ := dec_and h
  obtain ⟨h2, h⟩ := dec_and h
  obtain ⟨h3, h⟩ := dec_and h
  obtain ⟨h4, h⟩ := b_and h
  obtain ⟨h5, h⟩ := dec_and h
  obtain ⟨h6, h⟩ := dec_and h
  obtain ⟨h7, h⟩ := dec_and h
  obtain ⟨h8, h9⟩ := dec_and h
  exact ⟨⟨h1, h2, h3, h4, h5, h6, h7, h8⟩, of_decide_eq_true h9⟩
theorem oexB_ok {C : Addr} (h : oexB K C = true) : ∃ nm q N bs bm sn sub ab col dd k0 k1 k2 k3 k5, K.lookup C = some (excClassObj nm q C N bs bm true sn sub ab col dd k0 k1 k2 k3 k5 "ValueError.__new__") ∧ PySem.HandSPX.refsVE bm = true := by
  unfold oexB at h
  split at h
  · rename_i dd cd sl ho
    split at h
    · rename_i C' bm k0 k1 k2 k3 nw k5 hm hs
      obtain ⟨e1, h⟩ := dec_and h
      obtain ⟨e2, h⟩ := dec_and h
      obtain ⟨e3, h⟩ := b_and h
      obtain ⟨e4, e5⟩ := b_and h
      subst e1 e2
      have e6 : cd.hasDel = false := by simpa using e3
      clear e3 h
      obtain ⟨nm, bs, mro, N, q, hd, sn, sub, ab, col, del⟩ := cd
      dsimp only at hm e4 e6
      subst hm e4 e6
      have es : sl = #[k0, k1, k2, k3, some (.builtin "ValueError.__new__"), k5] := by
        obtain ⟨l⟩ := sl
        have hs : l = _ := hs
        rw [hs]
      subst es
      exact ⟨nm, q, N, bs, bm, sn, sub, ab, col, dd, k0, k1, k2, k3, k5, ho, e5⟩
    · cases h
  · cases h
theorem fileB_ok {c : Addr} (h : fileB K c = true) : ∃ ccl cdd vs ccs file tf, K.lookup c = some ⟨ccl, cdd, .fields vs, ccs⟩ ∧ vs[2]? = some (.str file tf) ∧ ((Rw.prog.main.file : Str) == file) = true := by
  unfold fileB at h
  split at h
  · rename_i ccl cdd vs ccs ho
    split at h
    · rename_i file tf hv
      exact ⟨ccl, cdd, vs, ccs, file, tf, ho, hv, h⟩
    · cases h
  · cases h
theorem cellB_ok {cc C : Addr} (h : cellB K cc C = true) : ∃ cl cld csl, K.lookup cc = some ⟨cl, cld, .cell (some (.ref C)), csl⟩ := by
  unfold cellB at h
  split at h
  · rename_i cl cld D csl ho
    have := of_decide_eq_true h
    subst this
    exact ⟨cl, cld, csl, ho⟩
  · cases h
theorem initB_ok (h : initB K = true) (hf : fnN K = valN) : ∃ cc c, (∃ oc od kV doc pm an ct osl, K.lookup (fIx K) = some ⟨oc, od, .func (PySem.W.fnX (fTM cc c).name (fTM cc c).qual (fTM cc c).params (fTM cc c).body (fTM cc c).scope (fTM cc c).cl .none kV doc pm an (.ref c) ct), osl⟩) ∧
    PySem.W.codeIn K (.ref c) "TooMany.__init__" = true ∧ fileB K c = true ∧ cellB K cc (cMany K) = true := by
  unfold initB at h
  unfold fnN at hf
  split at h
  · rename_i oc od fd osl ho
    rw [ho] at hf
    split at h
    · rename_i c x cc e1 e2
      obtain ⟨h1, h⟩ := dec_and h
      obtain ⟨h2, h⟩ := b_and h
      obtain ⟨h3, h4⟩ := b_and h
      have hf : some (fd.name, fd.qualname, fd.params, fd.body, fd.scope, fd.globals, fd.closure.map (·.1), fd.builtins) = valN := hf
      unfold valN at hf
      simp only [Option.some.injEq, Prod.mk.injEq] at hf
      obtain ⟨a1, a2, a3, a4, a5, a6, a7, a8⟩ := hf
      refine ⟨cc, c, ⟨oc, od, fd.kwdefaults, fd.doc, fd.pyModule, fd.annotations, fd.closureTuple, osl, ?_⟩, h2, h3, h4⟩
      rw [ho]
      have ex : x = "__class__" := by
        rw [e2] at a7
        simpa using a7
      subst ex
      obtain ⟨n1, n2, n3, n4, n5, n6, n7, n8, n9, n10, n11, n12, n13, n14, n15⟩ := fd
      dsimp only at e1 e2 h1 a1 a2 a3 a4 a5 a6 a8
      subst e1 e2 h1 a1 a2 a3 a4 a5 a6 a8
      rfl
    · cases h
  · cases h
theorem exX_ok (h : exX K = true) (hf : fnN K = valN) : Xs Rw.prog K ∧ tabA K "law" ≠ tabA K "_law_an_turned_right" := by
  obtain ⟨h1, h⟩ := b_and h
  obtain ⟨h2, h⟩ := b_and h
  obtain ⟨hm, h⟩ := b_and h
  obtain ⟨hi, ht⟩ := b_and h
  obtain ⟨cB, kB⟩ := ecB_ok h1
  obtain ⟨cM, kM⟩ := ecB_ok h2
  obtain ⟨m1, hm⟩ := b_and hm
  obtain ⟨m2, hm⟩ := dec_and hm
  obtain ⟨m3, hm⟩ := dec_and hm
  obtain ⟨m4, hm⟩ := b_and hm
  obtain ⟨m5, hm⟩ := dec_and hm
  obtain ⟨m6, hm⟩ := dec_and hm
  obtain ⟨m7, hm⟩ := dec_and hm
  obtain ⟨m8, hm⟩ := dec_and hm
  obtain ⟨m9, hm⟩ := dec_and hm
  obtain ⟨m10, m11⟩ := dec_and hm
  have m11 := of_decide_eq_true m11
  obtain ⟨cc, c, lk, hc, hfi, hce⟩ := initB_ok hi hf
  obtain ⟨cl, cld, csl, lcc⟩ := cellB_ok hce
  refine ⟨⟨cB, cM, kB, kM, ⟨oexB_ok m1, m2, cM.hs, m3, m4⟩, ⟨cM.hg, cM.hk, cM.hs, cM.hd⟩, m5, ⟨fIx K, cc, c, ⟨lk, hc, fileB_ok hfi, ⟨cc, cl, cld, csl, rfl, lcc⟩, m8, m9, m10, m11⟩, m6, m7⟩, by decide +kernel⟩, ?_⟩
  have := b_and (show (!decide (tabA K "law" = tabA K "_law_an_turned_right") && true) = true by rw [ht]; rfl)
  simpa using this.1
end
end K13
namespace K13
open PySem PySem.Spec PyProof.Rows L2
open Evl (Ex fresh_back ex_l ex_t)
open LamX (TabB)
theorem start_law {K : PySem.W.Frag} {H : Hp} {a : Addr} {ns : List Int} (hn : ns.length ≤ 1000) (ht : tabA K "law" ≠ tabA K "_law_an_turned_right") (hout : ∀ p ∈ tf, K.lookup (He.cT K p).2 = none) (hH : ∀ p ∈ tf, H (He.cT K p).2 = some (.tbl #[])) (hS : SqL K H a (ns.map V.int)) :
    spM K (fun gs L Z => gs.length = 1 ∧ P_law K gs L Z) [.ref a] H (fun v _ => v = .bl true) (fun _ _ _ => False) := by
  have m1 : (("law", none) : He.Defn) ∈ tf := List.mem_cons_self
  have m2 : (("_law_an_turned_right", none) : He.Defn) ∈ tf := List.mem_cons_of_mem _ List.mem_cons_self
  obtain ⟨N, eN, sN, nN⟩ : ∃ N : Hp, Ex N H ∧ SqL K N a (ns.map V.int) ∧ ∀ p ∈ tf, N (He.cT K p).2 = none := by
    rcases hS with hS | hS
    · have key : ∀ p ∈ tf, (He.cT K p).2 ≠ a := fun p hp e => by
        have := hH p hp
        rw [e] at this
        rcases hS with hS | ⟨o, hS⟩ <;> rw [hS] at this <;> cases this
      refine ⟨fun b => if b = a then H a else none, fun b o e => ?_, .inl ?_, fun p hp => if_neg (key p hp)⟩
      · by_cases hb : b = a
        · subst hb
          have e : (if b = b then H b else none) = some o := e
          rw [if_pos rfl] at e
          exact e
        · have e : (if b = a then H a else none) = some o := e
          rw [if_neg hb] at e
          cases e
      · rcases hS with hS | ⟨o, hS⟩
        · exact .inl ((if_pos rfl).trans hS)
        · exact .inr ⟨o, (if_pos rfl).trans hS⟩
    · exact ⟨fun _ => none, fun _ _ e => (by cases e), .inr hS, fun _ _ => rfl⟩
  refine ⟨[scr ns], [tabL K "_law_an_turned_right", tabL K "law"], N, _, eN, .cons ⟨a, rfl, sN⟩ .nil, ⟨?_, fun p o hp => ?_⟩, ⟨rfl, ns, hn, rfl, rfl, rfl⟩, fun v g L' N' H' _ _ k r => ?_⟩
  · show [tabA K "_law_an_turned_right", tabA K "law"].Nodup
    simp [Ne.symm ht]
  · simp at hp
    rcases hp with ⟨rfl, rfl⟩ | ⟨rfl, rfl⟩
    · exact ⟨nN _ m2, _, hH _ m2, #[], rfl, .nil⟩
    · exact ⟨nN _ m1, _, hH _ m1, #[], rfl, .nil⟩
  · subst r
    exact dp_bool k
theorem law_at {w : World} {K : PySem.W.Frag} {mg : Str → Option Value} {fa' : Addr} {h : Heap} (KX : K.In h) (G : h.Ns mainGlobals mg) (hfa : mg "law" = some (.ref fa')) (c : He.SaysX fa fn [] tf exAll w h K) (hf : fnN K = valN) :
    LamX.LawAtS PySem.Challenge.rw_behindtaps_k13_whole_one_kind_of_part_fo w K CX0 12 63 "_law_script" mg fa' h := by
  obtain ⟨b1, b2⟩ := b_and c.more
  obtain ⟨Y, ht⟩ := exX_ok b2 hf
  have c' : He.SaysX fa fn [] tf exB w h K := ⟨c.t, b1, c.hd, c.out, c.empty⟩
  have T0 : ∀ base, (∀ p ∈ tf, TabB base mg (He.cT K p).1 (He.cT K p).2) → Tx w K mg base := fun base tb => ⟨⟨h, KX, G, c'⟩, tb⟩
  obtain ⟨fd, F⟩ : ∃ fd, FunD K "law" "law" (defArgs s_law) (defBody s_law) (defScope s_law) [] [] (He.ga K "law") fd := c.t.d.def_ 69 (d := gdef "law" 91) (by rfl)
  have gl : mg "law" = some (.ref (He.ga K "law")) := He.glo_ok KX G (c.t.d.fact 69 (f := .glo "law") (by rfl))
  have e : fa' = He.ga K "law" := by
    rw [hfa] at gl
    cases gl
    rfl
  subst e
  refine ⟨fd, tf.map (He.cT K), spM K (fun gs L Z => gs.length = 1 ∧ P_law K gs L Z), fun p hp => ?_, fun p hp => ?_, fun p hp => ?_, fun s u => FunD.bindsA (ps := ["_law_script"]) F (fun _ _ _ _ _ _ us hl => match us, hl with | [_], _ => rfl) s [u] rfl, fun H a ns hl _ hH hS => ?_, fun base _ _ tb => fn_law (T0 base fun p hp => tb _ (List.mem_map_of_mem hp)) Y F⟩
  · obtain ⟨q, hq, rfl⟩ := List.mem_map.mp hp
    exact c.empty q hq
  · obtain ⟨q, hq, rfl⟩ := List.mem_map.mp hp
    exact c.out q hq
  · obtain ⟨q, hq, rfl⟩ := List.mem_map.mp hp
    exact PySem.W.codeHd_of_K KX (c.hd q hq)
  · exact start_law (by omega) ht c.out (fun p hp => hH _ (List.mem_map_of_mem hp)) hS
end K13
set_option maxHeartbeats 0
open PySem PySem.W PySem.Calls PyProof.Rows
theorem PySem.Challenge.cw_behindtaps_k13_whole_one_kind_of_part_fo_holds : PySem.Challenge.rw_behindtaps_k13_whole_one_kind_of_part_fo.Holds := by
  w_on; o_law
  refine HandSHeadRun.head_imp (r := OpenLaw.row PySem.Challenge.rw_behindtaps_k13_whole_one_kind_of_part_fo) (q := K13.qv) (H := K13.hkF) (ob := K13.obF) (M := 6000) (loose := K13.loose) (d := HandSHeadRun.topDef (OpenLaw.row PySem.Challenge.rw_behindtaps_k13_whole_one_kind_of_part_fo).prog 91) (kwd := []) K13.obF_eq K13.runI
    ?a ?b ?c ?d ?e ?f ?g ?hw ?hc
  case a => kernel_rfl
  case b => kernel_rfl
  case c => kernel_rfl
  case d => rfl
  case e => assumption
  case f => kernel_rfl
  case g => exact ⟨rfl, rfl, rfl, rfl, rfl, by decide +kernel⟩
  case hw => w_witness2
  case hc =>
    refine LamX.walk_ofTsE (l := PySem.Challenge.rw_behindtaps_k13_whole_one_kind_of_part_fo) (n := 63) (k := 12) (x := "_law_script") (CX := fun _ => L2.CX0) rfl (by decide) (by kernel_rfl) ⟨rfl, by decide, by decide⟩ ?F (fun _ _ _ _ _ z => z)
    intro w mg fa h Y G hmg0
    obtain ⟨K, KX, c, hf⟩ := Y
    have hmg : mg ("law" : PySem.Str) = some (.ref fa) := by
      have e : (HandSHeadRun.topDef (OpenLaw.row PySem.Challenge.rw_behindtaps_k13_whole_one_kind_of_part_fo).prog 91).name = ("law" : PySem.Str) := by kernel_rfl
      rw [← e]
      exact hmg0
    exact ⟨K, KX, K13.law_at KX G hmg c hf⟩
