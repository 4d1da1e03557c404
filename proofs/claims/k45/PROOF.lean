import PyProof.Rows.All
import Wide.All
import OpenK.AllK
import Wide.FinOn
import HandS.ForMost
import HandS.Deep
import HandS.Zip
import HandS.TupAny
import HandS.Wide
import KE.SortData
import KE.DataFind
import HandS.SetFor
import HandS.Strs
import HandS.IsInst
import HandS.Conv
import HandS.Dict
import HandS.Iter
import PySem.Challenge.RW_mergeunits_k45_whole_results_are_closed
set_option Elab.async false
set_option linter.all false
set_option autoImplicit false
set_option maxRecDepth 100000
set_option maxHeartbeats 4000000
namespace Mini
open PySem PySem.Spec PyProof.Rows L2

/-- a value: plain data, the object in a box, the law's script -/
inductive W where
  | d (x : PyData)
  | box (n : Nat)
  | scr (ns : List Int)
/-- what a box holds -/
inductive Bx where
  | lst (ws : List W)
  | dK (kvs : List (Key × W))
  | dT (kvs : List (List Key × W))
  /-- one that a loop walks -/
  | lkT (kvs : List (List Key × W))
abbrev Bs := List (Option Bx)
abbrev En := List (Option W)
structure Exn where
  cls : Str
  fs : List (Str × W)
/-- how a piece of code ends -/
inductive Out (α : Type) where
  | ok (a : α) (B : Bs)
  | exc (x : Exn) (B : Bs)
  | bad
def Out.bind {α β : Type} (o : Out α) (f : α → Bs → Out β) : Out β :=
  match o with
  | .ok a B => f a B
  | .exc x B => .exc x B
  | .bad => .bad
@[simp] theorem Out.bind_ok {α β : Type} (a : α) (B : Bs) (f : α → Bs → Out β) : (Out.ok a B).bind f = f a B := rfl
@[simp] theorem Out.bind_bad {α β : Type} (f : α → Bs → Out β) : (Out.bad : Out α).bind f = .bad := rfl
@[simp] theorem Out.bind_exc {α β : Type} (x : Exn) (B : Bs) (f : α → Bs → Out β) : (Out.exc x B : Out α).bind f = .exc x B := rfl
abbrev De := En → Bs → Out W
abbrev Da := En → Bs → Out (List W)
abbrev Dt := En → Bs → Out Bool
inductive Fl where
  | nx | bk | ct
  | rt (w : W)
abbrev Ds := En → Bs → Out (Fl × En)

/-! ### data in the frozen part -/
def FE (F F' : Hp) : Prop := ∀ a o, F a = some o → F' a = some o
theorem FE.refl (F : Hp) : FE F F := fun _ _ h => h
theorem FE.trans {F G H : Hp} (a : FE F G) (b : FE G H) : FE F H := fun x o h => b x o (a x o h)
section
variable {K : PySem.W.Frag}
theorem rd_mono {F F' : Hp} {a : Addr} {u : HO} (e : FE F F') (h : Rd F a u) : Rd F' a u := by
  rcases h with h | ⟨o, h⟩
  · exact .inl (e _ _ h)
  · exact .inr ⟨o, e _ _ h⟩
theorem sqL_mono {F F' : Hp} {a : Addr} {xs : List V} (e : FE F F') (h : SqL K F a xs) : SqL K F' a xs := by
  rcases h with h | h
  · exact .inl (rd_mono e h)
  · exact .inr h
theorem sqT_mono {F F' : Hp} {a : Addr} {xs : List V} (e : FE F F') (h : SqT K F a xs) : SqT K F' a xs := by
  rcases h with h | h
  · exact .inl (rd_mono e h)
  · exact .inr h
end
mutual
/-- plain data that stands in F, every list and tuple of it tracked -/
inductive Dq (F : Hp) : V → PyData → Prop
  | non : Dq F .non .none
  | bl (b : Bool) : Dq F (.bl b) (.bool b)
  | int (i : Int) : Dq F (.int i) (.int i)
  | str (x : Str) : Dq F (.str x) (.str x)
  | lst {a : Addr} {xs : List V} {ds : List PyData} : F a = some (.lst xs) → DqAll F xs ds → Dq F (.ref a) (.list ds)
  | tup {a : Addr} {xs : List V} {ds : List PyData} : F a = some (.tup xs) → DqAll F xs ds → Dq F (.ref a) (.tuple ds)
inductive DqAll (F : Hp) : List V → List PyData → Prop
  | nil : DqAll F [] []
  | cons {v : V} {vs : List V} {d : PyData} {ds : List PyData} : Dq F v d → DqAll F vs ds → DqAll F (v :: vs) (d :: ds)
end
section
variable {K : PySem.W.Frag}
mutual
theorem dq_dp {F : Hp} : ∀ {v : V} {d : PyData}, Dq F v d → Dp K F v d
  | _, _, .non => .non
  | _, _, .bl b => .bl b
  | _, _, .int i => .int i
  | _, _, .str x => .str x
  | _, _, .lst h r => .lst (.inl (.inl h)) (dqAll_dp r)
  | _, _, .tup h r => .tup (.inl (.inl h)) (dqAll_dp r)
theorem dqAll_dp {F : Hp} : ∀ {vs : List V} {ds : List PyData}, DqAll F vs ds → DpAll K F vs ds
  | _, _, .nil => .nil
  | _, _, .cons h r => .cons (dq_dp h) (dqAll_dp r)
end
end
mutual
theorem dp_mono {F F' : Hp} (e : FE F F') : ∀ {v : V} {d : PyData}, Dq F v d → Dq F' v d
  | _, _, .non => .non
  | _, _, .bl b => .bl b
  | _, _, .int i => .int i
  | _, _, .str x => .str x
  | _, _, .lst h r => .lst (e _ _ h) (dpAll_mono e r)
  | _, _, .tup h r => .tup (e _ _ h) (dpAll_mono e r)
theorem dpAll_mono {F F' : Hp} (e : FE F F') : ∀ {vs : List V} {ds : List PyData}, DqAll F vs ds → DqAll F' vs ds
  | _, _, .nil => .nil
  | _, _, .cons h r => .cons (dp_mono e h) (dpAll_mono e r)
end
theorem dpAll_len {F : Hp} : ∀ {vs : List V} {ds : List PyData}, DqAll F vs ds → vs.length = ds.length
  | _, _, .nil => rfl
  | _, _, .cons _ r => by rw [List.length_cons, List.length_cons, dpAll_len r]
theorem dpAll_get {F : Hp} : ∀ {vs : List V} {ds : List PyData} {i : Nat} {d : PyData}, DqAll F vs ds → ds[i]? = some d → ∃ v, vs[i]? = some v ∧ Dq F v d
  | _, _, _, _, .nil, e => by simp at e
  | _, _, 0, _, .cons h r, e => by simp at e; subst e; exact ⟨_, rfl, h⟩
  | _, _, i + 1, d, .cons _ r, e => by
    obtain ⟨v, h1, h2⟩ := dpAll_get (i := i) r (by simpa using e)
    exact ⟨v, by simpa using h1, h2⟩
theorem dpAll_app {F : Hp} : ∀ {vs us : List V} {ds es : List PyData}, DqAll F vs ds → DqAll F us es → DqAll F (vs ++ us) (ds ++ es)
  | _, _, _, _, .nil, h => h
  | _, _, _, _, .cons h r, h' => .cons h (dpAll_app r h')
theorem dpAll_take {F : Hp} : ∀ {vs : List V} {ds : List PyData} (n : Nat), DqAll F vs ds → DqAll F (vs.take n) (ds.take n)
  | _, _, 0, _ => .nil
  | _, _, _ + 1, .nil => .nil
  | _, _, n + 1, .cons h r => .cons h (dpAll_take n r)
theorem dpAll_drop {F : Hp} : ∀ {vs : List V} {ds : List PyData} (n : Nat), DqAll F vs ds → DqAll F (vs.drop n) (ds.drop n)
  | _, _, 0, h => h
  | _, _, _ + 1, .nil => .nil
  | _, _, n + 1, .cons h r => dpAll_drop n r

/-! ### values and boxes against the heap -/
variable (K : PySem.W.Frag) in
def RW (F : Hp) (loc : List Addr) : W → V → Prop
  | .d x, v => Dq F v x
  | .scr ns, v => ∃ a, v = .ref a ∧ SqL K F a (ns.map V.int)
  | .box n, v => ∃ a, v = .ref a ∧ loc[n]? = some a
variable (K : PySem.W.Frag) in
abbrev RWs (F : Hp) (loc : List Addr) : List W → List V → Prop := Paired (RW K F loc)
variable (K : PySem.W.Frag) in
def RKV {κ : Type} (F : Hp) (loc : List Addr) : List (κ × W) → List (κ × V) → Prop := Paired fun p q => p.1 = q.1 ∧ RW K F loc p.2 q.2
variable (K : PySem.W.Frag) in
def RBx (F : Hp) (loc : List Addr) : Bx → HO → Prop
  | .lst ws, o => ∃ vs, o = .lst vs ∧ RWs K F loc ws vs
  | .dK kvs, o => ∃ us, o = .dK us ∧ RKV K F loc kvs us
  | .dT kvs, o => ∃ us, o = .dT us ∧ RKV K F loc kvs us
  | .lkT kvs, o => ∃ us od, o = .frz od (.dT us) ∧ RKV K F loc kvs us
def lkd : Bx → Bool
  | .lkT _ => true
  | _ => false
section
variable {K : PySem.W.Frag} {F F' : Hp} {loc loc' : List Addr}
theorem pre_get {n : Nat} {a : Addr} (h : loc <+: loc') (e : loc[n]? = some a) : loc'[n]? = some a := by
  obtain ⟨t, rfl⟩ := h
  rw [List.getElem?_append_left (List.getElem?_eq_some_iff.mp e).1]
  exact e
theorem rw_mono (e : FE F F') (h : loc <+: loc') : ∀ {w : W} {v : V}, RW K F loc w v → RW K F' loc' w v
  | .d _, _, r => dp_mono e r
  | .scr _, _, ⟨a, r1, r2⟩ => ⟨a, r1, sqL_mono e r2⟩
  | .box _, _, ⟨a, r1, r2⟩ => ⟨a, r1, pre_get h r2⟩
theorem rws_mono (e : FE F F') (h : loc <+: loc') {ws : List W} {vs : List V} (r : RWs K F loc ws vs) : RWs K F' loc' ws vs := Paired.mapP r fun _ _ q => rw_mono e h q
theorem rkv_mono {κ : Type} (e : FE F F') (h : loc <+: loc') {ws : List (κ × W)} {vs : List (κ × V)} (r : RKV K F loc ws vs) : RKV K F' loc' ws vs := Paired.mapP r fun _ _ q => ⟨q.1, rw_mono e h q.2⟩
theorem rbx_mono (e : FE F F') (h : loc <+: loc') : ∀ {b : Bx} {o : HO}, RBx K F loc b o → RBx K F' loc' b o
  | .lst _, _, ⟨vs, r1, r2⟩ => ⟨vs, r1, rws_mono e h r2⟩
  | .dK _, _, ⟨vs, r1, r2⟩ => ⟨vs, r1, rkv_mono e h r2⟩
  | .dT _, _, ⟨vs, r1, r2⟩ => ⟨vs, r1, rkv_mono e h r2⟩
  | .lkT _, _, ⟨vs, od, r1, r2⟩ => ⟨vs, od, r1, rkv_mono e h r2⟩
theorem rbx_nofrz {b : Bx} {o : HO} (hb : lkd b = false) (r : RBx K F loc b o) : (∀ od u, o ≠ .frz od u) ∧ ∀ vs, o ≠ .tup vs := by
  cases b with
  | lst ws => obtain ⟨vs, rfl, _⟩ := r; exact ⟨fun _ _ e => (nomatch e), fun _ e => (nomatch e)⟩
  | dK ws => obtain ⟨vs, rfl, _⟩ := r; exact ⟨fun _ _ e => (nomatch e), fun _ e => (nomatch e)⟩
  | dT ws => obtain ⟨vs, rfl, _⟩ := r; exact ⟨fun _ _ e => (nomatch e), fun _ e => (nomatch e)⟩
  | lkT ws => cases hb
theorem rbx_notup {b : Bx} {o : HO} (r : RBx K F loc b o) : ∀ vs, o ≠ .tup vs := by
  cases b with
  | lst ws => obtain ⟨vs, rfl, _⟩ := r; exact fun _ e => nomatch e
  | dK ws => obtain ⟨vs, rfl, _⟩ := r; exact fun _ e => nomatch e
  | dT ws => obtain ⟨vs, rfl, _⟩ := r; exact fun _ e => nomatch e
  | lkT ws => obtain ⟨vs, od, rfl, _⟩ := r; exact fun _ e => nomatch e
end

/-- the heap bears the frozen part and the boxes -/
structure Sim (K : PySem.W.Frag) (F : Hp) (loc : List Addr) (B : Bs) (H : Hp) : Prop where
  ex : FE F H
  len : loc.length = B.length
  nd : loc.Nodup
  al : ∀ a ∈ loc, H a ≠ none
  box : ∀ (n : Nat) (a : Addr) (b : Bx), loc[n]? = some a → B[n]? = some (some b) → F a = none ∧ ∃ o, H a = some o ∧ RBx K F loc b o
/-- what has changed between two states: more is frozen, more boxes, all else stands -/
structure Ext (F : Hp) (loc : List Addr) (H : Hp) (F' : Hp) (loc' : List Addr) (H' : Hp) : Prop where
  ex : FE F F'
  pre : loc <+: loc'
  fr : ∀ a o, H a = some o → (∀ vs, o ≠ .tup vs) → F a = none → a ∉ loc → H' a = some o ∧ F' a = none ∧ a ∉ loc'
  lk : ∀ a od u, H a = some (.frz od u) → H' a = some (.frz od u)
section
variable {K : PySem.W.Frag} {F F' F2 : Hp} {loc loc' loc2 : List Addr} {H H' H2 : Hp} {B : Bs}
theorem Ext.refl : Ext F loc H F loc H := ⟨FE.refl _, List.prefix_refl _, fun _ _ h1 _ h2 h3 => ⟨h1, h2, h3⟩, fun _ _ _ h => h⟩
theorem Ext.trans (a : Ext F loc H F' loc' H') (b : Ext F' loc' H' F2 loc2 H2) : Ext F loc H F2 loc2 H2 :=
  ⟨a.ex.trans b.ex, a.pre.trans b.pre, fun x o h1 h0 h2 h3 => by
    obtain ⟨g1, g2, g3⟩ := a.fr x o h1 h0 h2 h3
    exact b.fr x o g1 h0 g2 g3, fun x od u h => b.lk x od u (a.lk x od u h)⟩
/-- a new frozen object -/
theorem Sim.new (S : Sim K F loc B H) {p : Addr} (hp : H p = none) (o : HO) : Sim K (upd F p o) loc B (upd H p o) ∧ Ext F loc H (upd F p o) loc (upd H p o) := by
  have hF : F p = none := by
    cases q : F p with
    | none => rfl
    | some u => rw [S.ex p u q] at hp; cases hp
  have e : FE F (upd F p o) := fun a u h => by rw [upd_ne (ne_of_none h hF)]; exact h
  refine ⟨⟨fun a u h => ?_, S.len, S.nd, fun a ha => ?_, fun n a b h1 h2 => ?_⟩, e, List.prefix_refl _, fun a u h1 _ h2 h3 => ?_, fun a od u h => by rw [upd_ne (ne_of_none h hp)]; exact h⟩
  · by_cases hb : a = p
    · subst hb; rw [upd_same] at h; rw [upd_same]; exact h
    · rw [upd_ne hb] at h; rw [upd_ne hb]; exact S.ex a u h
  · by_cases hb : a = p
    · subst hb; rw [upd_same]; intro z; cases z
    · rw [upd_ne hb]; exact S.al a ha
  · obtain ⟨g1, u, g2, g3⟩ := S.box n a b h1 h2
    have hb : a ≠ p := ne_of_none g2 hp
    exact ⟨by rw [upd_ne hb]; exact g1, u, by rw [upd_ne hb]; exact g2, rbx_mono e (List.prefix_refl _) g3⟩
  · have hb : a ≠ p := ne_of_none h1 hp
    exact ⟨by rw [upd_ne hb]; exact h1, by rw [upd_ne hb]; exact h2, h3⟩
/-- a new object in a box -/
theorem Sim.newBox (S : Sim K F loc B H) {p : Addr} (hp : H p = none) {o : HO} {b : Bx} (r : RBx K F loc b o) : Sim K F (loc ++ [p]) (B ++ [some b]) (upd H p o) ∧ Ext F loc H F (loc ++ [p]) (upd H p o) := by
  have hF : F p = none := by
    cases q : F p with
    | none => rfl
    | some u => rw [S.ex p u q] at hp; cases hp
  have hl : p ∉ loc := fun z => S.al p z hp
  have pr : loc <+: loc ++ [p] := List.prefix_append _ _
  refine ⟨⟨fun a u h => ?_, ?_, ?_, fun a ha => ?_, fun n a b' h1 h2 => ?_⟩, FE.refl _, pr, fun a u h1 _ h2 h3 => ?_, fun a od u h => by rw [upd_ne (ne_of_none h hp)]; exact h⟩
  · rw [upd_ne (ne_of_none (S.ex a u h) hp)]; exact S.ex a u h
  · rw [List.length_append, List.length_append, S.len]; rfl
  · rw [List.nodup_append]
    refine ⟨S.nd, List.nodup_cons.mpr ⟨by simp, List.nodup_nil⟩, fun a ha b hb => ?_⟩
    rw [List.mem_singleton.mp hb]
    intro z; rw [z] at ha; exact hl ha
  · rcases List.mem_append.mp ha with ha | ha
    · have hb : a ≠ p := fun z => by rw [z] at ha; exact hl ha
      rw [upd_ne hb]; exact S.al a ha
    · rw [List.mem_singleton.mp ha, upd_same]; intro z; cases z
  · by_cases hn : n < loc.length
    · rw [List.getElem?_append_left hn] at h1
      rw [List.getElem?_append_left (by rw [← S.len]; exact hn)] at h2
      obtain ⟨g1, u, g2, g3⟩ := S.box n a b' h1 h2
      have hb : a ≠ p := ne_of_none g2 hp
      exact ⟨g1, u, by rw [upd_ne hb]; exact g2, rbx_mono (FE.refl _) pr g3⟩
    · have hn2 : n = loc.length := by
        have := (List.getElem?_eq_some_iff.mp h1).1
        rw [List.length_append] at this
        simp at this
        omega
      subst hn2
      rw [List.getElem?_append_right (Nat.le_refl _), Nat.sub_self] at h1
      rw [S.len, List.getElem?_append_right (Nat.le_refl _), Nat.sub_self] at h2
      simp at h1 h2
      subst h1; subst h2
      exact ⟨hF, o, upd_same, rbx_mono (FE.refl _) pr r⟩
  · have hb : a ≠ p := ne_of_none h1 hp
    refine ⟨by rw [upd_ne hb]; exact h1, h2, fun z => ?_⟩
    rcases List.mem_append.mp z with z | z
    · exact h3 z
    · exact hb (List.mem_singleton.mp z)
theorem nodup_get {l : List Addr} (hN : l.Nodup) {i j : Nat} {x : Addr} (a : l[i]? = some x) (b : l[j]? = some x) : i = j := by
  obtain ⟨h1, e1⟩ := List.getElem?_eq_some_iff.mp a
  obtain ⟨h2, e2⟩ := List.getElem?_eq_some_iff.mp b
  exact (List.getElem_inj hN).mp (e1.trans e2.symm)
/-- a box is written -/
theorem Sim.write (S : Sim K F loc B H) {n : Nat} {a : Addr} {b0 b : Bx} {o : HO} (hl : loc[n]? = some a) (h0 : B[n]? = some (some b0)) (r : RBx K F loc b o) (hlk : lkd b0 = false) :
    Sim K F loc (B.set n (some b)) (upd H a o) ∧ Ext F loc H F loc (upd H a o) := by
  obtain ⟨gF, u, gH, gR⟩ := S.box n a b0 hl h0
  have hm : a ∈ loc := List.mem_of_getElem? hl
  refine ⟨⟨fun c u h => ?_, by rw [List.length_set]; exact S.len, S.nd, fun c hc => ?_, fun m c b' h1 h2 => ?_⟩, FE.refl _, List.prefix_refl _, fun c u h1 _ h2 h3 => ?_, fun c od u' h => by
    have hb : c ≠ a := fun z => by
      rw [z, gH] at h
      cases h
      exact (rbx_nofrz hlk gR).1 _ _ rfl
    rw [upd_ne hb]; exact h⟩
  · have hb : c ≠ a := ne_of_none h gF
    rw [upd_ne hb]; exact S.ex c u h
  · by_cases hb : c = a
    · subst hb; rw [upd_same]; intro z; cases z
    · rw [upd_ne hb]; exact S.al c hc
  · by_cases hmn : m = n
    · subst hmn
      rw [hl] at h1; cases h1
      rw [List.getElem?_set_self (List.getElem?_eq_some_iff.mp h0).1] at h2
      cases h2
      exact ⟨gF, o, upd_same, r⟩
    · rw [List.getElem?_set_ne (Ne.symm hmn)] at h2
      obtain ⟨g1, u, g2, g3⟩ := S.box m c b' h1 h2
      have hb : c ≠ a := fun z => hmn (nodup_get S.nd h1 (by rw [z]; exact hl))
      exact ⟨g1, u, by rw [upd_ne hb]; exact g2, g3⟩
  · have hb : c ≠ a := fun z => h3 (by rw [z]; exact hm)
    exact ⟨by rw [upd_ne hb]; exact h1, h2, h3⟩
/-- a box is frozen -/
theorem Sim.freeze (S : Sim K F loc B H) {n : Nat} {a : Addr} {b0 : Bx} {o : HO} (hl : loc[n]? = some a) (h0 : B[n]? = some (some b0)) (hH : H a = some o) :
    Sim K (upd F a o) loc (B.set n none) H ∧ Ext F loc H (upd F a o) loc H := by
  obtain ⟨gF, u, gH, _⟩ := S.box n a b0 hl h0
  have hm : a ∈ loc := List.mem_of_getElem? hl
  have e : FE F (upd F a o) := fun c u h => by rw [upd_ne (ne_of_none h gF)]; exact h
  refine ⟨⟨fun c u h => ?_, by rw [List.length_set]; exact S.len, S.nd, S.al, fun m c b' h1 h2 => ?_⟩, e, List.prefix_refl _, fun c u h1 _ h2 h3 => ?_, fun _ _ _ h => h⟩
  · by_cases hb : c = a
    · subst hb; rw [upd_same] at h; cases h; exact hH
    · rw [upd_ne hb] at h; exact S.ex c u h
  · by_cases hmn : m = n
    · subst hmn
      rw [List.getElem?_set_self (List.getElem?_eq_some_iff.mp h0).1] at h2
      cases h2
    · rw [List.getElem?_set_ne (Ne.symm hmn)] at h2
      obtain ⟨g1, u, g2, g3⟩ := S.box m c b' h1 h2
      have hb : c ≠ a := fun z => hmn (nodup_get S.nd h1 (by rw [z]; exact hl))
      exact ⟨by rw [upd_ne hb]; exact g1, u, g2, rbx_mono e (List.prefix_refl _) g3⟩
  · have hb : c ≠ a := fun z => h3 (by rw [z]; exact hm)
    exact ⟨h1, by rw [upd_ne hb]; exact h2, h3⟩
end

/-! ### the slots -/
structure EnvR (K : PySem.W.Frag) (F : Hp) (loc : List Addr) (ρ : En) (σ : L2.St) : Prop where
  len : ρ.length = σ.length
  get : ∀ (i : Nat) (w : W), ρ[i]? = some (some w) → ∃ v, σ[i]? = some (some v) ∧ RW K F loc w v
section
variable {K : PySem.W.Frag} {F F' : Hp} {loc loc' : List Addr} {ρ : En} {σ : L2.St}
theorem EnvR.mono (R : EnvR K F loc ρ σ) (e : FE F F') (h : loc <+: loc') : EnvR K F' loc' ρ σ := ⟨R.len, fun i w h1 => by
  obtain ⟨v, g1, g2⟩ := R.get i w h1
  exact ⟨v, g1, rw_mono e h g2⟩⟩
theorem EnvR.ext {H H' : Hp} (R : EnvR K F loc ρ σ) (E : Ext F loc H F' loc' H') : EnvR K F' loc' ρ σ := R.mono E.ex E.pre
theorem EnvR.set (R : EnvR K F loc ρ σ) {w : W} {v : V} (r : RW K F loc w v) (i : Nat) : EnvR K F loc (ρ.set i (some w)) (σ.set i (some v)) := ⟨by rw [List.length_set, List.length_set, R.len], fun j w' h => by
  by_cases hj : j = i
  · subst hj
    have hlt : j < ρ.length := by
      have := (List.getElem?_eq_some_iff.mp h).1
      rw [List.length_set] at this
      exact this
    rw [List.getElem?_set_self hlt] at h
    cases h
    exact ⟨v, List.getElem?_set_self (by rw [← R.len]; exact hlt), r⟩
  · rw [List.getElem?_set_ne (Ne.symm hj)] at h
    obtain ⟨v', g1, g2⟩ := R.get j w' h
    exact ⟨v', by rw [List.getElem?_set_ne (Ne.symm hj)]; exact g1, g2⟩⟩
theorem EnvR.forget (R : EnvR K F loc ρ σ) (i : Nat) : EnvR K F loc (ρ.set i none) (σ.set i none) := ⟨by rw [List.length_set, List.length_set, R.len], fun j w' h => by
  by_cases hj : j = i
  · subst hj
    have hlt : j < ρ.length := by
      have := (List.getElem?_eq_some_iff.mp h).1
      rw [List.length_set] at this
      exact this
    rw [List.getElem?_set_self hlt] at h
    cases h
  · rw [List.getElem?_set_ne (Ne.symm hj)] at h
    obtain ⟨v', g1, g2⟩ := R.get j w' h
    exact ⟨v', by rw [List.getElem?_set_ne (Ne.symm hj)]; exact g1, g2⟩⟩
def wipeE (ρ : En) : List Nat → En
  | [] => ρ
  | v :: vs => (wipeE ρ vs).set v none
theorem EnvR.wipe (R : EnvR K F loc ρ σ) : ∀ vs : List Nat, EnvR K F loc (wipeE ρ vs) (L2.wipe σ vs)
  | [] => R
  | v :: vs => (EnvR.wipe R vs).forget v
end

/-! ### the readings -/
/-- what is wanted behind a piece that ends as o says -/
def Pst (K : PySem.W.Frag) {α β : Type} (R : Hp → List Addr → α → β → Prop) (F : Hp) (loc : List Addr) (H : Hp) (o : Out α) (Q : β → Hp → Prop) : Prop :=
  match o with
  | .ok a B' => ∀ F' loc' H' b, Ext F loc H F' loc' H' → Sim K F' loc' B' H' → R F' loc' a b → Q b H'
  | _ => False
section
variable {K : PySem.W.Frag} {α β γ δ : Type} {R : Hp → List Addr → α → β → Prop} {R2 : Hp → List Addr → γ → δ → Prop} {F F' : Hp} {loc loc' : List Addr} {H H' : Hp}
theorem Pst.ext {o : Out α} {Q : β → Hp → Prop} (h : Pst K R F loc H o Q) (E : Ext F loc H F' loc' H') : Pst K R F' loc' H' o Q := by
  cases o with
  | ok a B' => exact fun F2 loc2 H2 b E2 S r => h F2 loc2 H2 b (E.trans E2) S r
  | exc x B' => exact h
  | bad => exact h
theorem Pst.bind {o : Out α} {f : α → Bs → Out γ} {Q : δ → Hp → Prop} {T : β → Hp → Prop} (h : Pst K R2 F loc H (o.bind f) Q)
    (k : ∀ a B1 F1 loc1 H1 b, o = .ok a B1 → Ext F loc H F1 loc1 H1 → Sim K F1 loc1 B1 H1 → R F1 loc1 a b → Pst K R2 F1 loc1 H1 (f a B1) Q → T b H1) : Pst K R F loc H o T := by
  cases o with
  | ok a B1 => exact fun F1 loc1 H1 b E S r => k a B1 F1 loc1 H1 b rfl E S r (Pst.ext (o := f a B1) h E)
  | exc x B' => exact h.elim
  | bad => exact h.elim
theorem Pst.here {a : α} {B : Bs} {b : β} {Q : β → Hp → Prop} (h : Pst K R F loc H (.ok a B) Q) (S : Sim K F loc B H) (r : R F loc a b) : Q b H := h F loc H b Ext.refl S r
end
def RB : Hp → List Addr → Bool → Bool → Prop := fun _ _ a b => b = a
def tE (K : PySem.W.Frag) (f : De) : TE := fun σ H Q => ∃ F loc ρ B, Sim K F loc B H ∧ EnvR K F loc ρ σ ∧ Pst K (RW K) F loc H (f ρ B) Q
def tA (K : PySem.W.Frag) (f : Da) : TA := fun σ H Q => ∃ F loc ρ B, Sim K F loc B H ∧ EnvR K F loc ρ σ ∧ Pst K (RWs K) F loc H (f ρ B) Q
def tT (K : PySem.W.Frag) (f : Dt) : TT := fun σ H Q => ∃ F loc ρ B, Sim K F loc B H ∧ EnvR K F loc ρ σ ∧ Pst K RB F loc H (f ρ B) Q
/-- behind a statement -/
def PstS (K : PySem.W.Frag) (F : Hp) (loc : List Addr) (H : Hp) (o : Out (Fl × En)) (D : Ends) : Prop :=
  match o with
  | .ok (.nx, ρ) B => ∀ F' loc' H' σ, Ext F loc H F' loc' H' → Sim K F' loc' B H' → EnvR K F' loc' ρ σ → D.nx σ H'
  | .ok (.bk, ρ) B => ∀ F' loc' H' σ, Ext F loc H F' loc' H' → Sim K F' loc' B H' → EnvR K F' loc' ρ σ → D.bk σ H'
  | .ok (.ct, ρ) B => ∀ F' loc' H' σ, Ext F loc H F' loc' H' → Sim K F' loc' B H' → EnvR K F' loc' ρ σ → D.ct σ H'
  | .ok (.rt w, _) B => ∀ F' loc' H' v, Ext F loc H F' loc' H' → Sim K F' loc' B H' → RW K F' loc' w v → D.rt v H'
  | _ => False
def tS (K : PySem.W.Frag) (f : Ds) : TS := fun D σ H => ∃ F loc ρ B, Sim K F loc B H ∧ EnvR K F loc ρ σ ∧ PstS K F loc H (f ρ B) D
theorem PstS.ext {K : PySem.W.Frag} {F F' : Hp} {loc loc' : List Addr} {H H' : Hp} {o : Out (Fl × En)} {D : Ends} (h : PstS K F loc H o D) (E : Ext F loc H F' loc' H') : PstS K F' loc' H' o D := by
  cases o with
  | ok a B' =>
    obtain ⟨fl, ρ⟩ := a
    cases fl <;> exact fun F2 loc2 H2 b E2 S r => h F2 loc2 H2 b (E.trans E2) S r
  | exc x B' => exact h
  | bad => exact h
theorem PstS.bind {K : PySem.W.Frag} {α β : Type} {R : Hp → List Addr → α → β → Prop} {F : Hp} {loc : List Addr} {H : Hp} {o : Out α} {f : α → Bs → Out (Fl × En)} {D : Ends} {T : β → Hp → Prop} (h : PstS K F loc H (o.bind f) D)
    (k : ∀ a B1 F1 loc1 H1 b, o = .ok a B1 → Ext F loc H F1 loc1 H1 → Sim K F1 loc1 B1 H1 → R F1 loc1 a b → PstS K F1 loc1 H1 (f a B1) D → T b H1) : Pst K R F loc H o T := by
  cases o with
  | ok a B1 => exact fun F1 loc1 H1 b E S r => k a B1 F1 loc1 H1 b rfl E S r (PstS.ext (o := f a B1) h E)
  | exc x B' => exact h.elim
  | bad => exact h.elim

/-! ### weaker readings -/
section
variable {X : Cx}
theorem pe_imp {e : Expr} {t t' : TE} (h : PE X e t) (i : ∀ σ H Q, t' σ H Q → t σ H Q) : PE X e t' := ⟨fun pins s σ H Q I q => h.run pins s σ H Q I (i σ H Q q)⟩
theorem pa_imp {e : List Expr} {t t' : TA} (h : PA X e t) (i : ∀ σ H Q, t' σ H Q → t σ H Q) : PA X e t' := ⟨fun pos pins s σ H Q I q => h.run pos pins s σ H Q I (i σ H Q q)⟩
theorem pt_imp {e : Expr} {t t' : TT} (h : PT X e t) (i : ∀ σ H Q, t' σ H Q → t σ H Q) : PT X e t' := ⟨fun pins s σ H Q I q => h.run pins s σ H Q I (i σ H Q q)⟩
theorem pw_imp {e : Expr} {t t' : TT} (h : PW X e t) (i : ∀ σ H Q, t' σ H Q → t σ H Q) : PW X e t' := ⟨fun wh pins s σ H Q I q => h.run wh pins s σ H Q I (i σ H Q q)⟩
theorem ps_imp {e : Stmt} {t t' : TS} (h : PS X e t) (i : ∀ D σ H, t' D σ H → t D σ H) : PS X e t' := ⟨fun pins s σ H D I q => h.run pins s σ H D I (i D σ H q)⟩
theorem pss_imp {e : List Stmt} {t t' : TS} (h : PSs X e t) (i : ∀ D σ H, t' D σ H → t D σ H) : PSs X e t' := ⟨fun pins s σ H D I q => h.run pins s σ H D I (i D σ H q)⟩
theorem pg_imp {e : Expr} {t t' : TG} (h : PG X e t) (i : ∀ v σ H Q, t' v σ H Q → t v σ H Q) : PG X e t' := ⟨fun pins s σ H v u Q I r q => h.run pins s σ H v u Q I r (i v σ H Q q)⟩
theorem pi_imp {tg e : Expr} {t t' : TI} (h : PI X tg e t) (i : ∀ σ H Q, t' σ H Q → t σ H Q) : PI X tg e t' := ⟨fun pins s σ H Q I q => h.run pins s σ H Q I (i σ H Q q)⟩
/-- one of two readings, by what the heap holds -/
theorem pe_either {e : Expr} {t u : TE} (h : PE X e t) (h' : PE X e u) : PE X e (fun σ H Q => t σ H Q ∨ u σ H Q) := ⟨fun pins s σ H Q I q => q.elim (h.run pins s σ H Q I) (h'.run pins s σ H Q I)⟩
end
end Mini

namespace Mini
open PySem PySem.Spec PyProof.Rows L2

/-! ### what a value is as plain data -/
def datas : List W → Option (List PyData)
  | [] => some []
  | .d x :: r => (datas r).map (x :: ·)
  | .box _ :: _ => none
  | .scr _ :: _ => none
@[simp] theorem datas_nil : datas [] = some [] := rfl
@[simp] theorem datas_cons (x : PyData) (r : List W) : datas (.d x :: r) = (datas r).map (x :: ·) := rfl
@[simp] theorem datas_box (n : Nat) (r : List W) : datas (.box n :: r) = none := rfl
@[simp] theorem datas_map (ds : List PyData) : datas (ds.map W.d) = some ds := by
  induction ds with
  | nil => rfl
  | cons d ds ih => rw [List.map_cons, datas_cons, ih]; rfl
theorem datas_eq : ∀ {ws : List W} {ds : List PyData}, datas ws = some ds → ws = ds.map W.d
  | [], ds, h => by
    have e : some [] = some ds := h
    cases e; rfl
  | .d x :: r, ds, h => by
    rw [datas_cons] at h
    cases q : datas r with
    | none => rw [q] at h; cases h
    | some es =>
      rw [q] at h
      have e : some (x :: es) = some ds := h
      cases e
      rw [datas_eq q]; rfl
  | .box _ :: _, ds, h => by cases h
  | .scr _ :: _, ds, h => by cases h
/-- plain data, or a list in a box with plain data in it -/
def tview (B : Bs) : W → Option PyData
  | .d x => some x
  | .scr ns => some (.list (ns.map PyData.int))
  | .box n => match B[n]? with
    | some (some (.lst ws)) => (datas ws).map PyData.list
    | _ => none
@[simp] theorem tview_d (B : Bs) (x : PyData) : tview B (.d x) = some x := rfl
theorem tview_box {B : Bs} {n : Nat} {ds : List PyData} (h : B[n]? = some (some (.lst (ds.map W.d)))) : tview B (.box n) = some (.list ds) := by
  unfold tview
  simp only [h, datas_map, Option.map_some]
section
variable {K : PySem.W.Frag} {F : Hp} {loc : List Addr} {B : Bs} {H : Hp}
theorem dpAll_of_rws : ∀ {ds : List PyData} {vs : List V}, RWs K F loc (ds.map W.d) vs → DqAll F vs ds
  | [], _, r => by cases r; exact .nil
  | d :: ds, _, r => by
    rw [List.map_cons] at r
    cases r with
    | cons h t => exact .cons h (dpAll_of_rws t)
theorem rws_of_dpAll : ∀ {ds : List PyData} {vs : List V}, DqAll F vs ds → RWs K F loc (ds.map W.d) vs
  | [], _, r => by cases r; exact .nil
  | d :: ds, _, r => by
    cases r with
    | cons h t => exact .cons h (rws_of_dpAll t)
theorem dqAll_ints {F : Hp} : ∀ {ns : List Int}, DqAll F (ns.map V.int) (ns.map PyData.int)
  | [] => .nil
  | _ :: _ => .cons (.int _) dqAll_ints
theorem sqL_of {a : Addr} {xs : List V} (h : H a = some (.lst xs)) : SqL K H a xs := .inl (.inl h)
theorem sqT_of {a : Addr} {xs : List V} (h : H a = some (.tup xs)) : SqT K H a xs := .inl (.inl h)
/-- it can be read as such -/
theorem tview_dp (S : Sim K F loc B H) {w : W} {v : V} {d : PyData} (h : tview B w = some d) (r : RW K F loc w v) : Dp K H v d := by
  cases w with
  | d x =>
    have e : some x = some d := h
    cases e
    exact dq_dp (dp_mono S.ex r)
  | scr ns =>
    obtain ⟨a, rfl, ha⟩ := r
    have e : some (PyData.list (ns.map PyData.int)) = some d := h
    cases e
    exact .lst (sqL_mono S.ex ha) (dqAll_dp dqAll_ints)
  | box n =>
    obtain ⟨a, rfl, ha⟩ := r
    unfold tview at h
    dsimp only at h
    split at h
    · rename_i ws hb
      obtain ⟨_, o, ho, r⟩ := S.box n a _ ha hb
      obtain ⟨vs, rfl, r⟩ := r
      cases q : datas ws with
      | none => rw [q] at h; cases h
      | some ds =>
        rw [q] at h
        have e : some (PyData.list ds) = some d := h
        cases e
        rw [datas_eq q] at r
        exact .lst (sqL_of ho) (dqAll_dp (dpAll_mono S.ex (dpAll_of_rws r)))
    · cases h
/-- the items of a list in the heap, frozen or boxed: they are frozen -/
theorem tview_items (S : Sim K F loc B H) {w : W} {v : V} {ds : List PyData} (h : tview B w = some (.list ds)) (r : RW K F loc w v) : ∃ a xs, v = .ref a ∧ SqL K H a xs ∧ DqAll F xs ds := by
  cases w with
  | d x =>
    have e : some x = some (PyData.list ds) := h
    cases e
    cases r with
    | lst h1 h2 => exact ⟨_, _, rfl, sqL_of (S.ex _ _ h1), h2⟩
  | scr ns =>
    obtain ⟨a, rfl, ha⟩ := r
    have e : some (PyData.list (ns.map PyData.int)) = some (PyData.list ds) := h
    cases e
    exact ⟨a, _, rfl, sqL_mono S.ex ha, dqAll_ints⟩
  | box n =>
    obtain ⟨a, rfl, ha⟩ := r
    unfold tview at h
    dsimp only at h
    split at h
    · rename_i ws hb
      obtain ⟨_, o, ho, r⟩ := S.box n a _ ha hb
      obtain ⟨vs, rfl, r⟩ := r
      cases q : datas ws with
      | none => rw [q] at h; cases h
      | some es =>
        rw [q] at h
        have e : some (PyData.list es) = some (PyData.list ds) := h
        cases e
        rw [datas_eq q] at r
        exact ⟨a, vs, rfl, sqL_of ho, dpAll_of_rws r⟩
    · cases h
theorem tview_titems (S : Sim K F loc B H) {w : W} {v : V} {ds : List PyData} (h : tview B w = some (.tuple ds)) (r : RW K F loc w v) : ∃ a xs, v = .ref a ∧ SqT K H a xs ∧ DqAll F xs ds := by
  cases w with
  | d x =>
    have e : some x = some (PyData.tuple ds) := h
    cases e
    cases r with
    | tup h1 h2 => exact ⟨_, _, rfl, sqT_of (S.ex _ _ h1), h2⟩
  | scr ns => cases h
  | box n =>
    unfold tview at h
    dsimp only at h
    split at h
    · rename_i ws hb
      cases q : datas ws with
      | none => rw [q] at h; cases h
      | some es => rw [q] at h; cases h
    · cases h
theorem dp_int {v : V} {i : Int} (h : Dp K H v (.int i)) : v = .int i := by cases h; rfl
theorem dp_bool {v : V} {i : Bool} (h : Dp K H v (.bool i)) : v = .bl i := by cases h; rfl
theorem dp_str {v : V} {i : Str} (h : Dp K H v (.str i)) : v = .str i := by cases h; rfl
theorem dp_none {v : V} (h : Dp K H v .none) : v = .non := by cases h; rfl
theorem dq_int {F : Hp} {v : V} {i : Int} (h : Dq F v (.int i)) : v = .int i := by cases h; rfl
theorem dq_bool {F : Hp} {v : V} {i : Bool} (h : Dq F v (.bool i)) : v = .bl i := by cases h; rfl
theorem dq_str {F : Hp} {v : V} {i : Str} (h : Dq F v (.str i)) : v = .str i := by cases h; rfl
theorem tview_int (S : Sim K F loc B H) {w : W} {v : V} {i : Int} (h : tview B w = some (.int i)) (r : RW K F loc w v) : v = .int i := dp_int (tview_dp S h r)
theorem tview_bool (S : Sim K F loc B H) {w : W} {v : V} {i : Bool} (h : tview B w = some (.bool i)) (r : RW K F loc w v) : v = .bl i := dp_bool (tview_dp S h r)
theorem tview_str (S : Sim K F loc B H) {w : W} {v : V} {i : Str} (h : tview B w = some (.str i)) (r : RW K F loc w v) : v = .str i := dp_str (tview_dp S h r)
theorem tview_none (S : Sim K F loc B H) {w : W} {v : V} (h : tview B w = some .none) (r : RW K F loc w v) : v = .non := dp_none (tview_dp S h r)
end
/-- the line that made lists and texts keep under -/
def LN : Nat := 1000000
theorem LN_le {n : Nat} (h : n ≤ LN) : n ≤ sizeLine := Nat.le_trans h (by decide)
theorem LN_lt {n : Nat} (h : n ≤ LN) : n < sizeLine := Nat.lt_of_le_of_lt h (by decide)

/-! ### operations on data: what comes out is new, or flat -/
abbrev P1 := PyData → Option PyData
abbrev P2 := PyData → PyData → Option PyData
/-- two operands, read as data; the result is data -/
def bin2 (p : P2) (f g : De) : De := fun ρ B => (f ρ B).bind fun x B1 => (g ρ B1).bind fun y B2 =>
  match tview B2 x, tview B2 y with
  | some a, some b => match p a b with
    | some c => .ok (.d c) B2
    | none => .bad
  | _, _ => .bad
@[simp] theorem bin2_eq (p : P2) (f g : De) (ρ : En) (B : Bs) : bin2 p f g ρ B = (f ρ B).bind fun x B1 => (g ρ B1).bind fun y B2 =>
  match tview B2 x, tview B2 y with
  | some a, some b => match p a b with
    | some c => .ok (.d c) B2
    | none => .bad
  | _, _ => .bad := rfl
section
variable {X : Cx}
/-- what a two-place operation must do -/
def Op2 (X : Cx) (r : R2) (p : P2) : Prop := ∀ (F : Hp) (loc : List Addr) (B : Bs) (H : Hp) (x y : V) (wx wy : W) (a b c : PyData) (Q : VK), Sim X.K F loc B H → RW X.K F loc wx x → RW X.K F loc wy y → tview B wx = some a → tview B wy = some b → p a b = some c →
  Pst X.K (RW X.K) F loc H (.ok (.d c) B) Q → r x y H Q
theorem e_bin2 {e : Expr} {r : R2} {p : P2} {a b : Expr} {f g : De} (h : ∀ {ta tb : TE}, PE X a ta → PE X b tb → PE X e (tOp r ta tb)) (o : Op2 X r p) (ha : PE X a (tE X.K f)) (hb : PE X b (tE X.K g)) : PE X e (tE X.K (bin2 p f g)) := by
  refine pe_imp (h ha hb) fun σ H Q ⟨F, loc, ρ, B, S, R, P⟩ => ?_
  refine ⟨F, loc, ρ, B, S, R, Pst.bind P fun x B1 F1 loc1 H1 v1 e1 E1 S1 r1 P1 => ?_⟩
  refine ⟨F1, loc1, ρ, B1, S1, R.ext E1, Pst.bind P1 fun y B2 F2 loc2 H2 v2 e2 E2 S2 r2 P2 => ?_⟩
  have r1' : RW X.K F2 loc2 x v1 := rw_mono E2.ex E2.pre r1
  cases q1 : tview B2 x with
  | none => rw [q1] at P2; exact P2.elim
  | some a =>
    cases q2 : tview B2 y with
    | none => rw [q1, q2] at P2; exact P2.elim
    | some b =>
      simp only [q1, q2] at P2
      cases q3 : p a b with
      | none => rw [q3] at P2; exact P2.elim
      | some c =>
        rw [q3] at P2
        exact o F2 loc2 B2 H2 v1 v2 x y a b c Q S2 r1' r2 q1 q2 q3 P2
theorem Op2.or {r r' : R2} {p p' : P2} (o : Op2 X r p) (o' : Op2 X r' p') : Op2 X (fun x y H Q => r x y H Q ∨ r' x y H Q) (fun a b => (p a b).orElse fun _ => p' a b) := by
  intro F loc B H x y wx wy a b c Q S r1 r2 h1 h2 h3 P
  dsimp only at h3
  cases q : p a b with
  | some z =>
    rw [q] at h3
    have e : some z = some c := h3
    cases e
    exact .inl (o F loc B H x y wx wy a b _ Q S r1 r2 h1 h2 q P)
  | none =>
    rw [q] at h3
    exact .inr (o' F loc B H x y wx wy a b c Q S r1 r2 h1 h2 h3 P)
theorem OpR.or2 {f : Value → Value → Sem Value} {r r' : R2} (h : OpR X f r) (h' : OpR X f r') : OpR X f (fun x y H Q => r x y H Q ∨ r' x y H Q) := fun pins s σ H x y v u Q I rx ry q => q.elim (h pins s σ H x y v u Q I rx ry) (h' pins s σ H x y v u Q I rx ry)
/-- flat results -/
theorem Pst.flat {K : PySem.W.Frag} {F : Hp} {loc : List Addr} {H : Hp} {B : Bs} {Q : VK} {c : PyData} {v : V} (S : Sim K F loc B H) (P : Pst K (RW K) F loc H (.ok (.d c) B) Q) (h : Dq F v c) : Q v H := P F loc H v Ext.refl S h
/-- a new list, a new tuple of frozen things -/
theorem Pst.newL {K : PySem.W.Frag} {F : Hp} {loc : List Addr} {H : Hp} {B : Bs} {Q : VK} {ds : List PyData} {xs : List V} (S : Sim K F loc B H) (P : Pst K (RW K) F loc H (.ok (.d (.list ds)) B) Q) (h : DqAll F xs ds) {p : Addr} (hp : H p = none) : Q (.ref p) (upd H p (.lst xs)) := by
  obtain ⟨S', E⟩ := S.new hp (.lst xs)
  exact P _ _ _ _ E S' (.lst upd_same (dpAll_mono E.ex h))
theorem Pst.newT {K : PySem.W.Frag} {F : Hp} {loc : List Addr} {H : Hp} {B : Bs} {Q : VK} {ds : List PyData} {xs : List V} (S : Sim K F loc B H) (P : Pst K (RW K) F loc H (.ok (.d (.tuple ds)) B) Q) (h : DqAll F xs ds) {p : Addr} (hp : H p = none) : Q (.ref p) (upd H p (.tup xs)) := by
  obtain ⟨S', E⟩ := S.new hp (.tup xs)
  exact P _ _ _ _ E S' (.tup upd_same (dpAll_mono E.ex h))

/-! ### ints -/
def pI (c : Int → Int → Bool) (g : Int → Int → Int) : P2
  | .int i, .int j => if c i j = true then some (.int (g i j)) else none
  | _, _ => none
theorem op2_I {C : Int → Int → Prop} {c : Int → Int → Bool} {g : Int → Int → Int} (hc : ∀ i j, c i j = true → C i j) : Op2 X (rI C fun i j => .int (g i j)) (pI c g) := by
  intro F loc B H x y wx wy a b z Q S r1 r2 h1 h2 h3 P
  cases a with
  | int i =>
    cases b with
    | int j =>
      have h3' : (if c i j = true then some (PyData.int (g i j)) else none) = some z := h3
      by_cases hq : c i j = true
      · rw [if_pos hq] at h3'
        cases h3'
        exact ⟨i, j, tview_int S h1 r1, tview_int S h2 r2, hc i j hq, P.flat S (.int _)⟩
      · rw [if_neg hq] at h3'; cases h3'
    | _ => cases h3
  | _ => cases h3
def yes2 : Int → Int → Bool := fun _ _ => true
def pAddI : P2 := pI yes2 (· + ·)
def pSubI : P2 := pI yes2 (· - ·)
def cMul : Int → Int → Bool := fun i j => decide (i.natAbs.log2 + j.natAbs.log2 < 1000000)
def pMulI : P2 := pI cMul (· * ·)
def cFdiv : Int → Int → Bool := fun i j => decide (0 < j) && decide (j.natAbs.log2 < 9000)
def pFdiv : P2 := pI cFdiv (· / ·)
def cMod : Int → Int → Bool := fun _ j => decide (0 < j)
def pMod : P2 := pI cMod (· % ·)
def cPow : Int → Int → Bool := fun i j => decide (0 ≤ j) && decide (Builtin.Int.intBits i * j.toNat ≤ 134217728)
def pPow : P2 := pI cPow fun i j => i ^ j.toNat
theorem rI0_rI {g : Int → Int → V} {x y : V} {H : Hp} {Q : VK} (h : rI (fun _ _ => True) g x y H Q) : rI0 g x y H Q := by
  obtain ⟨i, j, h1, h2, _, h3⟩ := h
  exact ⟨i, j, h1, h2, h3⟩
theorem op2_I0 {g : Int → Int → Int} : Op2 X (rI0 fun i j => .int (g i j)) (pI yes2 g) := fun F loc B H x y wx wy a b z Q S r1 r2 h1 h2 h3 P => rI0_rI (op2_I (C := fun _ _ => True) (fun _ _ _ => trivial) F loc B H x y wx wy a b z Q S r1 r2 h1 h2 h3 P)
theorem op_powW : OpR X (binaryOp .Pow) (rI (fun i j => 0 ≤ j ∧ (Builtin.Int.intBits i : Int) * j ≤ 2 ^ 27) fun i j => .int (i ^ j.toNat)) := opI fun _ _ _ _ _ _ _ hc q => pow_int hc.1 hc.2 q

/-! ### lists and tuples, + -/
def rCatS (K : PySem.W.Frag) : R2 := fun x y H Q => ∃ l b xs zs, x = .ref l ∧ y = .ref b ∧ SqL K H l xs ∧ SqL K H b zs ∧ xs.length + zs.length ≤ sizeLine ∧ ∀ p, H p = none → Q (.ref p) (upd H p (.lst (xs ++ zs)))
theorem op_catS : OpR X (binaryOp .Add) (rCatS X.K) := by
  intro pins s σ H x y v u Q I rx ry h
  obtain ⟨l, b, xs, zs, rfl, rfl, hH, hB, hz, q⟩ := h
  cases rx
  cases ry
  obtain ⟨its, r, hl, _⟩ := I.list hH
  obtain ⟨its2, r2, hl2, _⟩ := I.list hB
  obtain ⟨⟨cls, dd, data, sl⟩, n, ho, hc, _, hd⟩ := hl
  obtain ⟨⟨cls2, dd2, data2, sl2⟩, n2, ho2, hc2, _, hd2⟩ := hl2
  simp only at hc hd hc2 hd2
  subst hc hd hc2 hd2
  have e : its.toArray ++ its2.toArray = (its ++ its2).toArray := by simp
  have z1 := r.length
  have z2 := r2.length
  refine concat_meets ⟨_, ho, rfl⟩ ⟨_, ho2, rfl⟩ noFill_list_add seq_list_add PySem.F.slot_list_add PySem.F.entry_list_add (PySem.F.args_list_add_2 _ _) (list_addW l b its.toArray its2.toArray n n2 dd dd2 sl sl2 (by simp; omega)) ⟨ho, ho2, ?_⟩
  rw [e]
  exact ⟨.ref _, _, I.lnew (t' := s.toks) (r.append r2) (by rw [List.length_append]; omega), rfl, q _ I.fresh⟩
def pCatL : P2
  | .list xs, .list ys => if xs.length + ys.length ≤ LN then some (.list (xs ++ ys)) else none
  | _, _ => none
theorem op2_catL : Op2 X (rCatS X.K) pCatL := by
  intro F loc B H x y wx wy a b z Q S r1 r2 h1 h2 h3 P
  cases a with
  | list xs =>
    cases b with
    | list ys =>
      have h3' : (if xs.length + ys.length ≤ LN then some (PyData.list (xs ++ ys)) else none) = some z := h3
      by_cases hq : xs.length + ys.length ≤ LN
      · rw [if_pos hq] at h3'
        cases h3'
        obtain ⟨a, vs, rfl, g1, g2⟩ := tview_items S h1 r1
        obtain ⟨b, us, rfl, g3, g4⟩ := tview_items S h2 r2
        exact ⟨a, b, vs, us, rfl, rfl, g1, g3, by rw [dpAll_len g2, dpAll_len g4]; exact LN_le hq, fun p hp => P.newL S (dpAll_app g2 g4) hp⟩
      · rw [if_neg hq] at h3'; cases h3'
    | _ => cases h3
  | _ => cases h3
def pCatT : P2
  | .tuple xs, .tuple ys => if xs.length + ys.length ≤ LN then some (.tuple (xs ++ ys)) else none
  | _, _ => none
theorem op2_catT : Op2 X (rCatA X.K) pCatT := by
  intro F loc B H x y wx wy a b z Q S r1 r2 h1 h2 h3 P
  cases a with
  | tuple xs =>
    cases b with
    | tuple ys =>
      have h3' : (if xs.length + ys.length ≤ LN then some (PyData.tuple (xs ++ ys)) else none) = some z := h3
      by_cases hq : xs.length + ys.length ≤ LN
      · rw [if_pos hq] at h3'
        cases h3'
        cases wx with
        | box n => exact absurd (tview_titems S h1 r1) (by
            intro _
            unfold tview at h1
            dsimp only at h1
            split at h1
            · rename_i ws _
              cases q : datas ws <;> rw [q] at h1 <;> cases h1
            · cases h1)
        | scr ns => cases h1
        | d xd =>
          cases wy with
          | scr ns => cases h2
          | box n => exact absurd (tview_titems S h2 r2) (by
              intro _
              unfold tview at h2
              dsimp only at h2
              split at h2
              · rename_i ws _
                cases q : datas ws <;> rw [q] at h2 <;> cases h2
              · cases h2)
          | d yd =>
            have e1 : some xd = some (PyData.tuple xs) := h1
            have e2 : some yd = some (PyData.tuple ys) := h2
            cases e1; cases e2
            obtain ⟨a, vs, rfl, g1, g2⟩ := tview_titems S h1 r1
            obtain ⟨b, us, rfl, g3, g4⟩ := tview_titems S h2 r2
            refine ⟨a, b, vs, us, rfl, rfl, g1, g3, by rw [dpAll_len g2, dpAll_len g4]; exact LN_le hq, fun e => ?_, fun e e' => ?_, fun e e' p hp => P.newT S (dpAll_app g2 g4) hp⟩
            · subst e
              cases g2
              exact P.flat S r2
            · subst e'
              cases g4
              rw [List.append_nil] at P
              exact P.flat S r1
      · rw [if_neg hq] at h3'; cases h3'
    | _ => cases h3
  | _ => cases h3
def pCatS : P2
  | .str xs, .str ys => if xs.length + ys.length ≤ LN then some (.str (xs ++ ys)) else none
  | _, _ => none
theorem op2_catS : Op2 X (fun x y H Q => ∃ i j : Str, x = .str i ∧ y = .str j ∧ i.length + j.length ≤ sizeLine ∧ Q (.str (i ++ j)) H) pCatS := by
  intro F loc B H x y wx wy a b z Q S r1 r2 h1 h2 h3 P
  cases a with
  | str xs =>
    cases b with
    | str ys =>
      have h3' : (if xs.length + ys.length ≤ LN then some (PyData.str (xs ++ ys)) else none) = some z := h3
      by_cases hq : xs.length + ys.length ≤ LN
      · rw [if_pos hq] at h3'
        cases h3'
        exact ⟨xs, ys, tview_str S h1 r1, tview_str S h2 r2, LN_le hq, P.flat S (.str _)⟩
      · rw [if_neg hq] at h3'; cases h3'
    | _ => cases h3
  | _ => cases h3
/-- + -/
def pAdd : P2 := fun a b => match a, b with
  | .int i, .int j => some (.int (i + j))
  | .list xs, .list ys => if xs.length + ys.length ≤ LN then some (.list (xs ++ ys)) else none
  | .tuple xs, .tuple ys => if xs.length + ys.length ≤ LN then some (.tuple (xs ++ ys)) else none
  | .str xs, .str ys => if xs.length + ys.length ≤ LN then some (.str (xs ++ ys)) else none
  | _, _ => none
theorem op2_eq {r : R2} {p p' : P2} (o : Op2 X r p) (h : ∀ a b c, p' a b = some c → p a b = some c) : Op2 X r p' := fun F loc B H x y wx wy a b c Q S r1 r2 h1 h2 h3 P => o F loc B H x y wx wy a b c Q S r1 r2 h1 h2 (h a b c h3) P
variable {a b : Expr} {f g : De} {pos : Pos}
theorem e_add (ha : PE X a (tE X.K f)) (hb : PE X b (tE X.K g)) : PE X (.BinOp a .Add b pos) (tE X.K (bin2 pAdd f g)) :=
  e_bin2 (fun h1 h2 => pe_op (OpR.or2 op_add (OpR.or2 op_catS (OpR.or2 op_catA op_add_str))) h1 h2)
    (op2_eq (Op2.or op2_I0 (Op2.or op2_catL (Op2.or op2_catT op2_catS))) fun a b c h => by
      cases a with
      | int i => cases b <;> first | exact h | (exfalso; cases h)
      | list xs =>
        cases b with
        | list ys =>
          have h' : pCatL (.list xs) (.list ys) = some c := h
          show ((pCatL (.list xs) (.list ys)).orElse _) = some c
          rw [h']; rfl
        | _ => exfalso; cases h
      | tuple xs =>
        cases b with
        | tuple ys =>
          have h' : pCatT (.tuple xs) (.tuple ys) = some c := h
          show ((pCatT (.tuple xs) (.tuple ys)).orElse _) = some c
          rw [h']; rfl
        | _ => exfalso; cases h
      | str xs => cases b <;> first | exact h | (exfalso; cases h)
      | _ => exfalso; cases h) ha hb
theorem e_sub (ha : PE X a (tE X.K f)) (hb : PE X b (tE X.K g)) : PE X (.BinOp a .Sub b pos) (tE X.K (bin2 pSubI f g)) := e_bin2 (fun h1 h2 => pe_op op_sub h1 h2) op2_I0 ha hb
theorem e_mul (ha : PE X a (tE X.K f)) (hb : PE X b (tE X.K g)) : PE X (.BinOp a .Mult b pos) (tE X.K (bin2 pMulI f g)) := e_bin2 (fun h1 h2 => pe_op op_mulW h1 h2) (op2_I fun i j h => of_decide_eq_true (p := i.natAbs.log2 + j.natAbs.log2 < 1000000) h) ha hb
theorem e_fdiv (ha : PE X a (tE X.K f)) (hb : PE X b (tE X.K g)) : PE X (.BinOp a .FloorDiv b pos) (tE X.K (bin2 pFdiv f g)) := e_bin2 (fun h1 h2 => pe_op op_fdivW h1 h2) (op2_I fun i j h => by
  have h' : (decide (0 < j) && decide (j.natAbs.log2 < 9000)) = true := h
  rw [Bool.and_eq_true] at h'
  exact ⟨of_decide_eq_true h'.1, of_decide_eq_true h'.2⟩) ha hb
theorem e_mod (ha : PE X a (tE X.K f)) (hb : PE X b (tE X.K g)) : PE X (.BinOp a .Mod b pos) (tE X.K (bin2 pMod f g)) := e_bin2 (fun h1 h2 => pe_op op_mod h1 h2) (op2_I fun i j h => of_decide_eq_true (p := 0 < j) h) ha hb
theorem e_pow (ha : PE X a (tE X.K f)) (hb : PE X b (tE X.K g)) : PE X (.BinOp a .Pow b pos) (tE X.K (bin2 pPow f g)) := e_bin2 (fun h1 h2 => pe_op op_powW h1 h2) (op2_I fun i j h => by
  have h' : (decide (0 ≤ j) && decide (Builtin.Int.intBits i * j.toNat ≤ 134217728)) = true := h
  rw [Bool.and_eq_true] at h'
  have h1 : 0 ≤ j := of_decide_eq_true h'.1
  have h2 : Builtin.Int.intBits i * j.toNat ≤ 134217728 := of_decide_eq_true h'.2
  refine ⟨h1, ?_⟩
  have e : ((j.toNat : Nat) : Int) = j := Int.toNat_of_nonneg h1
  have h3 : ((Builtin.Int.intBits i * j.toNat : Nat) : Int) ≤ ((134217728 : Nat) : Int) := Int.ofNat_le.mpr h2
  rw [Int.natCast_mul, e] at h3
  exact h3) ha hb

/-! ### names and constants -/
def slotF (i : Nat) : De := fun ρ B => match ρ[i]? with
  | some (some w) => .ok w B
  | _ => .bad
theorem e_slot (i : Nat) {x : Str} {pos : Pos} (hN : X.N[i]? = some x := by rfl) (hv : Vis X.env.scope x := by first | exact Or.inl rfl | exact Or.inr (Or.inl rfl) | exact Or.inr (Or.inr rfl)) (hd : (x == ("__debug__" : Str)) = false := by decide)
    (hcd : (x == ("__classdict__" : Str)) = false := by decide) : PE X (.Name x pos) (tE X.K (slotF i)) := by
  refine pe_imp (pe_var hN hv hd hcd) fun σ H Q ⟨F, loc, ρ, B, S, R, P⟩ => ?_
  unfold slotF at P
  split at P
  · rename_i w e
    obtain ⟨v, g1, g2⟩ := R.get i w e
    exact ⟨v, g1, P.here S g2⟩
  · exact P.elim
def constF (d : PyData) : De := fun _ B => .ok (.d d) B
@[simp] theorem constF_eq (d : PyData) (ρ : En) (B : Bs) : constF d ρ B = .ok (.d d) B := rfl
theorem e_const {e : Expr} {v : V} {d : PyData} (h : PE X e (tC v)) (hd : ∀ F, Dq F v d) : PE X e (tE X.K (constF d)) := by
  refine pe_imp h fun σ H Q ⟨F, loc, ρ, B, S, R, P⟩ => ?_
  exact P.here S (hd F)
theorem e_int {i j pos} : PE X (.Constant (.int i) j pos) (tE X.K (constF (.int i))) := e_const pe_int fun _ => .int i
theorem e_bl {i j pos} : PE X (.Constant (.bool i) j pos) (tE X.K (constF (.bool i))) := e_const pe_bl fun _ => .bl i
theorem e_str {i j pos} : PE X (.Constant (.str i) j pos) (tE X.K (constF (.str i))) := e_const pe_str fun _ => .str i
theorem e_non {j pos} : PE X (.Constant .none j pos) (tE X.K (constF .none)) := e_const pe_non fun _ => .non

/-! ### arguments, displays -/
def nilF : Da := fun _ B => .ok [] B
@[simp] theorem nilF_eq (ρ : En) (B : Bs) : nilF ρ B = .ok [] B := rfl
def consF (f : De) (g : Da) : Da := fun ρ B => (f ρ B).bind fun w B1 => (g ρ B1).bind fun ws B2 => .ok (w :: ws) B2
@[simp] theorem consF_eq (f : De) (g : Da) (ρ : En) (B : Bs) : consF f g ρ B = (f ρ B).bind fun w B1 => (g ρ B1).bind fun ws B2 => .ok (w :: ws) B2 := rfl
theorem a_nil : PA X [] (tA X.K nilF) := pa_imp pa_nil fun σ H Q ⟨F, loc, ρ, B, S, R, P⟩ => P.here S .nil
theorem a_cons {e : Expr} {es : List Expr} {f : De} {g : Da} (he : PE X e (tE X.K f)) (hr : PA X es (tA X.K g)) (hs : starEach (e :: es) X.env = (false, eval e X.env) :: starEach es X.env := by rfl) : PA X (e :: es) (tA X.K (consF f g)) := by
  refine pa_imp (pa_cons he hr hs) fun σ H Q ⟨F, loc, ρ, B, S, R, P⟩ => ?_
  refine ⟨F, loc, ρ, B, S, R, Pst.bind P fun x B1 F1 loc1 H1 v1 e1 E1 S1 r1 P1 => ?_⟩
  refine ⟨F1, loc1, ρ, B1, S1, R.ext E1, Pst.bind P1 fun y B2 F2 loc2 H2 v2 e2 E2 S2 r2 P2 => ?_⟩
  exact P2.here S2 (.cons (rw_mono E2.ex E2.pre r1) r2)
def lstF (g : Da) : De := fun ρ B => (g ρ B).bind fun ws B1 => match datas ws with
  | some ds => if ds.length ≤ LN then .ok (.d (.list ds)) B1 else .bad
  | none => .bad
def tupF (g : Da) : De := fun ρ B => (g ρ B).bind fun ws B1 => match datas ws with
  | some ds => if ds.length ≤ LN then .ok (.d (.tuple ds)) B1 else .bad
  | none => .bad
def boxF (g : Da) : De := fun ρ B => (g ρ B).bind fun ws B1 => if ws.length ≤ LN then .ok (.box B1.length) (B1 ++ [some (.lst ws)]) else .bad
variable {es : List Expr} {ga : Da}
theorem rws_len {K : PySem.W.Frag} {F : Hp} {loc : List Addr} {ws : List W} {vs : List V} (r : RWs K F loc ws vs) : ws.length = vs.length := Paired.length r
theorem e_lst (h : PA X es (tA X.K ga)) : PE X (.List es pos) (tE X.K (lstF ga)) := by
  refine pe_imp (pe_lst h) fun σ H Q ⟨F, loc, ρ, B, S, R, P⟩ => ?_
  refine ⟨F, loc, ρ, B, S, R, Pst.bind P fun ws B1 F1 loc1 H1 vs e1 E1 S1 r1 P1 => ?_⟩
  cases q : datas ws with
  | none => rw [q] at P1; exact P1.elim
  | some ds =>
    rw [q] at P1
    simp only at P1
    rw [datas_eq q] at r1
    have r2 := dpAll_of_rws r1
    by_cases hl : ds.length ≤ LN
    · rw [if_pos hl] at P1
      exact ⟨by rw [dpAll_len r2]; exact LN_le hl, fun p hp => P1.newL S1 r2 hp⟩
    · rw [if_neg hl] at P1; exact P1.elim
theorem e_tup {x1} (h : PA X es (tA X.K ga)) : PE X (.Tuple es x1 pos) (tE X.K (tupF ga)) := by
  refine pe_imp (pe_tup h) fun σ H Q ⟨F, loc, ρ, B, S, R, P⟩ => ?_
  refine ⟨F, loc, ρ, B, S, R, Pst.bind P fun ws B1 F1 loc1 H1 vs e1 E1 S1 r1 P1 => ?_⟩
  cases q : datas ws with
  | none => rw [q] at P1; exact P1.elim
  | some ds =>
    rw [q] at P1
    simp only at P1
    rw [datas_eq q] at r1
    have r2 := dpAll_of_rws r1
    by_cases hl : ds.length ≤ LN
    · rw [if_pos hl] at P1
      exact ⟨by rw [dpAll_len r2]; exact LN_le hl, fun p hp => P1.newT S1 r2 hp⟩
    · rw [if_neg hl] at P1; exact P1.elim
theorem Pst.box {K : PySem.W.Frag} {F : Hp} {loc : List Addr} {H : Hp} {B : Bs} {Q : VK} {b : Bx} {o : HO} (S : Sim K F loc B H) (P : Pst K (RW K) F loc H (.ok (.box B.length) (B ++ [some b])) Q) (h : RBx K F loc b o) {p : Addr} (hp : H p = none) : Q (.ref p) (upd H p o) := by
  obtain ⟨S', E⟩ := S.newBox hp h
  exact P _ _ _ _ E S' ⟨p, rfl, by rw [← S.len, List.getElem?_append_right (Nat.le_refl _), Nat.sub_self]; rfl⟩
theorem e_box (h : PA X es (tA X.K ga)) : PE X (.List es pos) (tE X.K (boxF ga)) := by
  refine pe_imp (pe_lst h) fun σ H Q ⟨F, loc, ρ, B, S, R, P⟩ => ?_
  refine ⟨F, loc, ρ, B, S, R, Pst.bind P fun ws B1 F1 loc1 H1 vs e1 E1 S1 r1 P1 => ?_⟩
  by_cases hl : ws.length ≤ LN
  · rw [if_pos hl] at P1
    exact ⟨by rw [← rws_len r1]; exact LN_le hl, fun p hp => P1.box S1 ⟨vs, rfl, r1⟩ hp⟩
  · rw [if_neg hl] at P1; exact P1.elim
/-- {} whose keys will be ints and texts; tuples -/
def dictF : De := fun _ B => .ok (.box B.length) (B ++ [some (.dK [])])
def dictTF : De := fun _ B => .ok (.box B.length) (B ++ [some (.dT [])])
theorem e_dict : PE X (.Dict [] [] pos) (tE X.K dictF) := pe_imp pe_dnewK fun σ H Q ⟨F, loc, ρ, B, S, R, P⟩ p hp => P.box S ⟨[], rfl, .nil⟩ hp
theorem e_dictT : PE X (.Dict [] [] pos) (tE X.K dictTF) := pe_imp pe_dnewT fun σ H Q ⟨F, loc, ρ, B, S, R, P⟩ p hp => P.box S ⟨[], rfl, .nil⟩ hp
/-- a list in a box is frozen: it's plain data from here on -/
def frzF (f : De) : De := fun ρ B => (f ρ B).bind fun w B1 => match w with
  | .d x => .ok (.d x) B1
  | .scr _ => .bad
  | .box n => match tview B1 (.box n) with
    | some d => .ok (.d d) (B1.set n none)
    | none => .bad
theorem e_frz {e : Expr} (h : PE X e (tE X.K f)) : PE X e (tE X.K (frzF f)) := by
  refine pe_imp h fun σ H Q ⟨F, loc, ρ, B, S, R, P⟩ => ?_
  refine ⟨F, loc, ρ, B, S, R, Pst.bind P fun w B1 F1 loc1 H1 v e1 E1 S1 r1 P1 => ?_⟩
  cases w with
  | d x => exact P1.here S1 r1
  | scr _ => exact P1.elim
  | box n =>
    simp only at P1
    cases q : tview B1 (.box n) with
    | none => rw [q] at P1; exact P1.elim
    | some d =>
      rw [q] at P1
      simp only at P1
      obtain ⟨a, rfl, ha⟩ := r1
      have q' := q
      unfold tview at q'
      dsimp only at q'
      split at q'
      · rename_i ws hb
        obtain ⟨_, o, ho, r⟩ := S1.box n a _ ha hb
        obtain ⟨vs, rfl, r⟩ := r
        obtain ⟨S2, E2⟩ := S1.freeze ha hb ho
        cases q2 : datas ws with
        | none => rw [q2] at q'; cases q'
        | some ds =>
          rw [q2] at q'
          have e : some (PyData.list ds) = some d := q'
          cases e
          rw [datas_eq q2] at r
          exact P1 _ _ _ _ E2 S2 (.lst upd_same (dpAll_mono E2.ex (dpAll_of_rws r)))
      · cases q'
/-- xs + ys in a new box -/
def addbF (f g : De) : De := fun ρ B => (f ρ B).bind fun x B1 => (g ρ B1).bind fun y B2 => match tview B2 x, tview B2 y with
  | some (.list xs), some (.list ys) => if xs.length + ys.length ≤ LN then .ok (.box B2.length) (B2 ++ [some (.lst ((xs ++ ys).map W.d))]) else .bad
  | _, _ => .bad
theorem e_addb {a b : Expr} {f g : De} {pos : Pos} (ha : PE X a (tE X.K f)) (hb : PE X b (tE X.K g)) : PE X (.BinOp a .Add b pos) (tE X.K (addbF f g)) := by
  refine pe_imp (pe_op op_catS ha hb) fun σ H Q ⟨F, loc, ρ, B, S, R, P⟩ => ?_
  refine ⟨F, loc, ρ, B, S, R, Pst.bind P fun x B1 F1 loc1 H1 v1 e1 E1 S1 r1 P1 => ?_⟩
  refine ⟨F1, loc1, ρ, B1, S1, R.ext E1, Pst.bind P1 fun y B2 F2 loc2 H2 v2 e2 E2 S2 r2 P2 => ?_⟩
  have r1' : RW X.K F2 loc2 x v1 := rw_mono E2.ex E2.pre r1
  split at P2
  · rename_i xs ys q1 q2
    split at P2
    · rename_i hq
      obtain ⟨a, vs, rfl, g1, g2⟩ := tview_items S2 q1 r1'
      obtain ⟨b, us, rfl, g3, g4⟩ := tview_items S2 q2 r2
      exact ⟨a, b, vs, us, rfl, rfl, g1, g3, by rw [dpAll_len g2, dpAll_len g4]; exact LN_le hq, fun p hp => Pst.box S2 P2 ⟨_, rfl, rws_of_dpAll (dpAll_app g2 g4)⟩ hp⟩
    · exact P2.elim
  · exact P2.elim
end
end Mini

namespace Mini
open PySem PySem.Spec PyProof.Rows L2
section
variable {X : Cx} {a b c e : Expr} {f g h : De} {pos : Pos}
def negF (f : De) : De := fun ρ B => (f ρ B).bind fun x B1 => match tview B1 x with
    | some (.int i) => .ok (.d (.int (-i))) B1
    | _ => .bad
theorem e_neg (ha : PE X a (tE X.K f)) : PE X (.UnaryOp .USub a pos) (tE X.K (negF f)) := by
  refine pe_imp (pe_un un_neg ha) fun σ H Q ⟨F, loc, ρ, B, S, R, P⟩ => ?_
  refine ⟨F, loc, ρ, B, S, R, Pst.bind P fun x B1 F1 loc1 H1 v1 e1 E1 S1 r1 P1 => ?_⟩
  cases q : tview B1 x with
  | none => rw [q] at P1; exact P1.elim
  | some d =>
    rw [q] at P1
    cases d with
    | int i => exact ⟨i, tview_int S1 q r1, P1.flat S1 (.int _)⟩
    | _ => exact P1.elim

/-! ### comparisons -/
def pB (g : Int → Int → Bool) : P2
  | .int i, .int j => some (.bool (g i j))
  | _, _ => none
theorem op2_B {g : Int → Int → Bool} : Op2 X (rI0 fun i j => .bl (g i j)) (pB g) := by
  intro F loc B H x y wx wy a b z Q S r1 r2 h1 h2 h3 P
  cases a with
  | int i =>
    cases b with
    | int j =>
      have h3' : some (PyData.bool (g i j)) = some z := h3
      cases h3'
      exact ⟨i, j, tview_int S h1 r1, tview_int S h2 r2, P.flat S (.bl _)⟩
    | _ => cases h3
  | _ => cases h3
def pEq : P2 := fun a b => if SeqAt.shaped a && SeqAt.shaped b then some (.bool (PyData.eqv a b)) else none
def pNe : P2 := fun a b => if SeqAt.shaped a && SeqAt.shaped b then some (.bool (!PyData.eqv a b)) else none
theorem op2_Eq : Op2 X (rEqD X.K) pEq := by
  intro F loc B H x y wx wy a b z Q S r1 r2 h1 h2 h3 P
  unfold pEq at h3
  split at h3
  · rename_i hs
    rw [Bool.and_eq_true] at hs
    cases h3
    exact ⟨a, b, tview_dp S h1 r1, tview_dp S h2 r2, hs.1, hs.2, P.flat S (.bl _)⟩
  · cases h3
theorem op2_Ne : Op2 X (rNeD X.K) pNe := by
  intro F loc B H x y wx wy a b z Q S r1 r2 h1 h2 h3 P
  unfold pNe at h3
  split at h3
  · rename_i hs
    rw [Bool.and_eq_true] at hs
    cases h3
    exact ⟨a, b, tview_dp S h1 r1, tview_dp S h2 r2, hs.1, hs.2, P.flat S (.bl _)⟩
  · cases h3
def pIn : P2 := fun a b => match b with
  | .list ds => if SeqAt.shaped a && SeqAt.shaped (.list ds) then some (.bool (ds.any fun z => PyData.eqv z a)) else none
  | _ => none
def pNin : P2 := fun a b => match b with
  | .list ds => if SeqAt.shaped a && SeqAt.shaped (.list ds) then some (.bool (!ds.any fun z => PyData.eqv z a)) else none
  | _ => none
theorem op2_In : Op2 X (rInD X.K) pIn := by
  intro F loc B H x y wx wy a b z Q S r1 r2 h1 h2 h3 P
  unfold pIn at h3
  split at h3
  · rename_i ds
    split at h3
    · rename_i hs
      rw [Bool.and_eq_true] at hs
      cases h3
      exact ⟨a, ds, tview_dp S h1 r1, tview_dp S h2 r2, hs.1, hs.2, P.flat S (.bl _)⟩
    · cases h3
  · cases h3
theorem op2_Nin : Op2 X (rNotInD X.K) pNin := by
  intro F loc B H x y wx wy a b z Q S r1 r2 h1 h2 h3 P
  unfold pNin at h3
  split at h3
  · rename_i ds
    split at h3
    · rename_i hs
      rw [Bool.and_eq_true] at hs
      cases h3
      exact ⟨a, ds, tview_dp S h1 r1, tview_dp S h2 r2, hs.1, hs.2, P.flat S (.bl _)⟩
    · cases h3
  · cases h3
/-- a test: a value that is True or False -/
def boolF (f : De) : Dt := fun ρ B => (f ρ B).bind fun w B1 => match w with
  | .d (.bool b) => .ok b B1
  | _ => .bad
@[simp] theorem boolF_eq (f : De) (ρ : En) (B : Bs) : boolF f ρ B = (f ρ B).bind fun w B1 => match w with
  | .d (.bool b) => .ok b B1
  | _ => .bad := rfl
theorem tTest_of {t : TE} (i : ∀ σ H Q, tE X.K f σ H Q → t σ H Q) : ∀ σ H Q, tT X.K (boolF f) σ H Q → tTest t σ H Q := by
  intro σ H Q ⟨F, loc, ρ, B, S, R, P⟩
  refine i σ H _ ⟨F, loc, ρ, B, S, R, Pst.bind P fun x B1 F1 loc1 H1 v1 e1 E1 S1 r1 P1 => ?_⟩
  cases x with
  | scr _ => exact P1.elim
  | box n => exact P1.elim
  | d x =>
    cases x with
    | bool k => exact ⟨k, dq_bool r1, P1.here S1 rfl⟩
    | _ => exact P1.elim
/-- a comparison with its rule, as a value and as a test -/
theorem e_cmp2 {op : CmpOp} {r : R2} {p : P2} (ho : OpR X (compareOp op) r) (o : Op2 X r p) (ha : PE X a (tE X.K f)) (hb : PE X b (tE X.K g)) (hm : behindInMarks op b = false) : PE X (.Compare a [op] [b] pos) (tE X.K (bin2 p f g)) :=
  e_bin2 (fun h1 h2 => pe_cmpR ho h1 h2 hm) o ha hb
theorem bin2_read {r : R2} {p : P2} (o : Op2 X r p) : ∀ σ H Q, tE X.K (bin2 p f g) σ H Q → tOp r (tE X.K f) (tE X.K g) σ H Q := by
  intro σ H Q ⟨F, loc, ρ, B, S, R, P⟩
  refine ⟨F, loc, ρ, B, S, R, Pst.bind P fun x B1 F1 loc1 H1 v1 e1 E1 S1 r1 P1 => ?_⟩
  refine ⟨F1, loc1, ρ, B1, S1, R.ext E1, Pst.bind P1 fun y B2 F2 loc2 H2 v2 e2 E2 S2 r2 P2 => ?_⟩
  have r1' : RW X.K F2 loc2 x v1 := rw_mono E2.ex E2.pre r1
  cases q1 : tview B2 x with
  | none => rw [q1] at P2; exact P2.elim
  | some a =>
    cases q2 : tview B2 y with
    | none => rw [q1, q2] at P2; exact P2.elim
    | some b =>
      simp only [q1, q2] at P2
      cases q3 : p a b with
      | none => rw [q3] at P2; exact P2.elim
      | some c =>
        rw [q3] at P2
        exact o F2 loc2 B2 H2 v1 v2 x y a b c Q S2 r1' r2 q1 q2 q3 P2
theorem t_cmp2 {op : CmpOp} {r : R2} {p : P2} (ho : OpR X (compareOp op) r) (o : Op2 X r p) (ha : PE X a (tE X.K f)) (hb : PE X b (tE X.K g)) (hm : behindInMarks op b = false) : PT X (.Compare a [op] [b] pos) (tT X.K (boolF (bin2 p f g))) :=
  pt_imp (pt_cmpR ho ha hb hm) (tTest_of (bin2_read o))
def pLt : P2 := pB fun i j => decide (i < j)
def pLe : P2 := pB fun i j => decide (i ≤ j)
def pGt : P2 := pB fun i j => decide (j < i)
def pGe : P2 := pB fun i j => decide (j ≤ i)
section
variable (ha : PE X a (tE X.K f)) (hb : PE X b (tE X.K g))
include ha hb
theorem e_lt : PE X (.Compare a [.Lt] [b] pos) (tE X.K (bin2 pLt f g)) := e_cmp2 op_lt op2_B ha hb (nobehind _ (by decide) (by decide))
theorem e_le : PE X (.Compare a [.LtE] [b] pos) (tE X.K (bin2 pLe f g)) := e_cmp2 op_le op2_B ha hb (nobehind _ (by decide) (by decide))
theorem e_gt : PE X (.Compare a [.Gt] [b] pos) (tE X.K (bin2 pGt f g)) := e_cmp2 op_gt op2_B ha hb (nobehind _ (by decide) (by decide))
theorem e_ge : PE X (.Compare a [.GtE] [b] pos) (tE X.K (bin2 pGe f g)) := e_cmp2 op_ge op2_B ha hb (nobehind _ (by decide) (by decide))
theorem e_eq (hu : X.A.units + 65 < cLine) : PE X (.Compare a [.Eq] [b] pos) (tE X.K (bin2 pEq f g)) := e_cmp2 (op_eqD (by omega)) op2_Eq ha hb (nobehind _ (by decide) (by decide))
theorem e_ne (hu : X.A.units + 65 < cLine) : PE X (.Compare a [.NotEq] [b] pos) (tE X.K (bin2 pNe f g)) := e_cmp2 (op_neD (by omega)) op2_Ne ha hb (nobehind _ (by decide) (by decide))
theorem e_in (hu : X.A.units + 65 < cLine) (hm : behindInMarks .In b = false := by rfl) : PE X (.Compare a [.In] [b] pos) (tE X.K (bin2 pIn f g)) := e_cmp2 (op_inD hu) op2_In ha hb hm
theorem e_nin (hu : X.A.units + 65 < cLine) (hm : behindInMarks .NotIn b = false := by rfl) : PE X (.Compare a [.NotIn] [b] pos) (tE X.K (bin2 pNin f g)) := e_cmp2 (op_notInD hu) op2_Nin ha hb hm
theorem t_lt : PT X (.Compare a [.Lt] [b] pos) (tT X.K (boolF (bin2 pLt f g))) := t_cmp2 op_lt op2_B ha hb (nobehind _ (by decide) (by decide))
theorem t_le : PT X (.Compare a [.LtE] [b] pos) (tT X.K (boolF (bin2 pLe f g))) := t_cmp2 op_le op2_B ha hb (nobehind _ (by decide) (by decide))
theorem t_gt : PT X (.Compare a [.Gt] [b] pos) (tT X.K (boolF (bin2 pGt f g))) := t_cmp2 op_gt op2_B ha hb (nobehind _ (by decide) (by decide))
theorem t_ge : PT X (.Compare a [.GtE] [b] pos) (tT X.K (boolF (bin2 pGe f g))) := t_cmp2 op_ge op2_B ha hb (nobehind _ (by decide) (by decide))
theorem t_eq (hu : X.A.units + 65 < cLine) : PT X (.Compare a [.Eq] [b] pos) (tT X.K (boolF (bin2 pEq f g))) := t_cmp2 (op_eqD (by omega)) op2_Eq ha hb (nobehind _ (by decide) (by decide))
theorem t_ne (hu : X.A.units + 65 < cLine) : PT X (.Compare a [.NotEq] [b] pos) (tT X.K (boolF (bin2 pNe f g))) := t_cmp2 (op_neD (by omega)) op2_Ne ha hb (nobehind _ (by decide) (by decide))
theorem t_in (hu : X.A.units + 65 < cLine) (hm : behindInMarks .In b = false := by rfl) : PT X (.Compare a [.In] [b] pos) (tT X.K (boolF (bin2 pIn f g))) := t_cmp2 (op_inD hu) op2_In ha hb hm
theorem t_nin (hu : X.A.units + 65 < cLine) (hm : behindInMarks .NotIn b = false := by rfl) : PT X (.Compare a [.NotIn] [b] pos) (tT X.K (boolF (bin2 pNin f g))) := t_cmp2 (op_notInD hu) op2_Nin ha hb hm
end
/-- is None -/
def isN : W → Bool
  | .d .none => true
  | _ => false
def isnF (f : De) : De := fun ρ B => (f ρ B).bind fun w B1 => .ok (.d (.bool (isN w))) B1
def notnF (f : De) : De := fun ρ B => (f ρ B).bind fun w B1 => .ok (.d (.bool (!isN w))) B1
@[simp] theorem isnF_eq (f : De) (ρ : En) (B : Bs) : isnF f ρ B = (f ρ B).bind fun w B1 => .ok (.d (.bool (isN w))) B1 := rfl
@[simp] theorem notnF_eq (f : De) (ρ : En) (B : Bs) : notnF f ρ B = (f ρ B).bind fun w B1 => .ok (.d (.bool (!isN w))) B1 := rfl
theorem isN_iff {K : PySem.W.Frag} {F : Hp} {loc : List Addr} {w : W} {v : V} (r : RW K F loc w v) : decide (v = .non) = isN w := by
  cases w with
  | box n =>
    obtain ⟨a, rfl, _⟩ := r
    rfl
  | scr n =>
    obtain ⟨a, rfl, _⟩ := r
    rfl
  | d x =>
    cases r <;> rfl
theorem isn_read : ∀ σ H Q, tE X.K (isnF f) σ H Q → tIsN (tE X.K f) σ H Q := by
  intro σ H Q ⟨F, loc, ρ, B, S, R, P⟩
  refine ⟨F, loc, ρ, B, S, R, Pst.bind P fun x B1 F1 loc1 H1 v1 e1 E1 S1 r1 P1 => ?_⟩
  rw [isN_iff r1]
  exact P1.flat S1 (.bl _)
theorem notn_read : ∀ σ H Q, tE X.K (notnF f) σ H Q → tNotN (tE X.K f) σ H Q := by
  intro σ H Q ⟨F, loc, ρ, B, S, R, P⟩
  refine ⟨F, loc, ρ, B, S, R, Pst.bind P fun x B1 F1 loc1 H1 v1 e1 E1 S1 r1 P1 => ?_⟩
  rw [isN_iff r1]
  exact P1.flat S1 (.bl _)
theorem e_isn {j pos'} (ha : PE X a (tE X.K f)) : PE X (.Compare a [.Is] [.Constant .none j pos'] pos) (tE X.K (isnF f)) := pe_imp (pe_cmp (pc_isN ha)) isn_read
theorem e_notn {j pos'} (ha : PE X a (tE X.K f)) : PE X (.Compare a [.IsNot] [.Constant .none j pos'] pos) (tE X.K (notnF f)) := pe_imp (pe_cmp (pc_notN ha)) notn_read
theorem tB_of {t : TE} (i : ∀ σ H Q, tE X.K f σ H Q → t σ H Q) : ∀ σ H Q, tT X.K (boolF f) σ H Q → tB t σ H Q := by
  intro σ H Q ⟨F, loc, ρ, B, S, R, P⟩
  refine i σ H _ ⟨F, loc, ρ, B, S, R, Pst.bind P fun x B1 F1 loc1 H1 v1 e1 E1 S1 r1 P1 => ?_⟩
  cases x with
  | scr _ => exact P1.elim
  | box n => exact P1.elim
  | d x =>
    cases x with
    | bool k => exact ⟨k, dq_bool r1, P1.here S1 rfl⟩
    | _ => exact P1.elim
theorem t_isn {j pos'} (ha : PE X a (tE X.K f)) : PT X (.Compare a [.Is] [.Constant .none j pos'] pos) (tT X.K (boolF (isnF f))) := pt_imp (pt_cmp (pc_isN ha)) (tB_of isn_read)
theorem t_notn {j pos'} (ha : PE X a (tE X.K f)) : PT X (.Compare a [.IsNot] [.Constant .none j pos'] pos) (tT X.K (boolF (notnF f))) := pt_imp (pt_cmp (pc_notN ha)) (tB_of notn_read)
/-- a < b < c of ints -/
def chainF (p q : P2) (f g h : De) : De := fun ρ B => (f ρ B).bind fun x B1 => (g ρ B1).bind fun y B2 => match tview B2 x, tview B2 y with
  | some a, some b => match p a b with
    | some (.bool true) => (h ρ B2).bind fun z B3 => match tview B3 y, tview B3 z with
      | some b', some c => match q b' c with
        | some d => .ok (.d d) B3
        | none => .bad
      | _, _ => .bad
    | some (.bool false) => .ok (.d (.bool false)) B2
    | _ => .bad
  | _, _ => .bad
theorem chain_read {r r' : R2} {p q : P2} (o : Op2 X r p) (o' : Op2 X r' q) : ∀ σ H Q, tE X.K (chainF p q f g h) σ H Q → tChain r r' (tE X.K f) (tE X.K g) (tE X.K h) σ H Q := by
  intro σ H Q ⟨F, loc, ρ, B, S, R, P⟩
  refine ⟨F, loc, ρ, B, S, R, Pst.bind P fun x B1 F1 loc1 H1 v1 e1 E1 S1 r1 P1 => ?_⟩
  refine ⟨F1, loc1, ρ, B1, S1, R.ext E1, Pst.bind P1 fun y B2 F2 loc2 H2 v2 e2 E2 S2 r2 P2 => ?_⟩
  have r1' : RW X.K F2 loc2 x v1 := rw_mono E2.ex E2.pre r1
  cases q1 : tview B2 x with
  | none => rw [q1] at P2; exact P2.elim
  | some a =>
    cases q2 : tview B2 y with
    | none => rw [q1, q2] at P2; exact P2.elim
    | some b =>
      simp only [q1, q2] at P2
      cases q3 : p a b with
      | none => rw [q3] at P2; exact P2.elim
      | some c =>
        rw [q3] at P2
        cases c with
        | bool k =>
          refine o F2 loc2 B2 H2 v1 v2 x y a b (.bool k) _ S2 r1' r2 q1 q2 q3 fun F3 loc3 H3 v3 E3 S3 r3 => ?_
          refine ⟨k, dq_bool r3, ?_⟩
          cases k with
          | false =>
            rw [if_neg Bool.false_ne_true]
            exact P2 F3 loc3 H3 _ E3 S3 (.bl _)
          | true =>
            rw [if_pos rfl]
            refine ⟨F3, loc3, ρ, B2, S3, ((R.ext E1).ext E2).ext E3, Pst.bind (P2.ext E3) fun z B4 F4 loc4 H4 v4 e4 E4 S4 r4 P4 => ?_⟩
            have r2' : RW X.K F4 loc4 y v2 := rw_mono (E3.trans E4).ex (E3.trans E4).pre r2
            cases q4 : tview B4 y with
            | none => rw [q4] at P4; exact P4.elim
            | some b' =>
              cases q5 : tview B4 z with
              | none => rw [q4, q5] at P4; exact P4.elim
              | some c' =>
                simp only [q4, q5] at P4
                cases q6 : q b' c' with
                | none => rw [q6] at P4; exact P4.elim
                | some d =>
                  rw [q6] at P4
                  exact o' F4 loc4 B4 H4 v2 v4 y z b' c' d Q S4 r2' r4 q4 q5 q6 P4
        | _ => exact P2.elim
theorem e_chain {op op' : CmpOp} {r r' : R2} {p q : P2} (ho : OpR X (compareOp op) r) (ho' : OpR X (compareOp op') r') (o : Op2 X r p) (o' : Op2 X r' q) (ha : PE X a (tE X.K f)) (hb : PE X b (tE X.K g)) (hc : PE X c (tE X.K h))
    (hm : lastMarks [op, op'] [b, c] = false := by with_unfolding_all rfl) : PE X (.Compare a [op, op'] [b, c] pos) (tE X.K (chainF p q f g h)) := pe_imp (pe_chain ho ho' ha hb hc hm) (chain_read o o')
theorem t_chain {op op' : CmpOp} {r r' : R2} {p q : P2} (ho : OpR X (compareOp op) r) (ho' : OpR X (compareOp op') r') (o : Op2 X r p) (o' : Op2 X r' q) (ha : PE X a (tE X.K f)) (hb : PE X b (tE X.K g)) (hc : PE X c (tE X.K h))
    (hm : lastMarks [op, op'] [b, c] = false := by with_unfolding_all rfl) : PT X (.Compare a [op, op'] [b, c] pos) (tT X.K (boolF (chainF p q f g h))) :=
  pt_imp (pt_chain ho ho' ha hb hc hm) (tTest_of (chain_read o o'))

/-! ### tests -/
def truthOf (B : Bs) : W → Option Bool
  | .d .none => some false
  | .d (.bool b) => some b
  | .d (.int i) => some (i != 0)
  | .d (.str x) => if x.length ≤ LN then some ((x.length : Int) != 0) else none
  | .d (.list ds) => some (!ds.isEmpty)
  | .d (.tuple ds) => some (!ds.isEmpty)
  | .d (.dict _) => none
  | .scr ns => some (!ns.isEmpty)
  | .box n => match B[n]? with
    | some (some (.lst ws)) => some (!ws.isEmpty)
    | some (some (.dK kvs)) => some (!kvs.isEmpty)
    | _ => none
def truthF (f : De) : Dt := fun ρ B => (f ρ B).bind fun w B1 => match truthOf B1 w with
  | some b => .ok b B1
  | none => .bad
@[simp] theorem truthF_eq (f : De) (ρ : En) (B : Bs) : truthF f ρ B = (f ρ B).bind fun w B1 => match truthOf B1 w with
  | some b => .ok b B1
  | none => .bad := rfl
theorem empty_dp {F : Hp} {xs : List V} {ds : List PyData} (h : DqAll F xs ds) : (!xs.isEmpty) = !ds.isEmpty := by cases h <;> rfl
theorem empty_rws {K : PySem.W.Frag} {F : Hp} {loc : List Addr} {ws : List W} {vs : List V} (r : RWs K F loc ws vs) : (!vs.isEmpty) = !ws.isEmpty := by cases r <;> rfl
theorem empty_kv {K : PySem.W.Frag} {κ : Type} {F : Hp} {loc : List Addr} {ws : List (κ × W)} {vs : List (κ × V)} (r : RKV K F loc ws vs) : (!vs.isEmpty) = !ws.isEmpty := by cases r <;> rfl
theorem truth_ok {K : PySem.W.Frag} {F : Hp} {loc : List Addr} {B : Bs} {H : Hp} (S : Sim K F loc B H) {w : W} {v : V} {k : Bool} (h : truthOf B w = some k) (r : RW K F loc w v) : TruV K v H k := by
  cases w with
  | d x =>
    cases r with
    | non => cases h; rfl
    | bl b => cases h; rfl
    | int i => cases h; rfl
    | str x =>
      unfold truthOf at h
      dsimp only at h
      split at h
      · rename_i hl
        cases h
        exact ⟨LN_le hl, rfl⟩
      · cases h
    | lst h1 h2 => cases h; exact .inl ⟨_, sqL_of (S.ex _ _ h1), (empty_dp h2).symm⟩
    | tup h1 h2 => cases h; exact .inr (.inl ⟨_, sqT_of (S.ex _ _ h1), (empty_dp h2).symm⟩)
  | scr ns =>
    obtain ⟨a, rfl, ha⟩ := r
    cases h
    exact .inl ⟨_, sqL_mono S.ex ha, by cases ns <;> rfl⟩
  | box n =>
    obtain ⟨a, rfl, ha⟩ := r
    unfold truthOf at h
    dsimp only at h
    split at h
    · rename_i ws hb
      cases h
      obtain ⟨_, o, ho, vs, rfl, r⟩ := S.box n a _ ha hb
      exact .inl ⟨vs, sqL_of ho, (empty_rws r).symm⟩
    · rename_i ws hb
      cases h
      obtain ⟨_, o, ho, vs, rfl, r⟩ := S.box n a _ ha hb
      exact .inr (.inr ⟨vs, ho, (empty_kv r).symm⟩)
    · cases h
theorem t_truth (ha : PE X a (tE X.K f)) (he : ∀ whole, isTrue a X.env whole = (do let v ← whole; standAt a.pos; holding [v] (truthy v)) := by intro _; rfl) : PT X a (tT X.K (truthF f)) := by
  refine pt_imp (pt_truth ha he) fun σ H Q ⟨F, loc, ρ, B, S, R, P⟩ => ?_
  refine ⟨F, loc, ρ, B, S, R, Pst.bind P fun x B1 F1 loc1 H1 v1 e1 E1 S1 r1 P1 => ?_⟩
  cases q : truthOf B1 x with
  | none => rw [q] at P1; exact P1.elim
  | some k => rw [q] at P1; exact ⟨k, truth_ok S1 q r1, P1.here S1 rfl⟩
def notT (f : Dt) : Dt := fun ρ B => (f ρ B).bind fun b B1 => .ok (!b) B1
def andT (f g : Dt) : Dt := fun ρ B => (f ρ B).bind fun b B1 => if b = true then g ρ B1 else .ok false B1
def orT (f g : Dt) : Dt := fun ρ B => (f ρ B).bind fun b B1 => if b = true then .ok true B1 else g ρ B1
@[simp] theorem notT_eq (f : Dt) (ρ : En) (B : Bs) : notT f ρ B = (f ρ B).bind fun b B1 => .ok (!b) B1 := rfl
@[simp] theorem andT_eq (f g : Dt) (ρ : En) (B : Bs) : andT f g ρ B = (f ρ B).bind fun b B1 => if b = true then g ρ B1 else .ok false B1 := rfl
@[simp] theorem orT_eq (f g : Dt) (ρ : En) (B : Bs) : orT f g ρ B = (f ρ B).bind fun b B1 => if b = true then .ok true B1 else g ρ B1 := rfl
variable {ft gt : Dt} {rest : List Expr}
theorem t_not (ha : PT X a (tT X.K ft)) : PT X (.UnaryOp .Not a pos) (tT X.K (notT ft)) := by
  refine pt_imp (pt_not ha) fun σ H Q ⟨F, loc, ρ, B, S, R, P⟩ => ?_
  refine ⟨F, loc, ρ, B, S, R, Pst.bind P fun x B1 F1 loc1 H1 v1 e1 E1 S1 r1 P1 => ?_⟩
  rw [show v1 = x from r1]
  exact P1.here S1 rfl
theorem and_read {X : Cx} {ft gt : Dt} : ∀ σ H Q, tT X.K (andT ft gt) σ H Q → tAnd (tT X.K ft) (tT X.K gt) σ H Q := by
  intro σ H Q ⟨F, loc, ρ, B, S, R, P⟩
  refine ⟨F, loc, ρ, B, S, R, Pst.bind P fun x B1 F1 loc1 H1 v1 e1 E1 S1 r1 P1 => ?_⟩
  rw [show v1 = x from r1]
  cases x with
  | true => rw [if_pos rfl]; rw [if_pos rfl] at P1; exact ⟨F1, loc1, ρ, B1, S1, R.ext E1, P1⟩
  | false => rw [if_neg Bool.false_ne_true]; rw [if_neg Bool.false_ne_true] at P1; exact P1.here S1 rfl
theorem or_read {X : Cx} {ft gt : Dt} : ∀ σ H Q, tT X.K (orT ft gt) σ H Q → tOr (tT X.K ft) (tT X.K gt) σ H Q := by
  intro σ H Q ⟨F, loc, ρ, B, S, R, P⟩
  refine ⟨F, loc, ρ, B, S, R, Pst.bind P fun x B1 F1 loc1 H1 v1 e1 E1 S1 r1 P1 => ?_⟩
  rw [show v1 = x from r1]
  cases x with
  | true => rw [if_pos rfl]; rw [if_pos rfl] at P1; exact P1.here S1 rfl
  | false => rw [if_neg Bool.false_ne_true]; rw [if_neg Bool.false_ne_true] at P1; exact ⟨F1, loc1, ρ, B1, S1, R.ext E1, P1⟩
theorem w_and1 (ha : PT X a (tT X.K ft)) : PW X (.BoolOp .And [a] pos) (tT X.K ft) := pw_and1 ha
theorem w_or1 (ha : PT X a (tT X.K ft)) : PW X (.BoolOp .Or [a] pos) (tT X.K ft) := pw_or1 ha
theorem w_and (ha : PT X a (tT X.K ft)) (hb : PW X (.BoolOp .And (b :: rest) pos) (tT X.K gt)) : PW X (.BoolOp .And (a :: b :: rest) pos) (tT X.K (andT ft gt)) := pw_imp (pw_and ha hb) and_read
theorem w_or (ha : PT X a (tT X.K ft)) (hb : PW X (.BoolOp .Or (b :: rest) pos) (tT X.K gt)) : PW X (.BoolOp .Or (a :: b :: rest) pos) (tT X.K (orT ft gt)) := pw_imp (pw_or ha hb) or_read
/-- and, or, not of True and False as values -/
def andF (f g : De) : De := fun ρ B => (f ρ B).bind fun w B1 => match w with
  | .d (.bool true) => g ρ B1
  | .d (.bool false) => .ok (.d (.bool false)) B1
  | _ => .bad
def orF (f g : De) : De := fun ρ B => (f ρ B).bind fun w B1 => match w with
  | .d (.bool false) => g ρ B1
  | .d (.bool true) => .ok (.d (.bool true)) B1
  | _ => .bad
def notF (f : De) : De := fun ρ B => (f ρ B).bind fun w B1 => match w with
  | .d (.bool b) => .ok (.d (.bool (!b))) B1
  | _ => .bad
theorem e_one {op} (h : PE X a (tE X.K f)) : PE X (.BoolOp op [a] pos) (tE X.K f) := pe_one h
theorem e_and (ha : PE X a (tE X.K f)) (hb : PE X (.BoolOp .And (b :: rest) pos) (tE X.K g)) : PE X (.BoolOp .And (a :: b :: rest) pos) (tE X.K (andF f g)) := by
  refine pe_imp (pe_and ha hb) fun σ H Q ⟨F, loc, ρ, B, S, R, P⟩ => ?_
  refine ⟨F, loc, ρ, B, S, R, Pst.bind P fun x B1 F1 loc1 H1 v1 e1 E1 S1 r1 P1 => ?_⟩
  cases x with
  | scr _ => exact P1.elim
  | box n => exact P1.elim
  | d x =>
    cases x with
    | bool k =>
      refine ⟨k, dq_bool r1, ?_⟩
      cases k with
      | true => exact ⟨F1, loc1, ρ, B1, S1, R.ext E1, P1⟩
      | false => exact P1.flat S1 (.bl _)
    | _ => exact P1.elim
theorem e_or (ha : PE X a (tE X.K f)) (hb : PE X (.BoolOp .Or (b :: rest) pos) (tE X.K g)) : PE X (.BoolOp .Or (a :: b :: rest) pos) (tE X.K (orF f g)) := by
  refine pe_imp (pe_or ha hb) fun σ H Q ⟨F, loc, ρ, B, S, R, P⟩ => ?_
  refine ⟨F, loc, ρ, B, S, R, Pst.bind P fun x B1 F1 loc1 H1 v1 e1 E1 S1 r1 P1 => ?_⟩
  cases x with
  | scr _ => exact P1.elim
  | box n => exact P1.elim
  | d x =>
    cases x with
    | bool k =>
      refine ⟨k, dq_bool r1, ?_⟩
      cases k with
      | false => exact ⟨F1, loc1, ρ, B1, S1, R.ext E1, P1⟩
      | true => exact P1.flat S1 (.bl _)
    | _ => exact P1.elim
theorem e_not (ha : PE X a (tE X.K f)) : PE X (.UnaryOp .Not a pos) (tE X.K (notF f)) := by
  refine pe_imp (pe_not ha) fun σ H Q ⟨F, loc, ρ, B, S, R, P⟩ => ?_
  refine ⟨F, loc, ρ, B, S, R, Pst.bind P fun x B1 F1 loc1 H1 v1 e1 E1 S1 r1 P1 => ?_⟩
  cases x with
  | scr _ => exact P1.elim
  | box n => exact P1.elim
  | d x =>
    cases x with
    | bool k => exact ⟨k, dq_bool r1, P1.flat S1 (.bl _)⟩
    | _ => exact P1.elim
def ifF (t : Dt) (f g : De) : De := fun ρ B => (t ρ B).bind fun b B1 => if b = true then f ρ B1 else g ρ B1
@[simp] theorem ifF_eq (t : Dt) (f g : De) (ρ : En) (B : Bs) : ifF t f g ρ B = (t ρ B).bind fun b B1 => if b = true then f ρ B1 else g ρ B1 := rfl
theorem e_if (hc : PT X c (tT X.K ft)) (ha : PE X a (tE X.K f)) (hb : PE X b (tE X.K g)) : PE X (.IfExp c a b pos) (tE X.K (ifF ft f g)) := by
  refine pe_imp (pe_ifExp hc ha hb) fun σ H Q ⟨F, loc, ρ, B, S, R, P⟩ => ?_
  refine ⟨F, loc, ρ, B, S, R, Pst.bind P fun x B1 F1 loc1 H1 v1 e1 E1 S1 r1 P1 => ?_⟩
  rw [show v1 = x from r1]
  cases x with
  | true => rw [if_pos rfl]; rw [if_pos rfl] at P1; exact ⟨F1, loc1, ρ, B1, S1, R.ext E1, P1⟩
  | false => rw [if_neg Bool.false_ne_true]; rw [if_neg Bool.false_ne_true] at P1; exact ⟨F1, loc1, ρ, B1, S1, R.ext E1, P1⟩

/-! ### subscripts -/
theorem atI_dp {F : Hp} {xs : List V} {ds : List PyData} {i : Int} {d : PyData} (h : DqAll F xs ds) (e : atI ds i = some d) : ∃ v, atI xs i = some v ∧ Dq F v d := by
  unfold atI at e ⊢
  rw [dpAll_len h]
  cases q : ixN ds.length i with
  | none => rw [q] at e; cases e
  | some j =>
    rw [q] at e
    obtain ⟨v, h1, h2⟩ := dpAll_get h (show ds[j]? = some d from e)
    exact ⟨v, h1, h2⟩
def pIx : P2 := fun a b => match a, b with
  | .list ds, .int i => atI ds i
  | .tuple ds, .int i => atI ds i
  | .str z, .int i => if z.length ≤ LN then (atI z.cps.toList i).map fun c => .str ⟨#[c]⟩ else none
  | _, _ => none
theorem op2_Ix : Op2 X (rIx X.K) pIx := by
  intro F loc B H x y wx wy a b z Q S r1 r2 h1 h2 h3 P
  cases a with
  | list ds =>
    cases b with
    | int i =>
      have h3' : atI ds i = some z := h3
      obtain ⟨a, xs, rfl, g1, g2⟩ := tview_items S h1 r1
      obtain ⟨v, g3, g4⟩ := atI_dp g2 h3'
      exact .inl ⟨a, xs, i, v, rfl, tview_int S h2 r2, g1, g3, P.flat S g4⟩
    | _ => cases h3
  | tuple ds =>
    cases b with
    | int i =>
      have h3' : atI ds i = some z := h3
      obtain ⟨a, xs, rfl, g1, g2⟩ := tview_titems S h1 r1
      obtain ⟨v, g3, g4⟩ := atI_dp g2 h3'
      exact .inr (.inl ⟨a, xs, i, v, rfl, tview_int S h2 r2, g1, g3, P.flat S g4⟩)
    | _ => cases h3
  | str s =>
    cases b with
    | int i =>
      have h3' : (if s.length ≤ LN then (atI s.cps.toList i).map fun c => PyData.str ⟨#[c]⟩ else none) = some z := h3
      by_cases hl : s.length ≤ LN
      · rw [if_pos hl] at h3'
        cases q : atI s.cps.toList i with
        | none => rw [q] at h3'; cases h3'
        | some c =>
          rw [q] at h3'
          have e : some (PyData.str ⟨#[c]⟩) = some z := h3'
          cases e
          exact .inr (.inr ⟨s, i, c, tview_str S h1 r1, tview_int S h2 r2, LN_le hl, q, P.flat S (.str _)⟩)
      · rw [if_neg hl] at h3'; cases h3'
    | _ => cases h3
  | _ => cases h3
theorem e_ix (ha : PE X a (tE X.K f)) (hb : PE X b (tE X.K g)) (hs : PlainIx b := by exact fun _ _ => rfl) : PE X (.Subscript a b pos) (tE X.K (bin2 pIx f g)) := e_bin2 (fun h1 h2 => pe_ix ix_seq h1 h2 hs) op2_Ix ha hb
/-- an item of a list in a box, whatever it is -/
def ixbF (f g : De) : De := fun ρ B => (f ρ B).bind fun x B1 => (g ρ B1).bind fun y B2 => match x, y with
  | .box n, .d (.int i) => match B2[n]? with
    | some (some (.lst ws)) => match atI ws i with
      | some w => .ok w B2
      | none => .bad
    | _ => .bad
  | _, _ => .bad
theorem rws_get {K : PySem.W.Frag} {F : Hp} {loc : List Addr} : ∀ {ws : List W} {vs : List V} {i : Nat} {w : W}, RWs K F loc ws vs → ws[i]? = some w → ∃ v, vs[i]? = some v ∧ RW K F loc w v
  | _, _, _, _, .nil, e => by simp at e
  | _, _, 0, _, .cons h r, e => by simp at e; subst e; exact ⟨_, rfl, h⟩
  | _, _, i + 1, d, .cons _ r, e => by
    obtain ⟨v, h1, h2⟩ := rws_get (i := i) r (by simpa using e)
    exact ⟨v, by simpa using h1, h2⟩
theorem atI_rw {K : PySem.W.Frag} {F : Hp} {loc : List Addr} {xs : List V} {ds : List W} {i : Int} {d : W} (h : RWs K F loc ds xs) (e : atI ds i = some d) : ∃ v, atI xs i = some v ∧ RW K F loc d v := by
  unfold atI at e ⊢
  rw [← rws_len h]
  cases q : ixN ds.length i with
  | none => rw [q] at e; cases e
  | some j =>
    rw [q] at e
    obtain ⟨v, h1, h2⟩ := rws_get h (show ds[j]? = some d from e)
    exact ⟨v, h1, h2⟩
theorem e_ixb (ha : PE X a (tE X.K f)) (hb : PE X b (tE X.K g)) (hs : PlainIx b := by exact fun _ _ => rfl) : PE X (.Subscript a b pos) (tE X.K (ixbF f g)) := by
  refine pe_imp (pe_ix ix_list ha hb hs) fun σ H Q ⟨F, loc, ρ, B, S, R, P⟩ => ?_
  refine ⟨F, loc, ρ, B, S, R, Pst.bind P fun x B1 F1 loc1 H1 v1 e1 E1 S1 r1 P1 => ?_⟩
  refine ⟨F1, loc1, ρ, B1, S1, R.ext E1, Pst.bind P1 fun y B2 F2 loc2 H2 v2 e2 E2 S2 r2 P2 => ?_⟩
  have r1' : RW X.K F2 loc2 x v1 := rw_mono E2.ex E2.pre r1
  cases x with
  | d x => exact P2.elim
  | scr _ => exact P2.elim
  | box n =>
    cases y with
    | scr _ => exact P2.elim
    | box m => exact P2.elim
    | d y =>
      cases y with
      | int i =>
        simp only at P2
        obtain ⟨p, rfl, ha⟩ := r1'
        split at P2
        · rename_i ws hb
          obtain ⟨_, o, ho, vs, rfl, r⟩ := S2.box n p _ ha hb
          cases q : atI ws i with
          | none => rw [q] at P2; exact P2.elim
          | some w =>
            rw [q] at P2
            obtain ⟨v, g3, g4⟩ := atI_rw r q
            exact ⟨p, vs, i, v, rfl, dq_int r2, sqL_of ho, g3, P2.here S2 g4⟩
        · exact P2.elim
      | _ => exact P2.elim

/-! ### slices -/
def cutG {α : Type} (xs : List α) (lo hi : Option Int) : List α := (xs.drop (HT.sIx xs.length 0 lo)).take (HT.sIx xs.length xs.length hi - HT.sIx xs.length 0 lo)
theorem cut_dp {F : Hp} {xs : List V} {ds : List PyData} {lo hi : Option Int} (h : DqAll F xs ds) : DqAll F (cutV xs lo hi) (cutG ds lo hi) := by
  unfold cutV cutG
  rw [dpAll_len h]
  exact dpAll_take _ (dpAll_drop _ h)
abbrev Dpo := En → Bs → Out (Option Int)
def RO : Hp → List Addr → Option Int → Option Int → Prop := fun _ _ a b => b = a
def tO (K : PySem.W.Frag) (f : Dpo) : TO := fun σ H Q => ∃ F loc ρ B, Sim K F loc B H ∧ EnvR K F loc ρ σ ∧ Pst K RO F loc H (f ρ B) Q
theorem po_imp {e : Option Expr} {t t' : TO} (h : PO X e t) (i : ∀ σ H Q, t' σ H Q → t σ H Q) : PO X e t' := ⟨fun pins s σ H Q I q => h.run pins s σ H Q I (i σ H Q q)⟩
def noO : Dpo := fun _ B => .ok none B
def someO (f : De) : Dpo := fun ρ B => (f ρ B).bind fun w B1 => match tview B1 w with
  | some (.int i) => .ok (some i) B1
  | _ => .bad
@[simp] theorem noO_eq (ρ : En) (B : Bs) : noO ρ B = .ok none B := rfl
@[simp] theorem someO_eq (f : De) (ρ : En) (B : Bs) : someO f ρ B = (f ρ B).bind fun w B1 => match tview B1 w with
  | some (.int i) => .ok (some i) B1
  | _ => .bad := rfl
theorem o_no : PO X none (tO X.K noO) := po_imp po_none fun σ H Q ⟨F, loc, ρ, B, S, R, P⟩ => P.here S rfl
theorem o_some (h : PE X e (tE X.K f)) : PO X (some e) (tO X.K (someO f)) := by
  refine po_imp (po_some h) fun σ H Q ⟨F, loc, ρ, B, S, R, P⟩ => ?_
  refine ⟨F, loc, ρ, B, S, R, Pst.bind P fun x B1 F1 loc1 H1 v1 e1 E1 S1 r1 P1 => ?_⟩
  cases q : tview B1 x with
  | none => rw [q] at P1; exact P1.elim
  | some d =>
    rw [q] at P1
    cases d with
    | int i => exact ⟨i, tview_int S1 q r1, P1.here S1 rfl⟩
    | _ => exact P1.elim
def pSl (lo hi : Option Int) : PyData → Option PyData
  | .list ds => some (.list (cutG ds lo hi))
  | .tuple ds => some (.tuple (cutG ds lo hi))
  | _ => none
def slF (f : De) (lo hi : Dpo) : De := fun ρ B => (f ρ B).bind fun w B1 => (lo ρ B1).bind fun l B2 => (hi ρ B2).bind fun u B3 => match tview B3 w with
  | some d => match pSl l u d with
    | some r => .ok (.d r) B3
    | none => .bad
  | none => .bad
@[simp] theorem slF_eq (f : De) (lo hi : Dpo) (ρ : En) (B : Bs) : slF f lo hi ρ B = (f ρ B).bind fun w B1 => (lo ρ B1).bind fun l B2 => (hi ρ B2).bind fun u B3 => match tview B3 w with
  | some d => match pSl l u d with
    | some r => .ok (.d r) B3
    | none => .bad
  | none => .bad := rfl
variable {lo hi : Option Expr} {fl fh : Dpo} {p2 : Pos}
theorem cut_all {α : Type} {xs : List α} {lo hi : Option Int} (h : HT.sIx xs.length 0 lo = 0 ∧ HT.sIx xs.length xs.length hi = xs.length) : cutG xs lo hi = xs := by
  unfold cutG
  rw [h.1, h.2]
  simp
theorem e_sl (ha : PE X a (tE X.K f)) (hl : PO X lo (tO X.K fl)) (hh : PO X hi (tO X.K fh)) : PE X (.Subscript a (.Slice lo hi none p2) pos) (tE X.K (slF f fl fh)) := by
  refine pe_imp (pe_slice (SlR.or sl_list sl_tupA) ha hl hh) fun σ H Q ⟨F, loc, ρ, B, S, R, P⟩ => ?_
  refine ⟨F, loc, ρ, B, S, R, Pst.bind P fun x B1 F1 loc1 H1 v1 e1 E1 S1 r1 P1 => ?_⟩
  refine ⟨F1, loc1, ρ, B1, S1, R.ext E1, Pst.bind P1 fun l B2 F2 loc2 H2 l2 e2 E2 S2 r2 P2 => ?_⟩
  rw [show l2 = l from r2]
  refine ⟨F2, loc2, ρ, B2, S2, (R.ext E1).ext E2, Pst.bind P2 fun u B3 F3 loc3 H3 u2 e3 E3 S3 r3 P3 => ?_⟩
  rw [show u2 = u from r3]
  have r1' : RW X.K F3 loc3 x v1 := rw_mono (E2.trans E3).ex (E2.trans E3).pre r1
  cases q : tview B3 x with
  | none => rw [q] at P3; exact P3.elim
  | some d =>
    rw [q] at P3
    cases d with
    | list ds =>
      obtain ⟨a, xs, rfl, g1, g2⟩ := tview_items S3 q r1'
      exact .inl ⟨a, xs, rfl, g1, fun p hp => P3.newL S3 (cut_dp g2) hp⟩
    | tuple ds =>
      obtain ⟨a, xs, rfl, g1, g2⟩ := tview_titems S3 q r1'
      refine .inr ⟨a, xs, rfl, g1, fun hw => ?_, fun _ p hp => P3.newT S3 (cut_dp g2) hp⟩
      have hw' := hw
      rw [dpAll_len g2] at hw'
      have P3' : Pst X.K (RW X.K) F3 loc3 H3 (.ok (.d (.tuple (cutG ds l u))) B3) Q := P3
      rw [cut_all hw'] at P3'
      cases x with
      | d x =>
        have e : some x = some (PyData.tuple ds) := q
        cases e
        exact P3'.flat S3 r1'
      | scr ns => cases q
      | box n =>
        unfold tview at q
        dsimp only at q
        split at q
        · rename_i ws _
          cases q' : datas ws <;> rw [q'] at q <;> cases q
        · cases q
    | _ => exact P3.elim

/-! ### calls of the program's own defs -/
/-- what a def keeps: it does what run says -/
def spM (K : PySem.W.Frag) (np : Nat) (run : List W → Bs → Out W) : Sp := fun vs H Q _ => vs.length = np ∧ ∃ F loc B ws, Sim K F loc B H ∧ RWs K F loc ws vs ∧ Pst K (RW K) F loc H (run ws B) Q
/-- a def named x of np parameters stands there and does what run says, k calls deep -/
structure FnM (P : Program) (w : World) (K : PySem.W.Frag) (mg : Str → Option Value) (base : Heap) (k : Nat) (x : Str) (np : Nat) (run : List W → Bs → Out W) : Prop where
  it : ∃ (fa : Addr) (fd : FuncData) (ps : List Str), mg x = some (.ref fa) ∧ PySem.W.keepIn K (.ref fa) = true ∧ Binds K fd ps [] ∧ FnOk P w K mg base CX0 k fa fd ps (spM K np run)
def callF (np : Nat) (run : List W → Bs → Out W) (g : Da) : De := fun ρ B => (g ρ B).bind fun ws B1 => if ws.length = np then run ws B1 else .bad
@[simp] theorem callF_eq (np : Nat) (run : List W → Bs → Out W) (g : Da) (ρ : En) (B : Bs) : callF np run g ρ B = (g ρ B).bind fun ws B1 => if ws.length = np then run ws B1 else .bad := rfl
theorem call_read {K : PySem.W.Frag} {np : Nat} {run : List W → Bs → Out W} {ga : Da} {E : XK} : ∀ σ H Q, tE K (callF np run ga) σ H Q → tCall (spM K np run) [] E (tA K ga) σ H Q := by
  intro σ H Q ⟨F, loc, ρ, B, S, R, P⟩
  refine ⟨F, loc, ρ, B, S, R, Pst.bind P fun ws B1 F1 loc1 H1 vs e1 E1 S1 r1 P1 => ?_⟩
  rw [List.append_nil]
  split at P1
  · rename_i hl
    exact ⟨by rw [← rws_len r1]; exact hl, F1, loc1, B1, ws, S1, r1, P1⟩
  · exact P1.elim
theorem e_call {k np : Nat} {x : Str} {run : List W → Bs → Out W} {es : List Expr} {ga : Da} {p : Pos} (G : FnM X.prog X.w X.K X.mg X.base k x np run) (hr : Room k X.A) (hg : Gl X x) (ha : PA X (e :: es) (tA X.K ga))
    (hdb : (x == ("__debug__" : Str)) = false := by decide) (he : starEach (e :: es) X.env = (false, eval e X.env) :: starEach es X.env := by rfl) (hpl : (backTo pos (starEach es X.env)).any (·.1) = false := by rfl) :
    PE X (.Call (.Name x p) (e :: es) [] pos) (tE X.K (callF np run ga)) := by
  obtain ⟨fa, fd, ps, hm, hk, hb, F⟩ := G.it
  exact pe_imp (pe_call F hr hg hm hk hb .nil pass0 ha hdb he hpl) call_read
end
end Mini

namespace Mini
open PySem PySem.Spec PyProof.Rows L2

/-! ### more on the heap -/
section
variable {K : PySem.W.Frag} {F F' F2 : Hp} {loc loc' : List Addr} {H H' : Hp} {B : Bs}
/-- an object that is neither frozen nor boxed is made or written -/
theorem Sim.other (S : Sim K F loc B H) {p : Addr} {o : HO} (hF : F p = none) (hl : p ∉ loc) : Sim K F loc B (upd H p o) := by
  refine ⟨fun a u h => ?_, S.len, S.nd, fun a ha => ?_, fun n a b h1 h2 => ?_⟩
  · rw [upd_ne (ne_of_none h hF)]; exact S.ex a u h
  · have hb : a ≠ p := fun z => by rw [z] at ha; exact hl ha
    rw [upd_ne hb]; exact S.al a ha
  · obtain ⟨g1, u, g2, g3⟩ := S.box n a b h1 h2
    have hb : a ≠ p := fun z => hl (by rw [← z]; exact List.mem_of_getElem? h1)
    exact ⟨g1, u, by rw [upd_ne hb]; exact g2, g3⟩
/-- it is frozen -/
theorem Sim.adopt (S : Sim K F loc B H) {p : Addr} {o : HO} (hF : F p = none) (hl : p ∉ loc) (hH : H p = some o) : Sim K (upd F p o) loc B H := by
  have e : FE F (upd F p o) := fun c u h => by rw [upd_ne (ne_of_none h hF)]; exact h
  refine ⟨fun a u h => ?_, S.len, S.nd, S.al, fun n a b h1 h2 => ?_⟩
  · by_cases hb : a = p
    · subst hb; rw [upd_same] at h; cases h; exact hH
    · rw [upd_ne hb] at h; exact S.ex a u h
  · obtain ⟨g1, u, g2, g3⟩ := S.box n a b h1 h2
    have hb : a ≠ p := fun z => hl (by rw [← z]; exact List.mem_of_getElem? h1)
    exact ⟨by rw [upd_ne hb]; exact g1, u, g2, rbx_mono e (List.prefix_refl _) g3⟩
/-- it is boxed -/
theorem Sim.adoptBox (S : Sim K F loc B H) {p : Addr} {o : HO} {b : Bx} (hF : F p = none) (hl : p ∉ loc) (hH : H p = some o) (r : RBx K F loc b o) : Sim K F (loc ++ [p]) (B ++ [some b]) H := by
  have pr : loc <+: loc ++ [p] := List.prefix_append _ _
  refine ⟨S.ex, ?_, ?_, fun a ha => ?_, fun n a b' h1 h2 => ?_⟩
  · rw [List.length_append, List.length_append, S.len]; rfl
  · rw [List.nodup_append]
    refine ⟨S.nd, List.nodup_cons.mpr ⟨by simp, List.nodup_nil⟩, fun a ha b hb => ?_⟩
    rw [List.mem_singleton.mp hb]
    intro z; rw [z] at ha; exact hl ha
  · rcases List.mem_append.mp ha with ha | ha
    · exact S.al a ha
    · rw [List.mem_singleton.mp ha, hH]; intro z; cases z
  · by_cases hn : n < loc.length
    · rw [List.getElem?_append_left hn] at h1
      rw [List.getElem?_append_left (by rw [← S.len]; exact hn)] at h2
      obtain ⟨g1, u, g2, g3⟩ := S.box n a b' h1 h2
      exact ⟨g1, u, g2, rbx_mono (FE.refl _) pr g3⟩
    · have hn2 : n = loc.length := by
        have := (List.getElem?_eq_some_iff.mp h1).1
        rw [List.length_append] at this
        simp at this
        omega
      subst hn2
      rw [List.getElem?_append_right (Nat.le_refl _), Nat.sub_self] at h1
      rw [S.len, List.getElem?_append_right (Nat.le_refl _), Nat.sub_self] at h2
      simp at h1 h2
      subst h1; subst h2
      exact ⟨hF, o, hH, rbx_mono (FE.refl _) pr r⟩
theorem Ext.other (E : Ext F loc H F' loc' H') {p : Addr} {o : HO} (hp : H p = none) : Ext F loc H F' loc' (upd H' p o) := ⟨E.ex, E.pre, fun a u h1 h0 h2 h3 => by
  obtain ⟨g1, g2, g3⟩ := E.fr a u h1 h0 h2 h3
  exact ⟨by rw [upd_ne (ne_of_none h1 hp)]; exact g1, g2, g3⟩, fun a od u h => by rw [upd_ne (ne_of_none h hp)]; exact E.lk a od u h⟩
theorem Ext.adopt (E : Ext F loc H F' loc' H') {p : Addr} {o : HO} (hp : H p = none) (hF : F' p = none) : Ext F loc H (upd F' p o) loc' H' := ⟨fun a u h => by
  have g := E.ex a u h
  rw [upd_ne (ne_of_none g hF)]; exact g, E.pre, fun a u h1 h0 h2 h3 => by
  obtain ⟨g1, g2, g3⟩ := E.fr a u h1 h0 h2 h3
  exact ⟨g1, by rw [upd_ne (ne_of_none h1 hp)]; exact g2, g3⟩, E.lk⟩
theorem Ext.adoptBox (E : Ext F loc H F' loc' H') {p : Addr} (hp : H p = none) : Ext F loc H F' (loc' ++ [p]) H' := ⟨E.ex, E.pre.trans (List.prefix_append _ _), fun a u h1 h0 h2 h3 => by
  obtain ⟨g1, g2, g3⟩ := E.fr a u h1 h0 h2 h3
  refine ⟨g1, g2, fun z => ?_⟩
  rcases List.mem_append.mp z with z | z
  · exact g3 z
  · exact ne_of_none h1 hp (List.mem_singleton.mp z), E.lk⟩
theorem Sim.freeF (S : Sim K F loc B H) {p : Addr} (hp : H p = none) : F p = none := by
  cases q : F p with
  | none => rfl
  | some u => rw [S.ex p u q] at hp; cases hp
theorem Sim.freeL (S : Sim K F loc B H) {p : Addr} (hp : H p = none) : p ∉ loc := fun z => S.al p z hp
end

/-! ### slots that are forgotten -/
theorem wipe_get (σ : L2.St) : ∀ (vs : List Nat) (i : Nat), (L2.wipe σ vs)[i]? = if i ∈ vs ∧ i < σ.length then some none else σ[i]?
  | [], i => by simp [L2.wipe]
  | v :: vs, i => by
    show ((L2.wipe σ vs).set v none)[i]? = _
    have hl := L2.wipe_length σ vs
    by_cases hi : i = v
    · subst hi
      by_cases hlt : i < σ.length
      · rw [List.getElem?_set_self (by rw [hl]; exact hlt), if_pos ⟨List.mem_cons_self, hlt⟩]
      · rw [List.getElem?_eq_none (by rw [List.length_set, hl]; omega), if_neg (by intro z; exact hlt z.2), List.getElem?_eq_none (by omega)]
    · rw [List.getElem?_set_ne (Ne.symm hi), wipe_get σ vs i]
      simp [hi]
structure SameBut (js : List Nat) (σ σ' : L2.St) : Prop where
  len : σ'.length = σ.length
  get : ∀ i, i ∉ js → σ'[i]? = σ[i]?
theorem SameBut.refl (σ : L2.St) : SameBut [] σ σ := ⟨rfl, fun _ _ => rfl⟩
theorem SameBut.wipe {js vs : List Nat} {σ σ' : L2.St} (h : SameBut js (L2.wipe σ vs) σ') (hs : ∀ j ∈ js, j ∈ vs) : L2.wipe σ' vs = L2.wipe σ vs := by
  apply List.ext_getElem?
  intro i
  have hl := L2.wipe_length σ vs
  rw [wipe_get σ' vs i, wipe_get σ vs i, h.len, hl]
  by_cases hi : i ∈ vs
  · by_cases hlt : i < σ.length
    · rw [if_pos ⟨hi, hlt⟩, if_pos ⟨hi, hlt⟩]
    · rw [if_neg (fun z => hlt z.2), if_neg (fun z => hlt z.2), List.getElem?_eq_none (by rw [h.len, hl]; omega), List.getElem?_eq_none (by omega)]
  · rw [if_neg (fun z => hi z.1), if_neg (fun z => hi z.1), h.get i (fun z => hi (hs i z)), wipe_get σ vs i, if_neg (fun z => hi z.1)]

/-! ### targets -/
abbrev Tg := W → En → Option En
/-- the reading g stores as tg says, into slots of js -/
def TgOk (K : PySem.W.Frag) (g : TG) (js : List Nat) (tg : Tg) : Prop := ∀ (F : Hp) (loc : List Addr) (B : Bs) (H : Hp) (ρ ρ' : En) (σ : L2.St) (w : W) (v : V) (Q : L2.St → Hp → Prop), Sim K F loc B H → EnvR K F loc ρ σ → RW K F loc w v → tg w ρ = some ρ' →
  (∀ σ', EnvR K F loc ρ' σ' → SameBut js σ σ' → Q σ' H) → g v σ H Q
def tgName (i : Nat) : Tg := fun w ρ => some (ρ.set i (some w))
@[simp] theorem tgName_eq (i : Nat) (w : W) (ρ : En) : tgName i w ρ = some (ρ.set i (some w)) := rfl
theorem tg_name (K : PySem.W.Frag) (i : Nat) : TgOk K (gName i) [i] (tgName i) := by
  intro F loc B H ρ ρ' σ w v Q S R r h q
  cases h
  exact q _ (R.set r i) ⟨by rw [List.length_set], fun j hj => by rw [List.getElem?_set_ne (fun z => hj (by rw [z]; exact List.mem_singleton.mpr rfl))]⟩
/-- several names of a tuple -/
def tgAll : List Nat → List PyData → En → Option En
  | [], [], ρ => some ρ
  | j :: js, d :: ds, ρ => tgAll js ds (ρ.set j (some (.d d)))
  | _, _, _ => none
@[simp] theorem tgAll_nil (ρ : En) : tgAll [] [] ρ = some ρ := rfl
@[simp] theorem tgAll_cons (j : Nat) (js : List Nat) (d : PyData) (ds : List PyData) (ρ : En) : tgAll (j :: js) (d :: ds) ρ = tgAll js ds (ρ.set j (some (.d d))) := rfl
def tgTup (js : List Nat) : Tg := fun w ρ => match w with
  | .d (.tuple ds) => tgAll js ds ρ
  | _ => none
@[simp] theorem tgTup_eq (js : List Nat) (ds : List PyData) (ρ : En) : tgTup js (.d (.tuple ds)) ρ = tgAll js ds ρ := rfl
def gNames : List Nat → TGs
  | [] => gNil
  | j :: js => gCons (gName j) (gNames js)
theorem tgAll_len : ∀ {js : List Nat} {ds : List PyData} {ρ ρ' : En}, tgAll js ds ρ = some ρ' → ds.length = js.length
  | [], [], _, _, _ => rfl
  | j :: js, d :: ds, ρ, ρ', h => by
    have := tgAll_len (js := js) (ds := ds) h
    simp [this]
  | [], _ :: _, _, _, h => by cases h
  | _ :: _, [], _, _, h => by cases h
theorem tg_all {K : PySem.W.Frag} {F : Hp} {loc : List Addr} {H : Hp} {Q : L2.St → Hp → Prop} : ∀ {js : List Nat} {ds : List PyData} {ρ ρ' : En} {σ : L2.St} {vs : List V}, EnvR K F loc ρ σ → DqAll F vs ds → tgAll js ds ρ = some ρ' →
    (∀ σ', EnvR K F loc ρ' σ' → SameBut js σ σ' → Q σ' H) → gNames js vs σ H Q
  | [], [], ρ, ρ', σ, vs, R, r, h, q => by
    cases h; cases r
    exact ⟨rfl, q σ R (SameBut.refl σ)⟩
  | j :: js, d :: ds, ρ, ρ', σ, vs, R, r, h, q => by
    cases r with
    | cons h1 h2 =>
      refine ⟨_, _, rfl, ?_⟩
      refine tg_all (js := js) (ds := ds) (R.set (w := .d d) h1 j) h2 h fun σ' R' sb => q σ' R' ⟨by rw [sb.len, List.length_set], fun i hi => ?_⟩
      rw [sb.get i (fun z => hi (List.mem_cons_of_mem _ z)), List.getElem?_set_ne (fun z => hi (by rw [z]; exact List.mem_cons_self))]
  | [], _ :: _, _, _, _, _, _, _, h, _ => by cases h
  | _ :: _, [], _, _, _, _, _, _, h, _ => by cases h
theorem tg_tup (K : PySem.W.Frag) (js : List Nat) : TgOk K (gTup K js.length (gNames js)) js (tgTup js) := by
  intro F loc B H ρ ρ' σ w v Q S R r h q
  cases w with
  | box n => cases h
  | scr _ => cases h
  | d x =>
    cases x with
    | tuple ds =>
      cases r with
      | tup h1 h2 =>
        rename_i a xs
        exact ⟨a, xs, rfl, sqT_of (S.ex _ _ h1), by rw [dpAll_len h2]; exact tgAll_len h, tg_all R h2 h q⟩
    | _ => cases h

/-! ### what is walked -/
abbrev Di := En → Bs → Out (List W)
/-- J hands out the items, whatever else happens (the frozen part and the boxes only grow) -/
def Follows (K : PySem.W.Frag) (F : Hp) (loc : List Addr) (J : It) (items : List W) : Prop := ∀ (i : Nat) (F1 : Hp) (loc1 : List Addr) (B1 : Bs) (H1 : Hp), FE F F1 → loc <+: loc1 → Sim K F1 loc1 B1 H1 →
  (∀ w, items[i]? = some w → J.go i H1 ∧ ∀ x H2, J.yld i H1 x H2 → ∃ F2, Ext F1 loc1 H1 F2 loc1 H2 ∧ Sim K F2 loc1 B1 H2 ∧ RW K F2 loc1 w x) ∧ (items.length ≤ i → J.stop i H1)
def tI (K : PySem.W.Frag) (f : Di) : TI := fun σ H R => ∃ F loc ρ B, Sim K F loc B H ∧ EnvR K F loc ρ σ ∧ Pst K (fun F loc items J => Follows K F loc J items) F loc H (f ρ B) R
section
variable {X : Cx} {a b e tg : Expr} {f g : De} {pos : Pos}
/-- over a list of plain data (frozen) -/
def itemsF (f : De) : Di := fun ρ B => (f ρ B).bind fun w B1 => match w with
  | .d (.list ds) => .ok (ds.map W.d) B1
  | .d (.tuple ds) => .ok (ds.map W.d) B1
  | .scr ns => .ok ((ns.map PyData.int).map W.d) B1
  | _ => .bad
theorem itemsF_eq (f : De) (ρ : En) (B : Bs) : itemsF f ρ B = (f ρ B).bind fun w B1 => match w with
  | .d (.list ds) => .ok (ds.map W.d) B1
  | .d (.tuple ds) => .ok (ds.map W.d) B1
  | .scr ns => .ok ((ns.map PyData.int).map W.d) B1
  | _ => .bad := rfl
theorem fol_list {K : PySem.W.Frag} {F : Hp} {loc : List Addr} {p : Addr} {xs : List V} {ds : List PyData} (h1 : SqL K F p xs) (h2 : DqAll F xs ds) : Follows K F loc (Itl K p) (ds.map W.d) := by
  intro i F1 loc1 B1 H1 e pr S
  have q := sqL_mono S.ex (sqL_mono e h1)
  refine ⟨fun w hw => ?_, fun hi => ⟨xs, q, by rw [dpAll_len h2]; rw [List.length_map] at hi; exact hi⟩⟩
  rw [List.getElem?_map] at hw
  cases hd : ds[i]? with
  | none => rw [hd] at hw; cases hw
  | some d =>
    rw [hd] at hw
    have ew : some (W.d d) = some w := hw
    cases ew
    obtain ⟨v, g1, g2⟩ := dpAll_get h2 hd
    refine ⟨⟨xs, v, q, g1⟩, fun x H2 hy => ?_⟩
    obtain ⟨rfl, hy⟩ := hy
    have ex := hy xs q
    rw [g1] at ex
    cases ex
    exact ⟨F1, Ext.refl, S, dp_mono e g2⟩
theorem fol_tup {K : PySem.W.Frag} {F : Hp} {loc : List Addr} {p : Addr} {xs : List V} {ds : List PyData} (h1 : SqT K F p xs) (h2 : DqAll F xs ds) : Follows K F loc (Itt K p) (ds.map W.d) := by
  intro i F1 loc1 B1 H1 e pr S
  have q := sqT_mono S.ex (sqT_mono e h1)
  refine ⟨fun w hw => ?_, fun hi => ⟨xs, q, by rw [dpAll_len h2]; rw [List.length_map] at hi; exact hi⟩⟩
  rw [List.getElem?_map] at hw
  cases hd : ds[i]? with
  | none => rw [hd] at hw; cases hw
  | some d =>
    rw [hd] at hw
    have ew : some (W.d d) = some w := hw
    cases ew
    obtain ⟨v, g1, g2⟩ := dpAll_get h2 hd
    refine ⟨⟨xs, v, q, g1⟩, fun x H2 hy => ?_⟩
    obtain ⟨rfl, hy⟩ := hy
    have ex := hy xs q
    rw [g1] at ex
    cases ex
    exact ⟨F1, Ext.refl, S, dp_mono e g2⟩
theorem pi_either {t u : TI} (h : PI X tg e t) (h' : PI X tg e u) : PI X tg e (fun σ H Q => t σ H Q ∨ u σ H Q) := ⟨fun pins s σ H Q I q => q.elim (h.run pins s σ H Q I) (h'.run pins s σ H Q I)⟩
theorem i_items (h : PE X e (tE X.K f)) : PI X tg e (tI X.K (itemsF f)) := by
  refine pi_imp (pi_either (pi_list h) (pi_tup h)) fun σ H Q ⟨F, loc, ρ, B, S, R, P⟩ => ?_
  cases q : f ρ B with
  | bad => rw [itemsF_eq, q] at P; exact P.elim
  | exc x B' => rw [itemsF_eq, q] at P; exact P.elim
  | ok w B1 =>
    rw [itemsF_eq, q, Out.bind_ok] at P
    cases w with
    | scr ns =>
      refine .inl ⟨F, loc, ρ, B, S, R, ?_⟩
      rw [q]
      intro F1 loc1 H1 v1 E1 S1 r1
      obtain ⟨a, rfl, ha⟩ := r1
      exact ⟨_, rfl, ⟨_, sqL_mono S1.ex ha⟩, P F1 loc1 H1 _ E1 S1 (fol_list ha dqAll_ints)⟩
    | box n => exact P.elim
    | d x =>
      cases x with
      | list ds =>
        refine .inl ⟨F, loc, ρ, B, S, R, ?_⟩
        rw [q]
        intro F1 loc1 H1 v1 E1 S1 r1
        cases r1 with
        | lst h1 h2 => exact ⟨_, rfl, ⟨_, sqL_of (S1.ex _ _ h1)⟩, P F1 loc1 H1 _ E1 S1 (fol_list (sqL_of h1) h2)⟩
      | tuple ds =>
        refine .inr ⟨F, loc, ρ, B, S, R, ?_⟩
        rw [q]
        intro F1 loc1 H1 v1 E1 S1 r1
        cases r1 with
        | tup h1 h2 => exact ⟨_, rfl, ⟨_, sqT_of (S1.ex _ _ h1)⟩, P F1 loc1 H1 _ E1 S1 (fol_tup (sqT_of h1) h2)⟩
      | _ => exact P.elim
/-- range(n), range(a, b) -/
def irng (lo : Int) (n : Nat) : List W := (List.range n).map fun (i : Nat) => W.d (.int (lo + (i : Int)))
theorem fol_range {K : PySem.W.Frag} {F : Hp} {loc : List Addr} (lo : Int) (n : Nat) : Follows K F loc (Itr lo n) (irng lo n) := by
  intro i F1 loc1 B1 H1 e pr S
  unfold irng
  refine ⟨fun w hw => ?_, fun hi => by rw [List.length_map, List.length_range] at hi; exact hi⟩
  rw [List.getElem?_map] at hw
  by_cases hi : i < n
  · rw [List.getElem?_range hi] at hw
    have ew : some (W.d (.int (lo + (i : Int)))) = some w := hw
    cases ew
    refine ⟨hi, fun x H2 hy => ?_⟩
    obtain ⟨rfl, rfl⟩ := hy
    exact ⟨F1, Ext.refl, S, .int _⟩
  · rw [List.getElem?_eq_none (by rw [List.length_range]; omega)] at hw
    cases hw
/-- (told in a way that nothing of that size is ever counted down) -/
def cRng (j : Int) : Bool := decide (j.natAbs.log2 < 61)
theorem cRng_ok {j : Int} (h : cRng j = true) : -(2 ^ 62) ≤ j ∧ j < 2 ^ 62 := by
  have h1 : j.natAbs.log2 < 61 := of_decide_eq_true h
  have h2 : j.natAbs < 2 ^ 61 := by
    by_cases h0 : j.natAbs = 0
    · rw [h0]; exact Nat.two_pow_pos _
    · exact (Nat.log2_lt h0).mp h1
  have e : (2 : Nat) ^ 61 = 2305843009213693952 := by decide +kernel
  have e2 : (2 : Int) ^ 62 = 4611686018427387904 := by decide +kernel
  rw [e] at h2
  rw [e2]
  omega
def range1F (g : De) : Di := fun ρ B => (g ρ B).bind fun w B1 => match w with
  | .d (.int n) => if cRng n = true then .ok (irng 0 n.toNat) B1 else .bad
  | _ => .bad
def range2F (f g : De) : Di := fun ρ B => (f ρ B).bind fun x B1 => (g ρ B1).bind fun y B2 => match x, y with
  | .d (.int a), .d (.int b) => if cRng a && cRng b then .ok (irng a (b - a).toNat) B2 else .bad
  | _, _ => .bad
@[simp] theorem range1F_eq (g : De) (ρ : En) (B : Bs) : range1F g ρ B = (g ρ B).bind fun w B1 => match w with
  | .d (.int n) => if cRng n = true then .ok (irng 0 n.toNat) B1 else .bad
  | _ => .bad := rfl
@[simp] theorem range2F_eq (f g : De) (ρ : En) (B : Bs) : range2F f g ρ B = (f ρ B).bind fun x B1 => (g ρ B1).bind fun y B2 => match x, y with
  | .d (.int a), .d (.int b) => if cRng a && cRng b then .ok (irng a (b - a).toNat) B2 else .bad
  | _, _ => .bad := rfl
theorem i_range1 {p : Pos} (hg : Gl X "range") (hm : X.mg "range" = none) (ha : PE X a (tE X.K f)) (hs : starEach [a] X.env = (false, eval a X.env) :: starEach [] X.env := by rfl) : PI X tg (.Call (.Name "range" p) [a] [] pos) (tI X.K (range1F f)) := by
  refine pi_imp (pi_range1 hg hm (pa_cons ha pa_nil hs) hs) fun σ H Q ⟨F, loc, ρ, B, S, R, P⟩ => ?_
  refine ⟨F, loc, ρ, B, S, R, Pst.bind P fun x B1 F1 loc1 H1 v1 e1 E1 S1 r1 P1 => ?_⟩
  cases x with
  | scr _ => exact P1.elim
  | box n => exact P1.elim
  | d x =>
    cases x with
    | int n =>
      simp only at P1
      split at P1
      · rename_i hc
        obtain ⟨c1, c2⟩ := cRng_ok hc
        refine ⟨n, by rw [dq_int r1], c1, c2, P1.here S1 (fol_range 0 n.toNat)⟩
      · exact P1.elim
    | _ => exact P1.elim
theorem i_range2 {p : Pos} (hg : Gl X "range") (hm : X.mg "range" = none) (ha : PE X a (tE X.K f)) (hb : PE X b (tE X.K g)) (hs : starEach [a, b] X.env = (false, eval a X.env) :: starEach [b] X.env := by rfl) (hs2 : starEach [b] X.env = (false, eval b X.env) :: starEach [] X.env := by rfl) : PI X tg (.Call (.Name "range" p) [a, b] [] pos) (tI X.K (range2F f g)) := by
  refine pi_imp (pi_range2 hg hm (pa_cons ha (pa_cons hb pa_nil hs2) hs) (by rw [hs, hs2]; rfl) hs2) fun σ H Q ⟨F, loc, ρ, B, S, R, P⟩ => ?_
  refine ⟨F, loc, ρ, B, S, R, Pst.bind P fun x B1 F1 loc1 H1 v1 e1 E1 S1 r1 P1 => ?_⟩
  refine ⟨F1, loc1, ρ, B1, S1, R.ext E1, Pst.bind P1 fun y B2 F2 loc2 H2 v2 e2 E2 S2 r2 P2 => ?_⟩
  cases x with
  | scr _ => exact P2.elim
  | box n => exact P2.elim
  | d x =>
    cases x with
    | int n =>
      cases y with
      | scr _ => exact P2.elim
      | box m => exact P2.elim
      | d y =>
        cases y with
        | int m =>
          simp only at P2
          split at P2
          · rename_i hc
            rw [Bool.and_eq_true] at hc
            obtain ⟨c1, c2⟩ := cRng_ok hc.1
            obtain ⟨c3, c4⟩ := cRng_ok hc.2
            refine ⟨n, m, by rw [dq_int r1, dq_int r2], ⟨c1, c2, c3, c4⟩, P2.here S2 (fol_range n (m - n).toNat)⟩
          · exact P2.elim
        | _ => exact P2.elim
    | _ => exact P2.elim
/-- enumerate(xs), zip(xs, ys): a tuple each turn -/
def enumL (ds : List PyData) : List W := ds.zipIdx.map fun p => W.d (.tuple [.int (p.2 : Int), p.1])
theorem enumL_get {ds : List PyData} {i : Nat} {w : W} (h : (enumL ds)[i]? = some w) : ∃ d, ds[i]? = some d ∧ w = .d (.tuple [.int (i : Int), d]) := by
  unfold enumL at h
  rw [List.getElem?_map, List.getElem?_zipIdx] at h
  cases q : ds[i]? with
  | none => rw [q] at h; cases h
  | some d =>
    rw [q] at h
    refine ⟨d, rfl, ?_⟩
    have e : some (W.d (.tuple [.int ((0 + i : Nat) : Int), d])) = some w := h
    rw [Nat.zero_add] at e
    cases e
    rfl
theorem fol_enum {K : PySem.W.Frag} {F : Hp} {loc : List Addr} {p : Addr} {xs : List V} {ds : List PyData} (h1 : SqL K F p xs) (h2 : DqAll F xs ds) : Follows K F loc (Ite K p) (enumL ds) := by
  intro i F1 loc1 B1 H1 e pr S
  have q := sqL_mono S.ex (sqL_mono e h1)
  refine ⟨fun w hw => ?_, fun hi => ⟨xs, q, by rw [dpAll_len h2]; unfold enumL at hi; rw [List.length_map, List.length_zipIdx] at hi; exact hi⟩⟩
  obtain ⟨d, hd, rfl⟩ := enumL_get hw
  obtain ⟨v, g1, g2⟩ := dpAll_get h2 hd
  refine ⟨⟨xs, v, q, g1⟩, fun x H2 hy => ?_⟩
  obtain ⟨T, y, rfl, hT, rfl, hy⟩ := hy
  have ex := hy xs q
  rw [g1] at ex
  cases ex
  obtain ⟨S2, E2⟩ := S.new hT (.tup [.int (i : Nat), v])
  exact ⟨_, E2, S2, .tup upd_same (.cons (.int _) (.cons (dp_mono (e.trans E2.ex) g2) .nil))⟩
def zipL (ds es : List PyData) : List W := (ds.zip es).map fun p => W.d (.tuple [p.1, p.2])
theorem zipL_get {ds es : List PyData} {i : Nat} {w : W} (h : (zipL ds es)[i]? = some w) : ∃ d e, ds[i]? = some d ∧ es[i]? = some e ∧ w = .d (.tuple [d, e]) := by
  unfold zipL at h
  rw [List.getElem?_map] at h
  cases q : (ds.zip es)[i]? with
  | none => rw [q] at h; cases h
  | some p =>
    rw [q] at h
    obtain ⟨d, e⟩ := p
    obtain ⟨g1, g2⟩ := List.getElem?_zip_eq_some.mp q
    have e : some (W.d (.tuple [d, e])) = some w := h
    cases e
    exact ⟨d, e, g1, g2, rfl⟩
theorem fol_zip {K : PySem.W.Frag} {F : Hp} {loc : List Addr} {p p' : Addr} {xs xs' : List V} {ds es : List PyData} (h1 : SqL K F p xs) (h2 : DqAll F xs ds) (h3 : SqL K F p' xs') (h4 : DqAll F xs' es) : Follows K F loc (Itz K p p') (zipL ds es) := by
  intro i F1 loc1 B1 H1 e pr S
  have q := sqL_mono S.ex (sqL_mono e h1)
  have q' := sqL_mono S.ex (sqL_mono e h3)
  refine ⟨fun w hw => ?_, fun hi => ⟨xs, xs', q, q', by rw [dpAll_len h2, dpAll_len h4]; unfold zipL at hi; rw [List.length_map, List.length_zip] at hi; omega⟩⟩
  obtain ⟨d, d', hd, hd', rfl⟩ := zipL_get hw
  obtain ⟨v, g1, g2⟩ := dpAll_get h2 hd
  obtain ⟨v', g1', g2'⟩ := dpAll_get h4 hd'
  refine ⟨⟨xs, xs', v, v', q, q', g1, g1'⟩, fun x H2 hy => ?_⟩
  obtain ⟨T, y, y', rfl, hT, rfl, hy, hy'⟩ := hy
  have ex := hy xs q
  have ex' := hy' xs' q'
  rw [g1] at ex
  rw [g1'] at ex'
  cases ex; cases ex'
  obtain ⟨S2, E2⟩ := S.new hT (.tup [v, v'])
  exact ⟨_, E2, S2, .tup upd_same (.cons (dp_mono (e.trans E2.ex) g2) (.cons (dp_mono (e.trans E2.ex) g2') .nil))⟩
def enumF (f : De) : Di := fun ρ B => (f ρ B).bind fun w B1 => match w with
  | .d (.list ds) => .ok (enumL ds) B1
  | _ => .bad
def zipF (f g : De) : Di := fun ρ B => (f ρ B).bind fun x B1 => (g ρ B1).bind fun y B2 => match x, y with
  | .d (.list ds), .d (.list es) => .ok (zipL ds es) B2
  | _, _ => .bad
theorem enumF_eq (f : De) (ρ : En) (B : Bs) : enumF f ρ B = (f ρ B).bind fun w B1 => match w with
  | .d (.list ds) => .ok (enumL ds) B1
  | _ => .bad := rfl
theorem zipF_eq (f g : De) (ρ : En) (B : Bs) : zipF f g ρ B = (f ρ B).bind fun x B1 => (g ρ B1).bind fun y B2 => match x, y with
  | .d (.list ds), .d (.list es) => .ok (zipL ds es) B2
  | _, _ => .bad := rfl
variable {elts : List Expr} {kk : Nat} {tpos : Pos}
theorem i_enum {p : Pos} (hg : Gl X "enumerate") (hm : X.mg "enumerate" = none) (ha : PE X a (tE X.K f)) (hs : starEach [a] X.env = (false, eval a X.env) :: starEach [] X.env := by rfl) : PI X (.Tuple elts kk tpos) (.Call (.Name "enumerate" p) [a] [] pos) (tI X.K (enumF f)) := by
  refine pi_imp (pi_enum hg hm (pa_cons ha pa_nil hs) hs) fun σ H Q ⟨F, loc, ρ, B, S, R, P⟩ => ?_
  refine ⟨F, loc, ρ, B, S, R, Pst.bind P fun x B1 F1 loc1 H1 v1 e1 E1 S1 r1 P1 => ?_⟩
  cases x with
  | scr _ => exact P1.elim
  | box n => exact P1.elim
  | d x =>
    cases x with
    | list ds =>
      cases r1 with
      | lst h1 h2 => exact ⟨_, _, rfl, sqL_of (S1.ex _ _ h1), P1.here S1 (fol_enum (sqL_of h1) h2)⟩
    | _ => exact P1.elim
theorem i_zip {p : Pos} (hg : Gl X "zip") (hm : X.mg "zip" = none) (ha : PE X a (tE X.K f)) (hb : PE X b (tE X.K g)) (hs : starEach [a, b] X.env = (false, eval a X.env) :: starEach [b] X.env := by rfl) (hs2 : starEach [b] X.env = (false, eval b X.env) :: starEach [] X.env := by rfl)
    (hpl : (backTo pos (starEach [b] X.env)).any (·.1) = false := by rfl) : PI X (.Tuple elts kk tpos) (.Call (.Name "zip" p) [a, b] [] pos) (tI X.K (zipF f g)) := by
  refine pi_imp (pi_zip hg hm (pa_cons ha (pa_cons hb pa_nil hs2) hs) hs hpl) fun σ H Q ⟨F, loc, ρ, B, S, R, P⟩ => ?_
  refine ⟨F, loc, ρ, B, S, R, Pst.bind P fun x B1 F1 loc1 H1 v1 e1 E1 S1 r1 P1 => ?_⟩
  refine ⟨F1, loc1, ρ, B1, S1, R.ext E1, Pst.bind P1 fun y B2 F2 loc2 H2 v2 e2 E2 S2 r2 P2 => ?_⟩
  have r1' : RW X.K F2 loc2 x v1 := rw_mono E2.ex E2.pre r1
  cases x with
  | scr _ => exact P2.elim
  | box n => exact P2.elim
  | d x =>
    cases x with
    | list ds =>
      cases y with
      | scr _ => exact P2.elim
      | box m => exact P2.elim
      | d y =>
        cases y with
        | list es =>
          cases r1' with
          | lst h1 h2 =>
            cases r2 with
            | lst h3 h4 => exact ⟨_, _, _, _, rfl, sqL_of (S2.ex _ _ h1), sqL_of (S2.ex _ _ h3), P2.here S2 (fol_zip (sqL_of h1) h2 (sqL_of h3) h4)⟩
        | _ => exact P2.elim
    | _ => exact P2.elim
end
end Mini

namespace Mini
open PySem PySem.Spec PyProof.Rows L2

/-! ### comprehensions -/
def lcGo (tg : Tg) (ct : Dt) (ef : De) (ρ : En) : List W → Bs → Out (List W)
  | [], B => .ok [] B
  | w :: r, B => match tg w ρ with
    | none => .bad
    | some ρ1 => (ct ρ1 B).bind fun b B1 => if b = true then (ef ρ1 B1).bind fun y B2 => (lcGo tg ct ef ρ r B2).bind fun ys B3 => .ok (y :: ys) B3 else lcGo tg ct ef ρ r B1
theorem lcGo_nil (tg : Tg) (ct : Dt) (ef : De) (ρ : En) (B : Bs) : lcGo tg ct ef ρ [] B = .ok [] B := rfl
theorem lcGo_cons (tg : Tg) (ct : Dt) (ef : De) (ρ : En) (w : W) (r : List W) (B : Bs) : lcGo tg ct ef ρ (w :: r) B = match tg w ρ with
    | none => .bad
    | some ρ1 => (ct ρ1 B).bind fun b B1 => if b = true then (ef ρ1 B1).bind fun y B2 => (lcGo tg ct ef ρ r B2).bind fun ys B3 => .ok (y :: ys) B3 else lcGo tg ct ef ρ r B1 := rfl
def yesT : Dt := fun _ B => .ok true B
@[simp] theorem yesT_eq (ρ : En) (B : Bs) : yesT ρ B = .ok true B := rfl
/-- [e for x in xs if t]: plain data; in a box -/
def lcF (it : Di) (vs : List Nat) (tg : Tg) (ct : Dt) (ef : De) : De := fun ρ B => (it ρ B).bind fun items B1 => if items.length ≤ LN then (lcGo tg ct ef (wipeE ρ vs) items B1).bind fun ws B2 => match datas ws with
  | some ds => .ok (.d (.list ds)) B2
  | none => .bad
  else .bad
def lcbF (it : Di) (vs : List Nat) (tg : Tg) (ct : Dt) (ef : De) : De := fun ρ B => (it ρ B).bind fun items B1 => if items.length ≤ LN then (lcGo tg ct ef (wipeE ρ vs) items B1).bind fun ws B2 => .ok (.box B2.length) (B2 ++ [some (.lst ws)])
  else .bad
section
variable {X : Cx}
theorem bind_assoc {α β γ : Type} (o : Out α) (f : α → Bs → Out β) (g : β → Bs → Out γ) : (o.bind f).bind g = o.bind fun a B => (f a B).bind g := by cases o <;> rfl
theorem paired_app {α β : Type} {R : α → β → Prop} : ∀ {a c : List α} {b d : List β}, Paired R a b → Paired R c d → Paired R (a ++ c) (b ++ d)
  | _, _, _, _, .nil, h => h
  | _, _, _, _, .cons h r, h' => .cons h (paired_app r h')
theorem Pst.bindAt {K : PySem.W.Frag} {α β γ δ : Type} {R : Hp → List Addr → α → β → Prop} {R2 : Hp → List Addr → γ → δ → Prop} {F F' : Hp} {loc loc' : List Addr} {H H' : Hp} {o : Out α} {f : α → Bs → Out γ} {Q : δ → Hp → Prop} {T : β → Hp → Prop} (h : Pst K R2 F' loc' H' (o.bind f) Q)
    (k : ∀ a B1 F1 loc1 H1 b, o = .ok a B1 → Ext F loc H F1 loc1 H1 → Sim K F1 loc1 B1 H1 → R F1 loc1 a b → Pst K R2 F' loc' H' (f a B1) Q → T b H1) : Pst K R F loc H o T := by
  cases o with
  | ok a B1 => exact fun F1 loc1 H1 b E S r => k a B1 F1 loc1 H1 b rfl E S r h
  | exc x B' => exact h.elim
  | bad => exact h.elim
/-- the reading of a comprehension: what is made of the items so far stands at D -/
theorem lc_read {K : PySem.W.Frag} {it : Di} {vs js : List Nat} {tg : Tg} {ct : Dt} {ef : De} {g : TG} (hg : TgOk K g js tg) (hj : ∀ j ∈ js, j ∈ vs) {fin : List W → Bs → Out W}
    (hfin : ∀ (F1 : Hp) (loc1 : List Addr) (H1 : Hp) (F2 : Hp) (loc2 : List Addr) (H2 : Hp) (D : Addr) (acc : List V) (ws : List W) (B2 : Bs) (Q : VK), H1 D = none → Ext F1 loc1 H1 F2 loc2 H2 → Sim K F2 loc2 B2 H2 → F2 D = none → D ∉ loc2 → H2 D = some (.lst acc) → RWs K F2 loc2 ws acc →
      Pst K (RW K) F1 loc1 H1 (fin ws B2) Q → Q (.ref D) H2) :
    ∀ σ H Q, tE K (fun ρ B => (it ρ B).bind fun items B1 => if items.length ≤ LN then (lcGo tg ct ef (wipeE ρ vs) items B1).bind fin else .bad) σ H Q → tLc (tI K it) g (tT K ct) (tE K ef) vs σ H Q := by
  intro σ H Q ⟨F, loc, ρ, B, S, R, P⟩
  refine ⟨F, loc, ρ, B, S, R, Pst.bind P fun items B1 F1 loc1 H1 J e1 E1 S1 fol P1 => ?_⟩
  by_cases hl : items.length ≤ LN
  case neg => rw [if_neg hl] at P1; exact P1.elim
  rw [if_pos hl] at P1
  intro D hD
  -- the invariant
  let Inv' : Nat → Hp → Prop := fun i H3 => ∃ F3 loc3 B3 acc ws, Ext F1 loc1 H1 F3 loc3 H3 ∧ Sim K F3 loc3 B3 H3 ∧ F3 D = none ∧ D ∉ loc3 ∧ H3 D = some (.lst acc) ∧ RWs K F3 loc3 ws acc ∧ acc.length ≤ i ∧ i ≤ items.length ∧
    Pst K (RW K) F1 loc1 H1 ((lcGo tg ct ef (wipeE ρ vs) (items.drop i) B3).bind fun ys B4 => fin (ws ++ ys) B4) Q
  refine ⟨fun i m H3 => m = items.length - i ∧ Inv' i H3, ⟨items.length, by simp, F1, loc1, B1, [], [], Ext.other Ext.refl hD, S1.other (S1.freeF hD) (S1.freeL hD), S1.freeF hD, S1.freeL hD, upd_same, .nil, Nat.le_refl _, Nat.zero_le _, ?_⟩, ?_⟩
  · rw [List.drop_zero]
    exact P1
  rintro i m H3 ⟨rfl, F3, loc3, B3, acc, ws, E3, S3, dF, dL, dH, rw3, la, li, P3⟩
  obtain ⟨fitem, fstop⟩ := fol i F3 loc3 B3 H3 E3.ex E3.pre S3
  by_cases hi : i < items.length
  · obtain ⟨w, hw⟩ : ∃ w, items[i]? = some w := ⟨items[i], List.getElem?_eq_getElem hi⟩
    obtain ⟨go, hy⟩ := fitem w hw
    refine .inr ⟨go, Inv' (i + 1), fun H' q => ⟨items.length - (i + 1), by omega, rfl, q⟩, fun x H4 yl => ?_⟩
    obtain ⟨F4, E4, S4, r4⟩ := hy x H4 yl
    have hdrop : items.drop i = w :: items.drop (i + 1) := by
      rw [List.drop_eq_getElem_cons hi]
      congr 1
      exact (List.getElem?_eq_some_iff.mp hw).2
    rw [hdrop, lcGo_cons] at P3
    obtain ⟨dH4, dF4, dL4⟩ := E4.fr D _ dH (fun _ z => nomatch z) dF dL
    have R4 : EnvR K F4 loc3 (wipeE ρ vs) (L2.wipe σ vs) := (((R.ext E1).ext E3).ext E4).wipe vs
    cases ht : tg w (wipeE ρ vs) with
    | none => rw [ht] at P3; exact P3.elim
    | some ρ1 =>
      rw [ht] at P3
      simp only [bind_assoc] at P3
      refine hg F4 loc3 B3 H4 (wipeE ρ vs) ρ1 (L2.wipe σ vs) w x _ S4 R4 r4 ht fun σ2 R5 sb => ⟨sb.wipe hj, ?_⟩
      refine ⟨F4, loc3, ρ1, B3, S4, R5, Pst.bindAt P3 fun k B5 F5 loc5 H5 k' e5 E5 S5 r5 P5 => ?_⟩
      rw [show k' = k from r5]
      obtain ⟨dH5, dF5, dL5⟩ := E5.fr D _ dH4 (fun _ z => nomatch z) dF4 dL4
      cases k with
      | false =>
        rw [if_neg Bool.false_ne_true]
        rw [if_neg Bool.false_ne_true] at P5
        exact ⟨F5, loc5, B5, acc, ws, E3.trans (E4.trans E5), S5, dF5, dL5, dH5, rws_mono (E4.trans E5).ex (E4.trans E5).pre rw3, by omega, by omega, P5⟩
      | true =>
        rw [if_pos rfl]
        rw [if_pos rfl] at P5
        simp only [bind_assoc] at P5
        refine ⟨F5, loc5, ρ1, B5, S5, R5.ext E5, Pst.bindAt P5 fun y B6 F6 loc6 H6 v e6 E6 S6 r6 P6 => ?_⟩
        obtain ⟨dH6, dF6, dL6⟩ := E6.fr D _ dH5 (fun _ z => nomatch z) dF5 dL5
        refine ⟨acc, dH6, by unfold LN at hl; rw [sizeLine_eq]; omega, F6, loc6, B6, acc ++ [v], ws ++ [y], Ext.other (E3.trans (E4.trans (E5.trans E6))) hD, S6.other dF6 dL6, dF6, dL6, upd_same, paired_app (rws_mono (E4.trans (E5.trans E6)).ex (E4.trans (E5.trans E6)).pre rw3) (.cons r6 .nil), by rw [List.length_append]; simp; omega, by omega, ?_⟩
        simp only [Out.bind_ok] at P6
        simp only [List.append_assoc, List.singleton_append]
        exact P6
  · have hi' : i = items.length := by omega
    subst hi'
    rw [List.drop_length, lcGo_nil, Out.bind_ok, List.append_nil] at P3
    exact .inl ⟨fstop (Nat.le_refl _), hfin F1 loc1 H1 F3 loc3 H3 D acc ws B3 Q hD E3 S3 dF dL dH rw3 P3⟩
theorem fin_data {K : PySem.W.Frag} : ∀ (F1 : Hp) (loc1 : List Addr) (H1 : Hp) (F2 : Hp) (loc2 : List Addr) (H2 : Hp) (D : Addr) (acc : List V) (ws : List W) (B2 : Bs) (Q : VK), H1 D = none → Ext F1 loc1 H1 F2 loc2 H2 → Sim K F2 loc2 B2 H2 → F2 D = none → D ∉ loc2 → H2 D = some (.lst acc) → RWs K F2 loc2 ws acc →
    Pst K (RW K) F1 loc1 H1 (match datas ws with
      | some ds => .ok (.d (.list ds)) B2
      | none => .bad) Q → Q (.ref D) H2 := by
  intro F1 loc1 H1 F2 loc2 H2 D acc ws B2 Q hD E S dF dL dH r P
  cases q : datas ws with
  | none => rw [q] at P; exact P.elim
  | some ds =>
    rw [q] at P
    rw [datas_eq q] at r
    have r' := dpAll_of_rws r
    refine P (upd F2 D (.lst acc)) loc2 H2 (.ref D) (E.adopt hD dF) (S.adopt dF dL dH) (.lst upd_same (dpAll_mono (fun c u h => by rw [upd_ne (ne_of_none h dF)]; exact h) r'))
theorem fin_box {K : PySem.W.Frag} : ∀ (F1 : Hp) (loc1 : List Addr) (H1 : Hp) (F2 : Hp) (loc2 : List Addr) (H2 : Hp) (D : Addr) (acc : List V) (ws : List W) (B2 : Bs) (Q : VK), H1 D = none → Ext F1 loc1 H1 F2 loc2 H2 → Sim K F2 loc2 B2 H2 → F2 D = none → D ∉ loc2 → H2 D = some (.lst acc) → RWs K F2 loc2 ws acc →
    Pst K (RW K) F1 loc1 H1 (.ok (.box B2.length) (B2 ++ [some (.lst ws)])) Q → Q (.ref D) H2 := by
  intro F1 loc1 H1 F2 loc2 H2 D acc ws B2 Q hD E S dF dL dH r P
  refine P F2 (loc2 ++ [D]) H2 (.ref D) (E.adoptBox hD) (S.adoptBox dF dL dH ⟨acc, rfl, r⟩) ⟨D, rfl, ?_⟩
  rw [← S.len, List.getElem?_append_right (Nat.le_refl _), Nat.sub_self]; rfl
theorem lcF_read {K : PySem.W.Frag} {it : Di} {vs js : List Nat} {tg : Tg} {ct : Dt} {ef : De} {g : TG} (hg : TgOk K g js tg) (hj : ∀ j ∈ js, j ∈ vs) : ∀ σ H Q, tE K (lcF it vs tg ct ef) σ H Q → tLc (tI K it) g (tT K ct) (tE K ef) vs σ H Q := lc_read hg hj fin_data
theorem lcbF_read {K : PySem.W.Frag} {it : Di} {vs js : List Nat} {tg : Tg} {ct : Dt} {ef : De} {g : TG} (hg : TgOk K g js tg) (hj : ∀ j ∈ js, j ∈ vs) : ∀ σ H Q, tE K (lcbF it vs tg ct ef) σ H Q → tLc (tI K it) g (tT K ct) (tE K ef) vs σ H Q := lc_read hg hj fin_box
theorem ts_nil : PTs X [] (tT X.K yesT) := by
  have h := pts_nil (X := X)
  exact ⟨fun pins s σ H Q I ⟨F, loc, ρ, B, S, R, P⟩ => h.run pins s σ H Q I (P.here S rfl)⟩
theorem ts_one {c : Expr} {ct : Dt} (h : PT X c (tT X.K ct)) : PTs X [c] (tT X.K ct) := pts_one h
variable {it : Di} {own : List (Str × Nat)} {js : List Nat} {tg : Tg} {ct : Dt} {ef : De} {g : TG} {elt tge iter : Expr} {ifs : List Expr} {scope : Scope} {pos spos : Pos}
/-- [e for x in xs if t] -/
theorem e_lc (hc : X.calm = true) (hN : X.N.Nodup) (hi : PI X tge iter (tI X.K it)) (ok : BlkOk X.N X.env.scope scope own) (htg : TgOk X.K g js tg)
    (hj : ∀ j ∈ js, j ∈ own.map (·.2)) (hg : ∀ (s : Shared) (H : Hp) (C : Addr) (cl : List (Str × Addr)) (fp : List Addr), PG (X.blk s H scope (compEnvC scope cl C X.env) fp) tge g)
    (ht : ∀ (s : Shared) (H : Hp) (C : Addr) (cl : List (Str × Addr)) (fp : List Addr), PTs (X.blk s H scope (compEnvC scope cl C X.env) fp) ifs (tT X.K ct))
    (he : ∀ (s : Shared) (H : Hp) (C : Addr) (cl : List (Str × Addr)) (fp : List Addr), PE (X.blk s H scope (compEnvC scope cl C X.env) fp) elt (tE X.K ef)) (hs : ∀ x, foldedSetIterable iter X.env x = pure x := by intro _; rfl) :
    PE X (.ListComp elt [⟨tge, iter, ifs, 0⟩] scope pos) (tE X.K (lcF it (own.map (·.2)) tg ct ef)) := pe_imp (pe_lc hc hN hi ok hg ht he hs) (lcF_read htg hj)
theorem e_lcb (hc : X.calm = true) (hN : X.N.Nodup) (hi : PI X tge iter (tI X.K it)) (ok : BlkOk X.N X.env.scope scope own) (htg : TgOk X.K g js tg)
    (hj : ∀ j ∈ js, j ∈ own.map (·.2)) (hg : ∀ (s : Shared) (H : Hp) (C : Addr) (cl : List (Str × Addr)) (fp : List Addr), PG (X.blk s H scope (compEnvC scope cl C X.env) fp) tge g)
    (ht : ∀ (s : Shared) (H : Hp) (C : Addr) (cl : List (Str × Addr)) (fp : List Addr), PTs (X.blk s H scope (compEnvC scope cl C X.env) fp) ifs (tT X.K ct))
    (he : ∀ (s : Shared) (H : Hp) (C : Addr) (cl : List (Str × Addr)) (fp : List Addr), PE (X.blk s H scope (compEnvC scope cl C X.env) fp) elt (tE X.K ef)) (hs : ∀ x, foldedSetIterable iter X.env x = pure x := by intro _; rfl) :
    PE X (.ListComp elt [⟨tge, iter, ifs, 0⟩] scope pos) (tE X.K (lcbF it (own.map (·.2)) tg ct ef)) := pe_imp (pe_lc hc hN hi ok hg ht he hs) (lcbF_read htg hj)
/-- y = [..] on one line -/
def asgF (f : De) (i : Nat) : Ds := fun ρ B => (f ρ B).bind fun w B1 => .ok (.nx, ρ.set i (some w)) B1
@[simp] theorem asgF_eq (f : De) (i : Nat) (ρ : En) (B : Bs) : asgF f i ρ B = (f ρ B).bind fun w B1 => .ok (.nx, ρ.set i (some w)) B1 := rfl
theorem asg_read {K : PySem.W.Frag} {f : De} {i : Nat} {te : TE} (h : ∀ σ H Q, tE K f σ H Q → te σ H Q) : ∀ D σ H, tS K (asgF f i) D σ H → tAsg te (gName i) D σ H := by
  intro D σ H ⟨F, loc, ρ, B, S, R, P⟩
  refine h σ H _ ⟨F, loc, ρ, B, S, R, PstS.bind P fun w B1 F1 loc1 H1 v e1 E1 S1 r1 P1 => ?_⟩
  exact P1 F1 loc1 H1 _ Ext.refl S1 ((R.ext E1).set r1 i)
theorem s_setLc {i : Nat} {y : Str} {py : Pos} (hc : X.calm = true) (hN : X.N.Nodup) (hy : X.N[i]? = some y) (hyl : X.env.scope.names.lookup y = some .local)
    (hsw : swapsWith (.ListComp elt [⟨tge, iter, ifs, 0⟩] scope pos) (some (.Name y py)) spos.line X.env = pure true) (hi : PI X tge iter (tI X.K it)) (ok : BlkOk X.N X.env.scope scope own) (htg : TgOk X.K g js tg)
    (hj : ∀ j ∈ js, j ∈ own.map (·.2)) (hg : ∀ (s : Shared) (H : Hp) (C : Addr) (cl : List (Str × Addr)) (fp : List Addr), PG (X.blk s H scope (compEnvC scope cl C X.env) fp) tge g)
    (ht : ∀ (s : Shared) (H : Hp) (C : Addr) (cl : List (Str × Addr)) (fp : List Addr), PTs (X.blk s H scope (compEnvC scope cl C X.env) fp) ifs (tT X.K ct))
    (he : ∀ (s : Shared) (H : Hp) (C : Addr) (cl : List (Str × Addr)) (fp : List Addr), PE (X.blk s H scope (compEnvC scope cl C X.env) fp) elt (tE X.K ef)) (hs : ∀ x, foldedSetIterable iter X.env x = pure x := by intro _; rfl) :
    PS X (.Assign [.Name y py] (.ListComp elt [⟨tge, iter, ifs, 0⟩] scope pos) spos) (tS X.K (asgF (lcF it (own.map (·.2)) tg ct ef) i)) :=
  ps_imp (ps_setLc hc hN hy hyl hsw hi ok hg ht he hs) (asg_read (lcF_read htg hj))
theorem s_setLcb {i : Nat} {y : Str} {py : Pos} (hc : X.calm = true) (hN : X.N.Nodup) (hy : X.N[i]? = some y) (hyl : X.env.scope.names.lookup y = some .local)
    (hsw : swapsWith (.ListComp elt [⟨tge, iter, ifs, 0⟩] scope pos) (some (.Name y py)) spos.line X.env = pure true) (hi : PI X tge iter (tI X.K it)) (ok : BlkOk X.N X.env.scope scope own) (htg : TgOk X.K g js tg)
    (hj : ∀ j ∈ js, j ∈ own.map (·.2)) (hg : ∀ (s : Shared) (H : Hp) (C : Addr) (cl : List (Str × Addr)) (fp : List Addr), PG (X.blk s H scope (compEnvC scope cl C X.env) fp) tge g)
    (ht : ∀ (s : Shared) (H : Hp) (C : Addr) (cl : List (Str × Addr)) (fp : List Addr), PTs (X.blk s H scope (compEnvC scope cl C X.env) fp) ifs (tT X.K ct))
    (he : ∀ (s : Shared) (H : Hp) (C : Addr) (cl : List (Str × Addr)) (fp : List Addr), PE (X.blk s H scope (compEnvC scope cl C X.env) fp) elt (tE X.K ef)) (hs : ∀ x, foldedSetIterable iter X.env x = pure x := by intro _; rfl) :
    PS X (.Assign [.Name y py] (.ListComp elt [⟨tge, iter, ifs, 0⟩] scope pos) spos) (tS X.K (asgF (lcbF it (own.map (·.2)) tg ct ef) i)) :=
  ps_imp (ps_setLc hc hN hy hyl hsw hi ok hg ht he hs) (asg_read (lcbF_read htg hj))
end

/-! ### statements -/
def nxS : Ds := fun ρ B => .ok (.nx, ρ) B
@[simp] theorem nxS_eq (ρ : En) (B : Bs) : nxS ρ B = .ok (.nx, ρ) B := rfl
def andThen (o : Out (Fl × En)) (k : Ds) : Out (Fl × En) := o.bind fun p B => match p with
  | (.nx, ρ) => k ρ B
  | p => .ok p B
@[simp] theorem andThen_nx (ρ : En) (B : Bs) (k : Ds) : andThen (.ok (.nx, ρ) B) k = k ρ B := rfl
@[simp] theorem andThen_rt (w : W) (ρ : En) (B : Bs) (k : Ds) : andThen (.ok (.rt w, ρ) B) k = .ok (.rt w, ρ) B := rfl
@[simp] theorem andThen_bk (ρ : En) (B : Bs) (k : Ds) : andThen (.ok (.bk, ρ) B) k = .ok (.bk, ρ) B := rfl
@[simp] theorem andThen_ct (ρ : En) (B : Bs) (k : Ds) : andThen (.ok (.ct, ρ) B) k = .ok (.ct, ρ) B := rfl
@[simp] theorem andThen_bad (k : Ds) : andThen .bad k = .bad := rfl
def seqS (f g : Ds) : Ds := fun ρ B => andThen (f ρ B) g
@[simp] theorem seqS_eq (f g : Ds) (ρ : En) (B : Bs) : seqS f g ρ B = andThen (f ρ B) g := rfl
section
variable {X : Cx} {st : Stmt} {rest : List Stmt} {f g : De} {fs gs : Ds} {ft : Dt} {a b c e : Expr} {pos : Pos}
theorem ss_nil : PSs X [] (tS X.K nxS) := pss_imp pss_nil fun D σ H ⟨F, loc, ρ, B, S, R, P⟩ => P F loc H σ Ext.refl S R
theorem ss_cons (h1 : PS X st (tS X.K fs)) (h2 : PSs X rest (tS X.K gs)) : PSs X (st :: rest) (tS X.K (seqS fs gs)) := by
  refine pss_imp (pss_cons h1 h2) fun D σ H ⟨F, loc, ρ, B, S, R, P⟩ => ?_
  refine ⟨F, loc, ρ, B, S, R, ?_⟩
  rw [seqS_eq] at P
  cases q : fs ρ B with
  | bad => rw [q] at P; exact P.elim
  | exc x B' => rw [q] at P; exact P.elim
  | ok p B1 =>
    obtain ⟨fl, ρ1⟩ := p
    rw [q] at P
    cases fl with
    | nx => exact fun F1 loc1 H1 σ1 E1 S1 R1 => ⟨F1, loc1, ρ1, B1, S1, R1, PstS.ext (o := gs ρ1 B1) P E1⟩
    | bk => exact P
    | ct => exact P
    | rt w => exact P
theorem ss_one (h1 : PS X st (tS X.K fs)) : PSs X [st] (tS X.K fs) := pss_one h1
def ifS (t : Dt) (f g : Ds) : Ds := fun ρ B => (t ρ B).bind fun b B1 => if b = true then f ρ B1 else g ρ B1
@[simp] theorem ifS_eq (t : Dt) (f g : Ds) (ρ : En) (B : Bs) : ifS t f g ρ B = (t ρ B).bind fun b B1 => if b = true then f ρ B1 else g ρ B1 := rfl
theorem s_if {aa bb : List Stmt} (hc : PT X c (tT X.K ft)) (ha : PSs X aa (tS X.K fs)) (hb : PSs X bb (tS X.K gs)) : PS X (.If c aa bb pos) (tS X.K (ifS ft fs gs)) := by
  refine ps_imp (ps_if hc ha hb) fun D σ H ⟨F, loc, ρ, B, S, R, P⟩ => ?_
  refine ⟨F, loc, ρ, B, S, R, PstS.bind P fun k B1 F1 loc1 H1 k' e1 E1 S1 r1 P1 => ?_⟩
  rw [show k' = k from r1]
  cases k with
  | true => rw [if_pos rfl]; rw [if_pos rfl] at P1; exact ⟨F1, loc1, ρ, B1, S1, R.ext E1, P1⟩
  | false => rw [if_neg Bool.false_ne_true]; rw [if_neg Bool.false_ne_true] at P1; exact ⟨F1, loc1, ρ, B1, S1, R.ext E1, P1⟩
def retS (f : De) : Ds := fun ρ B => (f ρ B).bind fun w B1 => .ok (.rt w, ρ) B1
@[simp] theorem retS_eq (f : De) (ρ : En) (B : Bs) : retS f ρ B = (f ρ B).bind fun w B1 => .ok (.rt w, ρ) B1 := rfl
theorem s_ret (h : PE X e (tE X.K f)) : PS X (.Return (some e) pos) (tS X.K (retS f)) := by
  refine ps_imp (ps_ret h) fun D σ H ⟨F, loc, ρ, B, S, R, P⟩ => ?_
  refine ⟨F, loc, ρ, B, S, R, PstS.bind P fun w B1 F1 loc1 H1 v e1 E1 S1 r1 P1 => ?_⟩
  exact P1 F1 loc1 H1 v Ext.refl S1 r1
def dropS (f : De) : Ds := fun ρ B => (f ρ B).bind fun _ B1 => .ok (.nx, ρ) B1
@[simp] theorem dropS_eq (f : De) (ρ : En) (B : Bs) : dropS f ρ B = (f ρ B).bind fun _ B1 => .ok (.nx, ρ) B1 := rfl
theorem s_expr (h : PE X e (tE X.K f)) (hs : swapsWith e none pos.line X.env = pure false := by rfl) : PS X (.Expr e pos) (tS X.K (dropS f)) := by
  refine ps_imp (ps_expr h hs) fun D σ H ⟨F, loc, ρ, B, S, R, P⟩ => ?_
  refine ⟨F, loc, ρ, B, S, R, PstS.bind P fun w B1 F1 loc1 H1 v e1 E1 S1 r1 P1 => ?_⟩
  exact P1 F1 loc1 H1 σ Ext.refl S1 (R.ext E1)
def badS : Ds := fun _ _ => .bad
@[simp] theorem badS_eq (ρ : En) (B : Bs) : badS ρ B = .bad := rfl
theorem s_never : PS X st (tS X.K badS) := ps_imp ps_never fun D σ H ⟨F, loc, ρ, B, S, R, P⟩ => P
def bkS : Ds := fun ρ B => .ok (.bk, ρ) B
def ctS : Ds := fun ρ B => .ok (.ct, ρ) B
@[simp] theorem bkS_eq (ρ : En) (B : Bs) : bkS ρ B = .ok (.bk, ρ) B := rfl
@[simp] theorem ctS_eq (ρ : En) (B : Bs) : ctS ρ B = .ok (.ct, ρ) B := rfl
theorem s_break : PS X (.Break pos) (tS X.K bkS) := ps_imp ps_break fun D σ H ⟨F, loc, ρ, B, S, R, P⟩ => P F loc H σ Ext.refl S R
theorem s_continue : PS X (.Continue pos) (tS X.K ctS) := ps_imp ps_continue fun D σ H ⟨F, loc, ρ, B, S, R, P⟩ => P F loc H σ Ext.refl S R
theorem s_pass : PS X (.Pass pos) (tS X.K nxS) := ps_imp ps_pass fun D σ H ⟨F, loc, ρ, B, S, R, P⟩ => P F loc H σ Ext.refl S R
theorem s_set {i : Nat} {x : Str} {pos' : Pos} (hN : X.N.Nodup) (hi : X.N[i]? = some x) (hx : Loc X.env.scope x) (he : PE X e (tE X.K f)) (hs : swapsWith e (some (.Name x pos')) pos.line X.env = pure false := by rfl) (hf : X.fn x = true ∨ X.env.scope.names.lookup x = some .local := by first | exact .inl rfl | exact .inr rfl | assumption) :
    PS X (.Assign [.Name x pos'] e pos) (tS X.K (asgF f i)) := ps_imp (ps_set hN hi hx he hs hf) (asg_read fun _ _ _ h => h)
/-- a, b = x, y of two plain local names -/
def parS (i j : Nat) (f g : De) : Ds := fun ρ B => (f ρ B).bind fun v B1 => (g ρ B1).bind fun w B2 => .ok (.nx, (ρ.set i (some v)).set j (some w)) B2
@[simp] theorem parS_eq (i j : Nat) (f g : De) (ρ : En) (B : Bs) : parS i j f g ρ B = (f ρ B).bind fun v B1 => (g ρ B1).bind fun w B2 => .ok (.nx, (ρ.set i (some v)).set j (some w)) B2 := rfl
theorem s_par {i j : Nat} {x y : Str} {px py pt : Pos} {kt k2 pt2} (hc : X.calm = true) (hN : X.N.Nodup) (hi : X.N[i]? = some x) (hj : X.N[j]? = some y) (hij : i ≠ j)
    (hx : X.env.scope.names.lookup x = some .local) (hy : X.env.scope.names.lookup y = some .local) (ha : PE X a (tE X.K f)) (hb : PE X b (tE X.K g))
    (hw : swappedStores [.Tuple [.Name x px, .Name y py] kt pt] (.Tuple [a, b] k2 pt2) X.env = pure (some [x, y]))
    (hs : swapsWithSole [.Tuple [.Name x px, .Name y py] kt pt] (.Tuple [a, b] k2 pt2) pos.line X.env = pure false := by rfl)
    (h1 : starEach (a :: [b]) X.env = (false, eval a X.env) :: starEach [b] X.env := by rfl) (h2 : starEach (b :: []) X.env = (false, eval b X.env) :: starEach [] X.env := by rfl) :
    PS X (.Assign [.Tuple [.Name x px, .Name y py] kt pt] (.Tuple [a, b] k2 pt2) pos) (tS X.K (parS i j f g)) := by
  refine ps_imp (ps_par hc hN hi hj hij hx hy (pa_cons ha (pa_cons hb pa_nil h2) h1) hw hs) fun D σ H ⟨F, loc, ρ, B, S, R, P⟩ => ?_
  refine ⟨F, loc, ρ, B, S, R, PstS.bind P fun v B1 F1 loc1 H1 v1 e1 E1 S1 r1 P1 => ?_⟩
  refine ⟨F1, loc1, ρ, B1, S1, R.ext E1, PstS.bind P1 fun w B2 F2 loc2 H2 v2 e2 E2 S2 r2 P2 => ?_⟩
  exact ⟨v1, v2, rfl, P2 F2 loc2 H2 _ Ext.refl S2 ((((R.ext E1).ext E2).set (rw_mono E2.ex E2.pre r1) i).set r2 j)⟩
/-- a target of any form -/
def asgT (f : De) (tg : Tg) : Ds := fun ρ B => (f ρ B).bind fun w B1 => match tg w ρ with
  | some ρ' => .ok (.nx, ρ') B1
  | none => .bad
@[simp] theorem asgT_eq (f : De) (tg : Tg) (ρ : En) (B : Bs) : asgT f tg ρ B = (f ρ B).bind fun w B1 => match tg w ρ with
  | some ρ' => .ok (.nx, ρ') B1
  | none => .bad := rfl
theorem s_asgT {tge : Expr} {gr : TG} {tg : Tg} {js : List Nat} (he : PE X e (tE X.K f)) (hg : PG X tge gr) (ht : TgOk X.K gr js tg) (hs : swapsWithSole [tge] e pos.line X.env = pure false := by rfl) (hw : swappedStores [tge] e X.env = pure none := by rfl)
    (h1 : (assignEach [tge] X.env).map (·.2) = [assign tge X.env] := by rfl) : PS X (.Assign [tge] e pos) (tS X.K (asgT f tg)) := by
  refine ps_imp (ps_asg he hg hs hw h1) fun D σ H ⟨F, loc, ρ, B, S, R, P⟩ => ?_
  refine ⟨F, loc, ρ, B, S, R, PstS.bind P fun w B1 F1 loc1 H1 v e1 E1 S1 r1 P1 => ?_⟩
  cases q : tg w ρ with
  | none => rw [q] at P1; exact P1.elim
  | some ρ' =>
    rw [q] at P1
    exact ht F1 loc1 B1 H1 ρ ρ' σ w v _ S1 (R.ext E1) r1 q fun σ' R' _ => P1 F1 loc1 H1 σ' Ext.refl S1 R'
/-- x += e, x -= e of ints -/
def augS (g : Int → Int → Int) (i : Nat) (f : De) : Ds := fun ρ B => match ρ[i]? with
  | some (some (.d (.int x))) => (f ρ B).bind fun w B1 => match w with
    | .d (.int y) => .ok (.nx, ρ.set i (some (.d (.int (g x y))))) B1
    | _ => .bad
  | _ => .bad
theorem aug_read {K : PySem.W.Frag} {gf : Int → Int → Int} {i : Nat} : ∀ D σ H, tS K (augS gf i f) D σ H → tAug i (tE K f) (ipI gf) D σ H := by
  intro D σ H ⟨F, loc, ρ, B, S, R, P⟩
  unfold augS at P
  split at P
  · rename_i x hx
    obtain ⟨v, g1, g2⟩ := R.get i _ hx
    refine ⟨v, g1, F, loc, ρ, B, S, R, PstS.bind P fun w B1 F1 loc1 H1 v1 e1 E1 S1 r1 P1 => ?_⟩
    cases w with
    | scr _ => exact P1.elim
    | box n => exact P1.elim
    | d w =>
      cases w with
      | int y =>
        refine ⟨x, y, dq_int g2, dq_int r1, P1 F1 loc1 H1 _ Ext.refl S1 ((R.ext E1).set (w := .d (.int (gf x y))) (.int _) i)⟩
      | _ => exact P1.elim
  · exact P.elim
theorem s_augAdd {i : Nat} {x : Str} {pos' : Pos} (hN : X.N.Nodup) (hi : X.N[i]? = some x) (hx : Loc X.env.scope x) (he : PE X e (tE X.K f)) (hf : X.fn x = true ∨ X.env.scope.names.lookup x = some .local := by first | exact .inl rfl | exact .inr rfl | assumption) :
    PS X (.AugAssign (.Name x pos') .Add e pos) (tS X.K (augS (· + ·) i f)) := ps_imp (ps_aug hN hi hx he ip_add hf) aug_read
/-- xs[i] = e, the list in a box -/
def setS (fo fi f : De) : Ds := fun ρ B => (f ρ B).bind fun w B1 => (fo ρ B1).bind fun o B2 => (fi ρ B2).bind fun j B3 => match o, j with
  | .box n, .d (.int k) => match B3[n]? with
    | some (some (.lst ws)) => match ixN ws.length k with
      | some j => .ok (.nx, ρ) (B3.set n (some (.lst (ws.set j w))))
      | none => .bad
    | _ => .bad
  | _, _ => .bad
theorem rws_set {K : PySem.W.Frag} {F : Hp} {loc : List Addr} {w : W} {v : V} (r : RW K F loc w v) : ∀ {ws : List W} {vs : List V} (i : Nat), RWs K F loc ws vs → RWs K F loc (ws.set i w) (vs.set i v)
  | _, _, _, .nil => .nil
  | _, _, 0, .cons _ t => .cons r t
  | _, _, i + 1, .cons q t => .cons q (rws_set r i t)
theorem s_setIx {o i : Expr} {fo fi : De} {p2 : Pos} (he : PE X e (tE X.K f)) (ho : PE X o (tE X.K fo)) (hi : PE X i (tE X.K fi))
    (ha : ∀ v, assign (.Subscript o i p2) X.env v = (do
      let ov ← holding [v] (eval o X.env)
      let iv ← holding [v, ov] (eval i X.env)
      standAt p2
      holding [v, ov, iv] (setItem ov iv v)
      release [v, ov, iv] []) := by intro _; rfl) (hs : swapsWithSole [.Subscript o i p2] e pos.line X.env = pure false := by rfl) (hw : swappedStores [.Subscript o i p2] e X.env = pure none := by rfl)
    (h1 : (assignEach [.Subscript o i p2] X.env).map (·.2) = [assign (.Subscript o i p2) X.env] := by rfl) : PS X (.Assign [.Subscript o i p2] e pos) (tS X.K (setS fo fi f)) := by
  refine ps_imp (ps_asg he (pg_sub ho hi set_list ha) hs hw h1) fun D σ H ⟨F, loc, ρ, B, S, R, P⟩ => ?_
  refine ⟨F, loc, ρ, B, S, R, PstS.bind P fun w B1 F1 loc1 H1 v e1 E1 S1 r1 P1 => ?_⟩
  refine ⟨F1, loc1, ρ, B1, S1, R.ext E1, PstS.bind P1 fun wo B2 F2 loc2 H2 vo e2 E2 S2 r2 P2 => ?_⟩
  refine ⟨F2, loc2, ρ, B2, S2, (R.ext E1).ext E2, PstS.bind P2 fun wi B3 F3 loc3 H3 vi e3 E3 S3 r3 P3 => ?_⟩
  have r1' := rw_mono (E2.trans E3).ex (E2.trans E3).pre r1
  have r2' := rw_mono E3.ex E3.pre r2
  cases wo with
  | d x => exact P3.elim
  | scr _ => exact P3.elim
  | box n =>
    cases wi with
    | scr _ => exact P3.elim
    | box m => exact P3.elim
    | d x =>
      cases x with
      | int k =>
        simp only at P3
        obtain ⟨p, rfl, hl⟩ := r2'
        split at P3
        · rename_i ws hb
          obtain ⟨_, u, hu, vs, rfl, r⟩ := S3.box n p _ hl hb
          cases q : ixN ws.length k with
          | none => rw [q] at P3; exact P3.elim
          | some j =>
            rw [q] at P3
            obtain ⟨S4, E4⟩ := S3.write (b := .lst (ws.set j w)) (o := .lst (vs.set j v)) hl hb ⟨_, rfl, rws_set r1' j r⟩ rfl
            exact ⟨p, vs, k, j, rfl, dq_int r3, hu, by rw [← rws_len r]; exact q, P3 F3 loc3 _ σ E4 S4 ((((R.ext E1).ext E2).ext E3).ext E4)⟩
        · exact P3.elim
      | _ => exact P3.elim
end

/-! ### loops -/
def forGo (tg : Tg) (body : Ds) : List W → En → Bs → Out (Fl × En)
  | [], ρ, B => .ok (.nx, ρ) B
  | w :: r, ρ, B => match tg w ρ with
    | none => .bad
    | some ρ1 => (body ρ1 B).bind fun p B2 => match p with
      | (.nx, ρ2) => forGo tg body r ρ2 B2
      | (.ct, ρ2) => forGo tg body r ρ2 B2
      | (.bk, ρ2) => .ok (.nx, ρ2) B2
      | (.rt v, ρ2) => .ok (.rt v, ρ2) B2
theorem forGo_nil (tg : Tg) (body : Ds) (ρ : En) (B : Bs) : forGo tg body [] ρ B = .ok (.nx, ρ) B := rfl
theorem forGo_cons (tg : Tg) (body : Ds) (w : W) (r : List W) (ρ : En) (B : Bs) : forGo tg body (w :: r) ρ B = match tg w ρ with
    | none => .bad
    | some ρ1 => (body ρ1 B).bind fun p B2 => match p with
      | (.nx, ρ2) => forGo tg body r ρ2 B2
      | (.ct, ρ2) => forGo tg body r ρ2 B2
      | (.bk, ρ2) => .ok (.nx, ρ2) B2
      | (.rt v, ρ2) => .ok (.rt v, ρ2) B2 := rfl
def forS (it : Di) (tg : Tg) (body : Ds) : Ds := fun ρ B => (it ρ B).bind fun items B1 => forGo tg body items ρ B1
@[simp] theorem forS_eq (it : Di) (tg : Tg) (body : Ds) (ρ : En) (B : Bs) : forS it tg body ρ B = (it ρ B).bind fun items B1 => forGo tg body items ρ B1 := rfl
def whGo (t : Dt) (body : Ds) : Nat → En → Bs → Out (Fl × En)
  | 0, _, _ => .bad
  | n + 1, ρ, B => (t ρ B).bind fun b B1 => if b = true then (body ρ B1).bind fun p B2 => match p with
      | (.nx, ρ2) => whGo t body n ρ2 B2
      | (.ct, ρ2) => whGo t body n ρ2 B2
      | (.bk, ρ2) => .ok (.nx, ρ2) B2
      | (.rt v, ρ2) => .ok (.rt v, ρ2) B2
    else .ok (.nx, ρ) B1
theorem whGo_succ (t : Dt) (body : Ds) (n : Nat) (ρ : En) (B : Bs) : whGo t body (n + 1) ρ B = (t ρ B).bind fun b B1 => if b = true then (body ρ B1).bind fun p B2 => match p with
      | (.nx, ρ2) => whGo t body n ρ2 B2
      | (.ct, ρ2) => whGo t body n ρ2 B2
      | (.bk, ρ2) => .ok (.nx, ρ2) B2
      | (.rt v, ρ2) => .ok (.rt v, ρ2) B2
    else .ok (.nx, ρ) B1 := rfl
def whS (n : Nat) (t : Dt) (body : Ds) : Ds := fun ρ B => whGo t body n ρ B
@[simp] theorem whS_eq (n : Nat) (t : Dt) (body : Ds) (ρ : En) (B : Bs) : whS n t body ρ B = whGo t body n ρ B := rfl
section
variable {X : Cx} {pos : Pos} {body : List Stmt} {fs : Ds} {ft : Dt}
theorem s_while {c : Expr} (n : Nat) (hp : PassesOwn (model X.prog X.w) X.A X.env X.xe) (hc : PT X c (tT X.K ft)) (hb : PSs X body (tS X.K fs)) : PS X (.While c body [] pos) (tS X.K (whS n ft fs)) := by
  refine ps_imp (ps_while hp hc hb) fun D σ H ⟨F, loc, ρ, B, S, R, P⟩ => ?_
  refine ⟨fun m σ H => ∃ F loc ρ B, Sim X.K F loc B H ∧ EnvR X.K F loc ρ σ ∧ PstS X.K F loc H (whGo ft fs m ρ B) D, ⟨n, F, loc, ρ, B, S, R, P⟩, ?_⟩
  rintro m σ H ⟨F, loc, ρ, B, S, R, P⟩
  cases m with
  | zero => exact P.elim
  | succ m =>
    rw [whGo_succ] at P
    refine ⟨F, loc, ρ, B, S, R, PstS.bind P fun k B1 F1 loc1 H1 k' e1 E1 S1 r1 P1 => ?_⟩
    rw [show k' = k from r1]
    cases k with
    | false =>
      rw [if_neg Bool.false_ne_true]
      rw [if_neg Bool.false_ne_true] at P1
      exact P1 F1 loc1 H1 σ Ext.refl S1 (R.ext E1)
    | true =>
      rw [if_pos rfl]
      rw [if_pos rfl] at P1
      refine ⟨fun σ' H' => ∃ F loc ρ B, Sim X.K F loc B H' ∧ EnvR X.K F loc ρ σ' ∧ PstS X.K F loc H' (whGo ft fs m ρ B) D, fun σ' H' q => ⟨m, Nat.lt_succ_self m, q⟩, F1, loc1, ρ, B1, S1, R.ext E1, ?_⟩
      cases q : fs ρ B1 with
      | bad => rw [q] at P1; exact P1.elim
      | exc x B' => rw [q] at P1; exact P1.elim
      | ok p B2 =>
        obtain ⟨fl, ρ2⟩ := p
        rw [q] at P1
        cases fl with
        | nx => exact fun F2 loc2 H2 σ2 E2 S2 R2 => ⟨F2, loc2, ρ2, B2, S2, R2, PstS.ext (o := whGo ft fs m ρ2 B2) P1 E2⟩
        | ct => exact fun F2 loc2 H2 σ2 E2 S2 R2 => ⟨F2, loc2, ρ2, B2, S2, R2, PstS.ext (o := whGo ft fs m ρ2 B2) P1 E2⟩
        | bk => exact P1
        | rt w => exact P1
theorem s_for {tge iter : Expr} {it : Di} {gr : TG} {tg : Tg} {js : List Nat} (hp : PassesOwn (model X.prog X.w) X.A X.env X.xe) (hc : X.calm = true) (hi : PI X tge iter (tI X.K it)) (hg : PG X tge gr) (ht : TgOk X.K gr js tg) (hb : PSs X body (tS X.K fs))
    (hs : ∀ x, foldedSetIterable iter X.env x = pure x := by intro _; rfl) : PS X (.For tge iter body [] pos) (tS X.K (forS it tg fs)) := by
  refine ps_imp (ps_for hp hc hi hg hb hs) fun D σ H ⟨F, loc, ρ, B, S, R, P⟩ => ?_
  refine ⟨F, loc, ρ, B, S, R, PstS.bind P fun items B1 F1 loc1 H1 J e1 E1 S1 fol P1 => ?_⟩
  let Inv' : Nat → L2.St → Hp → Prop := fun i σ3 H3 => ∃ F3 loc3 ρ3 B3, FE F1 F3 ∧ loc1 <+: loc3 ∧ Sim X.K F3 loc3 B3 H3 ∧ EnvR X.K F3 loc3 ρ3 σ3 ∧ i ≤ items.length ∧ PstS X.K F3 loc3 H3 (forGo tg fs (items.drop i) ρ3 B3) D
  refine ⟨fun i m σ3 H3 => m = items.length - i ∧ Inv' i σ3 H3, ⟨items.length, by simp, F1, loc1, ρ, B1, FE.refl _, List.prefix_refl _, S1, R.ext E1, Nat.zero_le _, by rw [List.drop_zero]; exact P1⟩, ?_⟩
  rintro i m σ3 H3 ⟨rfl, F3, loc3, ρ3, B3, fe, pr, S3, R3, li, P3⟩
  obtain ⟨fitem, fstop⟩ := fol i F3 loc3 B3 H3 fe pr S3
  by_cases hi : i < items.length
  · obtain ⟨w, hw⟩ : ∃ w, items[i]? = some w := ⟨items[i], List.getElem?_eq_getElem hi⟩
    obtain ⟨go, hy⟩ := fitem w hw
    refine .inr ⟨go, Inv' (i + 1), fun σ' H' q => ⟨items.length - (i + 1), by omega, rfl, q⟩, fun x H4 yl => ?_⟩
    obtain ⟨F4, E4, S4, r4⟩ := hy x H4 yl
    have hdrop : items.drop i = w :: items.drop (i + 1) := by
      rw [List.drop_eq_getElem_cons hi]
      congr 1
      exact (List.getElem?_eq_some_iff.mp hw).2
    rw [hdrop, forGo_cons] at P3
    have P4 := P3.ext E4
    cases q : tg w ρ3 with
    | none => rw [q] at P4; exact P4.elim
    | some ρ4 =>
      rw [q] at P4
      simp only at P4
      refine ht F4 loc3 B3 H4 ρ3 ρ4 σ3 w x _ S4 (R3.ext E4) r4 q fun σ5 R5 _ => ⟨F4, loc3, ρ4, B3, S4, R5, ?_⟩
      cases q2 : fs ρ4 B3 with
      | bad => rw [q2] at P4; exact P4.elim
      | exc x B' => rw [q2] at P4; exact P4.elim
      | ok p B5 =>
        obtain ⟨fl, ρ5⟩ := p
        rw [q2] at P4
        cases fl with
        | nx => exact fun F6 loc6 H6 σ6 E6 S6 R6 => ⟨F6, loc6, ρ5, B5, fe.trans (E4.trans E6).ex, pr.trans (E4.trans E6).pre, S6, R6, by omega, PstS.ext (o := forGo tg fs (items.drop (i + 1)) ρ5 B5) P4 E6⟩
        | ct => exact fun F6 loc6 H6 σ6 E6 S6 R6 => ⟨F6, loc6, ρ5, B5, fe.trans (E4.trans E6).ex, pr.trans (E4.trans E6).pre, S6, R6, by omega, PstS.ext (o := forGo tg fs (items.drop (i + 1)) ρ5 B5) P4 E6⟩
        | bk => exact P4
        | rt w => exact P4
  · have hi' : i = items.length := by omega
    subst hi'
    rw [List.drop_length, forGo_nil] at P3
    exact .inl ⟨fstop (Nat.le_refl _), P3 F3 loc3 H3 σ3 Ext.refl S3 R3⟩
end
end Mini

namespace Mini
open PySem PySem.Spec PyProof.Rows L2

def wOk (n : Nat) : W → Bool
  | .d _ => true
  | .scr _ => true
  | .box m => decide (m < n)
def bxOk (n : Nat) : Bx → Bool
  | .lst ws => ws.all (wOk n)
  | .dK kvs => kvs.all fun p => wOk n p.2
  | .dT kvs => kvs.all fun p => wOk n p.2
  | .lkT kvs => kvs.all fun p => wOk n p.2
def obxOk (n : Nat) : Option Bx → Bool
  | some b => bxOk n b
  | none => true
/-- nothing of the new boxes is seen from the old ones or from the result -/
def Shut (B : Bs) (w : W) (B' : Bs) : Prop := wOk B.length w = true ∧ ∀ i, i < B.length → B'[i]? = B[i]? ∨ ∃ b, B'[i]? = some b ∧ obxOk B.length b = true
/-- the result is a new box, which sees no new box -/
def ShutB (B : Bs) (m : Nat) (B' : Bs) : Prop := B.length ≤ m ∧ (∃ b, B'[m]? = some (some b) ∧ bxOk B.length b = true) ∧ ∀ i, i < B.length → B'[i]? = B[i]? ∨ ∃ b, B'[i]? = some b ∧ obxOk B.length b = true
def outB (B : Bs) : W → Nat
  | .box m => m
  | _ => 0
open Classical in
/-- a def's end: its own boxes are forgotten -/
noncomputable def gc (B : Bs) (w : W) (B' : Bs) : Out W := if Shut B w B' then .ok w (B'.take B.length) else if ∃ m, w = .box m ∧ ShutB B m B' then .ok (.box B.length) (B'.take B.length ++ [(B'[outB B w]?).join]) else .ok w B'
theorem gc_yes {B : Bs} {w : W} {B' : Bs} (h : Shut B w B') : gc B w B' = .ok w (B'.take B.length) := if_pos h
theorem gc_new {B B' : Bs} {m : Nat} {b : Bx} (h : B.length ≤ m) (hb : B'[m]? = some (some b)) (ok : bxOk B.length b = true) (hs : ∀ i, i < B.length → B'[i]? = B[i]? ∨ ∃ b, B'[i]? = some b ∧ obxOk B.length b = true) :
    gc B (.box m) B' = .ok (.box B.length) (B'.take B.length ++ [some b]) := by
  unfold gc
  rw [if_neg (fun z => by
    have q : decide (m < B.length) = true := z.1
    have q' := of_decide_eq_true q
    omega), if_pos ⟨m, rfl, h, ⟨b, hb, ok⟩, hs⟩]
  show Out.ok _ (_ ++ [(B'[m]?).join]) = _
  rw [hb]; rfl
/-- the boxes of before are as they were -/
theorem gc_box {B C : Bs} {m : Nat} {b : Bx} (hb : C[m]? = some (some b)) (ok : bxOk B.length b = true) : gc B (.box (B.length + m)) (B ++ C) = .ok (.box B.length) (B ++ [some b]) := by
  rw [gc_new (b := b) (by omega) (by rw [List.getElem?_append_right (by omega), Nat.add_sub_cancel_left]; exact hb) ok (fun i hi => .inl (List.getElem?_append_left hi)), List.take_left]
theorem gc_box1 (B : Bs) (b : Bx) (ok : bxOk B.length b = true) : gc B (.box B.length) (B ++ [some b]) = .ok (.box B.length) (B ++ [some b]) := gc_box (C := [some b]) (m := 0) rfl ok
/-- what has been made is thrown away -/
theorem gc_data (B : Bs) (d : PyData) (C : Bs) : gc B (.d d) (B ++ C) = .ok (.d d) B := by
  rw [gc_yes ⟨rfl, fun i hi => .inl (List.getElem?_append_left hi)⟩, List.take_left]
theorem gc_same (B : Bs) (d : PyData) : gc B (.d d) B = .ok (.d d) B := by
  have h := gc_data B d []
  rw [List.append_nil] at h
  exact h
theorem gc_set (B : Bs) (d : PyData) (C : Bs) (n : Nat) (b : Bx) (hb : bxOk B.length b = true) : gc B (.d d) (B.set n (some b) ++ C) = .ok (.d d) (B.set n (some b)) := by
  have hl : (B.set n (some b)).length = B.length := List.length_set
  have h : Shut B (.d d) (B.set n (some b) ++ C) := ⟨rfl, fun i hi => by
    rw [List.getElem?_append_left (by rw [hl]; exact hi)]
    by_cases hn : n = i
    · subst hn
      exact .inr ⟨some b, List.getElem?_set_self hi, hb⟩
    · exact .inl (List.getElem?_set_ne hn)⟩
  rw [gc_yes h, ← hl, List.take_left]
theorem gc_set0 (B : Bs) (d : PyData) (n : Nat) (b : Bx) (hb : bxOk B.length b = true) : gc B (.d d) (B.set n (some b)) = .ok (.d d) (B.set n (some b)) := by
  have h := gc_set B d [] n b hb
  rw [List.append_nil] at h
  exact h
noncomputable def fnF (n : Nat) (body : Ds) (ws : List W) (B : Bs) : Out W := (body (ws.map some ++ List.replicate (n - ws.length) none) B).bind fun p B' => match p with
  | (.rt w, _) => gc B w B'
  | (.nx, _) => gc B (.d .none) B'
  | _ => .bad
theorem fnF_eq (n : Nat) (body : Ds) (ws : List W) (B : Bs) : fnF n body ws B = (body (ws.map some ++ List.replicate (n - ws.length) none) B).bind fun p B' => match p with
  | (.rt w, _) => gc B w B'
  | (.nx, _) => gc B (.d .none) B'
  | _ => .bad := rfl

section
variable {K : PySem.W.Frag} {F F' : Hp} {loc loc' : List Addr} {H H' : Hp} {B B' : Bs}
theorem wOk_rw {w : W} {v : V} {n : Nat} (h : wOk n w = true) (pr : loc <+: loc') (hn : loc.length = n) (r : RW K F loc' w v) : RW K F loc w v := by
  cases w with
  | d x => exact r
  | scr _ => exact r
  | box m =>
    obtain ⟨a, rfl, ha⟩ := r
    have hm : m < n := of_decide_eq_true h
    refine ⟨a, rfl, ?_⟩
    obtain ⟨t, rfl⟩ := pr
    rw [List.getElem?_append_left (by omega)] at ha
    exact ha
theorem wOk_rws {n : Nat} (pr : loc <+: loc') (hn : loc.length = n) : ∀ {ws : List W} {vs : List V}, ws.all (wOk n) = true → RWs K F loc' ws vs → RWs K F loc ws vs
  | _, _, _, .nil => .nil
  | _, _, h, .cons r t => by
    rw [List.all_cons, Bool.and_eq_true] at h
    exact .cons (wOk_rw h.1 pr hn r) (wOk_rws pr hn h.2 t)
theorem wOk_rkv {κ : Type} {n : Nat} (pr : loc <+: loc') (hn : loc.length = n) : ∀ {ws : List (κ × W)} {vs : List (κ × V)}, (ws.all fun p => wOk n p.2) = true → RKV K F loc' ws vs → RKV K F loc ws vs
  | _, _, _, .nil => .nil
  | _, _, h, .cons r t => by
    rw [List.all_cons, Bool.and_eq_true] at h
    exact .cons ⟨r.1, wOk_rw h.1 pr hn r.2⟩ (wOk_rkv pr hn h.2 t)
theorem bxOk_rbx {b : Bx} {o : HO} {n : Nat} (h : bxOk n b = true) (pr : loc <+: loc') (hn : loc.length = n) (r : RBx K F loc' b o) : RBx K F loc b o := by
  cases b with
  | lst ws => obtain ⟨vs, rfl, r⟩ := r; exact ⟨vs, rfl, wOk_rws pr hn h r⟩
  | dK ws => obtain ⟨vs, rfl, r⟩ := r; exact ⟨vs, rfl, wOk_rkv pr hn h r⟩
  | dT ws => obtain ⟨vs, rfl, r⟩ := r; exact ⟨vs, rfl, wOk_rkv pr hn h r⟩
  | lkT ws => obtain ⟨vs, od, rfl, r⟩ := r; exact ⟨vs, od, rfl, wOk_rkv pr hn h r⟩
/-- what a box's words lead to stands among the boxes -/
theorem rw_ok {w : W} {v : V} (r : RW K F loc w v) : wOk loc.length w = true := by
  cases w with
  | d x => rfl
  | scr _ => rfl
  | box m => obtain ⟨a, _, ha⟩ := r; exact decide_eq_true (List.getElem?_eq_some_iff.mp ha).1
theorem rws_ok : ∀ {ws : List W} {vs : List V}, RWs K F loc ws vs → ws.all (wOk loc.length) = true
  | _, _, .nil => rfl
  | _, _, .cons r t => by rw [List.all_cons, rw_ok r, rws_ok t]; rfl
theorem rkv_ok {κ : Type} : ∀ {ws : List (κ × W)} {vs : List (κ × V)}, RKV K F loc ws vs → (ws.all fun p => wOk loc.length p.2) = true
  | _, _, .nil => rfl
  | _, _, .cons r t => by rw [List.all_cons, rw_ok r.2, rkv_ok t]; rfl
theorem rbx_ok {b : Bx} {o : HO} (r : RBx K F loc b o) : bxOk loc.length b = true := by
  cases b with
  | lst ws => obtain ⟨vs, _, r⟩ := r; exact rws_ok r
  | dK ws => obtain ⟨vs, _, r⟩ := r; exact rkv_ok r
  | dT ws => obtain ⟨vs, _, r⟩ := r; exact rkv_ok r
  | lkT ws => obtain ⟨vs, od, _, r⟩ := r; exact rkv_ok r
/-- the new boxes are forgotten -/
theorem Sim.shut (S : Sim K F loc B H) (E : Ext F loc H F' loc' H') (S' : Sim K F' loc' B' H') {w : W} (h : Shut B w B') : Sim K F' loc (B'.take B.length) H' ∧ Ext F loc H F' loc H' := by
  have hlen : B.length ≤ B'.length := by
    have := E.pre.length_le
    rw [S.len, S'.len] at this
    exact this
  refine ⟨⟨S'.ex, ?_, S.nd, fun a ha => S'.al a (E.pre.subset ha), fun n a b h1 h2 => ?_⟩, E.ex, List.prefix_refl _, fun a o h1 h0 h2 h3 => ?_, E.lk⟩
  · rw [List.length_take, S.len]; omega
  · have hn : n < B.length := by
      rw [← S.len]
      exact (List.getElem?_eq_some_iff.mp h1).1
    rw [List.getElem?_take_of_lt hn] at h2
    obtain ⟨g1, o, g2, g3⟩ := S'.box n a b (pre_get E.pre h1) h2
    refine ⟨g1, o, g2, ?_⟩
    have hok : bxOk B.length b = true := by
      rcases h.2 n hn with q | ⟨b', q, ok⟩
      · rw [q] at h2
        obtain ⟨_, u, _, r⟩ := S.box n a b h1 h2
        rw [← S.len]
        exact rbx_ok r
      · rw [q] at h2
        cases h2
        exact ok
    exact bxOk_rbx hok E.pre S.len g3
  · obtain ⟨g1, g2, g3⟩ := E.fr a o h1 h0 h2 h3
    exact ⟨g1, g2, h3⟩
theorem Sim.shutB (S : Sim K F loc B H) (E : Ext F loc H F' loc' H') (S' : Sim K F' loc' B' H') {m : Nat} (h : ShutB B m B') {a : Addr} (ha : loc'[m]? = some a) {b : Bx} (hb : B'[m]? = some (some b)) :
    Sim K F' (loc ++ [a]) (B'.take B.length ++ [some b]) H' ∧ Ext F loc H F' (loc ++ [a]) H' := by
  have hlen : B.length ≤ B'.length := by
    have := E.pre.length_le
    rw [S.len, S'.len] at this
    exact this
  obtain ⟨hm, ⟨b', hb', ok⟩, hs⟩ := h
  rw [hb] at hb'
  cases hb'
  have hna : a ∉ loc := fun z => by
    obtain ⟨i, hi⟩ := List.mem_iff_getElem?.mp z
    have hil : i < loc.length := (List.getElem?_eq_some_iff.mp hi).1
    have := nodup_get S'.nd (pre_get E.pre hi) ha
    rw [S.len] at hil
    omega
  have hal : a ∈ loc' := List.mem_of_getElem? ha
  refine ⟨⟨S'.ex, ?_, ?_, fun c hc => ?_, fun n c bb h1 h2 => ?_⟩, E.ex, List.prefix_append _ _, fun c o h1 h0 h2 h3 => ?_, E.lk⟩
  · rw [List.length_append, List.length_append, List.length_take, S.len]
    simp only [List.length_singleton]
    omega
  · rw [List.nodup_append]
    refine ⟨S.nd, List.nodup_cons.mpr ⟨by simp, List.nodup_nil⟩, fun c hc d hd => ?_⟩
    rw [List.mem_singleton.mp hd]
    intro z; rw [z] at hc; exact hna hc
  · rcases List.mem_append.mp hc with hc | hc
    · exact S'.al c (E.pre.subset hc)
    · rw [List.mem_singleton.mp hc]; exact S'.al a hal
  · by_cases hn : n < loc.length
    · rw [List.getElem?_append_left hn] at h1
      have hnB : n < B.length := by rw [← S.len]; exact hn
      rw [List.getElem?_append_left (by rw [List.length_take]; omega), List.getElem?_take_of_lt hnB] at h2
      obtain ⟨g1, o, g2, g3⟩ := S'.box n c bb (pre_get E.pre h1) h2
      refine ⟨g1, o, g2, ?_⟩
      have hok : bxOk B.length bb = true := by
        rcases hs n hnB with q | ⟨b', q, ok'⟩
        · rw [q] at h2
          obtain ⟨_, u, _, r⟩ := S.box n c bb h1 h2
          rw [← S.len]
          exact rbx_ok r
        · rw [q] at h2
          cases h2
          exact ok'
      exact rbx_mono (FE.refl _) (List.prefix_append _ _) (bxOk_rbx hok E.pre S.len g3)
    · have hn2 : n = loc.length := by
        have := (List.getElem?_eq_some_iff.mp h1).1
        rw [List.length_append] at this
        simp at this
        omega
      subst hn2
      rw [List.getElem?_append_right (Nat.le_refl _), Nat.sub_self] at h1
      rw [List.getElem?_append_right (by rw [List.length_take, S.len]; omega), List.length_take, S.len, Nat.min_eq_left hlen, Nat.sub_self] at h2
      simp at h1 h2
      subst h1; subst h2
      obtain ⟨g1, o, g2, g3⟩ := S'.box m a b ha hb
      exact ⟨g1, o, g2, rbx_mono (FE.refl _) (List.prefix_append _ _) (bxOk_rbx ok E.pre S.len g3)⟩
  · obtain ⟨g1, g2, g3⟩ := E.fr c o h1 h0 h2 h3
    refine ⟨g1, g2, fun z => ?_⟩
    rcases List.mem_append.mp z with z | z
    · exact h3 z
    · exact g3 (by rw [List.mem_singleton.mp z]; exact hal)
/-- what is wanted behind a def's end -/
theorem gc_post (S : Sim K F loc B H) (E : Ext F loc H F' loc' H') (S' : Sim K F' loc' B' H') {w : W} {v : V} {Q : VK} (r : RW K F' loc' w v) (P : Pst K (RW K) F loc H (gc B w B') Q) : Q v H' := by
  unfold gc at P
  split at P
  · rename_i h
    obtain ⟨S2, E2⟩ := S.shut E S' h
    exact P F' loc H' v E2 S2 (wOk_rw h.1 E.pre S.len r)
  · split at P
    · rename_i h
      obtain ⟨m, rfl, h⟩ := h
      obtain ⟨a, rfl, ha⟩ := r
      obtain ⟨b, hb, _⟩ := h.2.1
      obtain ⟨S2, E2⟩ := S.shutB E S' h ha hb
      have P' : Pst K (RW K) F loc H (.ok (.box B.length) (B'.take B.length ++ [(B'[m]?).join])) Q := P
      rw [hb] at P'
      refine P' F' (loc ++ [a]) H' _ E2 S2 ⟨a, rfl, ?_⟩
      rw [← S.len, List.getElem?_append_right (Nat.le_refl _), Nat.sub_self]; rfl
    · exact P F' loc' H' v E S' r
end

theorem env_start {K : PySem.W.Frag} {F : Hp} {loc : List Addr} {N : List Str} {ws : List W} {vs : List V} (r : RWs K F loc ws vs) : EnvR K F loc (ws.map some ++ List.replicate (N.length - ws.length) none) (L2.start N vs) := by
  have hl := rws_len r
  unfold L2.start
  refine ⟨by simp [hl], fun i w h => ?_⟩
  by_cases hi : i < ws.length
  · rw [List.getElem?_append_left (by simpa using hi), List.getElem?_map] at h
    cases q : ws[i]? with
    | none => rw [q] at h; cases h
    | some w' =>
      rw [q] at h
      have e : some (some w') = some (some w) := h
      cases e
      obtain ⟨v, g1, g2⟩ := rws_get r q
      exact ⟨v, by rw [List.getElem?_append_left (by simp; omega), List.getElem?_map, g1]; rfl, g2⟩
  · rw [List.getElem?_append_right (by simpa using hi), List.getElem?_replicate] at h
    split at h <;> cases h
section
variable {P : Program} {w : World} {K : PySem.W.Frag} {mg : Str → Option Value} {base : Heap}
/-- what a body's proof knows of where it stands -/
structure At (P : Program) (w : World) (K : PySem.W.Frag) (mg : Str → Option Value) (base : Heap) (k : Nat) (X : Cx) : Prop where
  prog : X.prog = P
  wor : X.w = w
  frag : X.K = K
  glob : X.mg = mg
  bas : X.base = base
  room : Room k X.A
/-- a def of the text: its body means fs -/
theorem fn_mini_ok {x qual : Str} {st : Stmt} {fa : Addr} {fd : FuncData} {N ps : List Str} {k : Nat} {fs : Ds} (F : Fun K x qual st fa fd) (S : FnScope N ps (defScope st))
    (hbody : ∀ (cdv : Value) (A : Around) (outer : List Env) (s : Shared) (H : Hp) (E : XK), Room k (A.deeper (envOfC qual (defScope st) s.heap.objs.size fa cdv)) → PSs (cxOf CX0 P w K mg base N qual (defScope st) fa cdv A outer s H E).nox (defBody st) (tS K fs)) :
    FnOk P w K mg base CX0 (k + 1) fa fd ps (spM K ps.length (fnF N.length fs)) := by
  refine F.ok S (fun vs H Q E h => h.1) fun cdv A outer s H vs Q E hr h => ?_
  refine ⟨_, hbody cdv A outer s H E hr, ?_⟩
  obtain ⟨hl, F, loc, B, ws, S, r, P⟩ := h
  refine ⟨F, loc, ws.map some ++ List.replicate (N.length - ws.length) none, B, S, env_start r, ?_⟩
  rw [fnF_eq] at P
  cases q : fs (ws.map some ++ List.replicate (N.length - ws.length) none) B with
  | bad => rw [q] at P; exact P.elim
  | exc x B' => rw [q] at P; exact P.elim
  | ok p B1 =>
    obtain ⟨fl, ρ1⟩ := p
    rw [q, Out.bind_ok] at P
    cases fl with
    | nx => exact fun F1 loc1 H1 σ1 E1 S1 R1 => gc_post S E1 S1 (w := .d .none) (v := .non) .non P
    | rt w => exact fun F1 loc1 H1 v E1 S1 r1 => gc_post S E1 S1 r1 P
    | bk => exact P.elim
    | ct => exact P.elim
theorem fn_mini {x qual : Str} {st : Stmt} {fa : Addr} {fd : FuncData} {N ps : List Str} {k : Nat} {fs : Ds} (F : Fun K x qual st fa fd) (S : FnScope N ps (defScope st)) (hm : mg x = some (.ref fa)) (hb : Binds K fd ps [])
    (hbody : ∀ (cdv : Value) (A : Around) (outer : List Env) (s : Shared) (H : Hp) (E : XK), Room k (A.deeper (envOfC qual (defScope st) s.heap.objs.size fa cdv)) → PSs (cxOf CX0 P w K mg base N qual (defScope st) fa cdv A outer s H E).nox (defBody st) (tS K fs)) :
    FnM P w K mg base (k + 1) x ps.length (fnF N.length fs) := ⟨fa, fd, ps, hm, F.kp, hb, fn_mini_ok F S hbody⟩
theorem FnM.mono {j k np : Nat} {x : Str} {run : List W → Bs → Out W} (F : FnM P w K mg base j x np run) (h : j ≤ k) : FnM P w K mg base k x np run := by
  obtain ⟨fa, fd, ps, h1, h2, h3, h4⟩ := F.it
  exact ⟨fa, fd, ps, h1, h2, h3, h4.mono h⟩
end
end Mini

namespace Mini
open PySem PySem.Spec PyProof.Rows L2

/-! ### len, int -/
def lenOf (B : Bs) : W → Option Nat
  | .d (.list ds) => some ds.length
  | .d (.tuple ds) => some ds.length
  | .d (.str x) => if x.length ≤ LN then some x.length else none
  | .d _ => none
  | .scr ns => some ns.length
  | .box n => match B[n]? with
    | some (some (.lst ws)) => some ws.length
    | _ => none
def lenF (f : De) : De := fun ρ B => (f ρ B).bind fun w B1 => match lenOf B1 w with
  | some n => .ok (.d (.int (n : Int))) B1
  | none => .bad
@[simp] theorem lenF_eq (f : De) (ρ : En) (B : Bs) : lenF f ρ B = (f ρ B).bind fun w B1 => match lenOf B1 w with
  | some n => .ok (.d (.int (n : Int))) B1
  | none => .bad := rfl
theorem len_ok {K : PySem.W.Frag} {F : Hp} {loc : List Addr} {B : Bs} {H : Hp} (S : Sim K F loc B H) {w : W} {v : V} {n : Nat} (h : lenOf B w = some n) (r : RW K F loc w v) : LenV K v H n := by
  cases w with
  | d x =>
    cases r with
    | lst h1 h2 => cases h; exact .inl ⟨_, sqL_of (S.ex _ _ h1), (dpAll_len h2).symm⟩
    | tup h1 h2 => cases h; exact .inr ⟨_, sqT_of (S.ex _ _ h1), (dpAll_len h2).symm⟩
    | str x =>
      unfold lenOf at h
      dsimp only at h
      split at h
      · rename_i hl
        cases h
        exact ⟨LN_le hl, rfl⟩
      · cases h
    | _ => cases h
  | scr ns =>
    obtain ⟨a, rfl, ha⟩ := r
    cases h
    exact .inl ⟨_, sqL_mono S.ex ha, by rw [List.length_map]⟩
  | box m =>
    obtain ⟨a, rfl, ha⟩ := r
    unfold lenOf at h
    dsimp only at h
    split at h
    · rename_i ws hb
      cases h
      obtain ⟨_, o, ho, vs, rfl, r⟩ := S.box m a _ ha hb
      exact .inl ⟨vs, sqL_of ho, rws_len r⟩
    · cases h
section
variable {X : Cx} {a b c e : Expr} {f g h : De} {pos : Pos}
theorem e_len {p : Pos} (hg : Gl X "len") (hm : X.mg "len" = none) (ha : PE X a (tE X.K f)) (hs : starEach [a] X.env = (false, eval a X.env) :: starEach [] X.env := by rfl) : PE X (.Call (.Name "len" p) [a] [] pos) (tE X.K (lenF f)) := by
  refine pe_imp (pe_callB call_len hg hm (by decide +kernel) (pa_cons ha pa_nil hs) (he := hs)) fun σ H Q ⟨F, loc, ρ, B, S, R, P⟩ => ?_
  refine ⟨F, loc, ρ, B, S, R, Pst.bind P fun x B1 F1 loc1 H1 v1 e1 E1 S1 r1 P1 => ?_⟩
  cases q : lenOf B1 x with
  | none => rw [q] at P1; exact P1.elim
  | some n =>
    rw [q] at P1
    exact ⟨v1, n, rfl, len_ok S1 q r1, P1.flat S1 (.int _)⟩
def intF (f : De) : De := fun ρ B => (f ρ B).bind fun w B1 => match w with
  | .d (.int i) => .ok (.d (.int i)) B1
  | .d (.bool k) => .ok (.d (.int (if k then 1 else 0))) B1
  | _ => .bad
@[simp] theorem intF_eq (f : De) (ρ : En) (B : Bs) : intF f ρ B = (f ρ B).bind fun w B1 => match w with
  | .d (.int i) => .ok (.d (.int i)) B1
  | .d (.bool k) => .ok (.d (.int (if k then 1 else 0))) B1
  | _ => .bad := rfl
theorem e_intOf {p : Pos} (hg : Gl X "int") (hm : X.mg "int" = none) (ha : PE X a (tE X.K f)) (hs : starEach [a] X.env = (false, eval a X.env) :: starEach [] X.env := by rfl) : PE X (.Call (.Name "int" p) [a] [] pos) (tE X.K (intF f)) := by
  refine pe_imp (pe_callTy call_int1 hg hm (by decide +kernel) (pa_cons ha pa_nil hs) (he := hs)) fun σ H Q ⟨F, loc, ρ, B, S, R, P⟩ => ?_
  refine ⟨F, loc, ρ, B, S, R, Pst.bind P fun x B1 F1 loc1 H1 v1 e1 E1 S1 r1 P1 => ?_⟩
  cases x with
  | scr _ => exact P1.elim
  | box _ => exact P1.elim
  | d x =>
    cases x with
    | int i => exact .inl ⟨i, by rw [dq_int r1], P1.flat S1 (.int _)⟩
    | bool k => exact .inr ⟨k, by rw [dq_bool r1], P1.flat S1 (.int _)⟩
    | _ => exact P1.elim

/-! ### isinstance -/
def tyOf (B : Bs) : W → Option String
  | .d .none => some "NoneType"
  | .d (.bool _) => some "bool"
  | .d (.int _) => some "int"
  | .d (.str _) => some "str"
  | .d (.list _) => some "list"
  | .d (.tuple _) => some "tuple"
  | .d (.dict _) => none
  | .scr _ => none
  | .box n => match B[n]? with
    | some (some (.lst _)) => some "list"
    | some (some (.dK _)) => some "dict"
    | some (some (.dT _)) => some "dict"
    | _ => none
theorem ty_ok {K : PySem.W.Frag} {F : Hp} {loc : List Addr} {B : Bs} {H : Hp} (S : Sim K F loc B H) {w : W} {v : V} {n : String} (h : tyOf B w = some n) (r : RW K F loc w v) : TyX K H v (.type n) := by
  cases w with
  | d x =>
    cases r with
    | non => cases h; exact .base .non
    | bl b => cases h; exact .base (.bl b)
    | int i => cases h; exact .base (.int i)
    | str x => cases h; exact .base (.str x)
    | lst h1 h2 => cases h; exact .base (.lst (S.ex _ _ h1))
    | tup h1 h2 => cases h; exact .base (.tup (S.ex _ _ h1))
  | scr ns => cases h
  | box m =>
    obtain ⟨a, rfl, ha⟩ := r
    unfold tyOf at h
    dsimp only at h
    split at h
    · rename_i ws hb
      cases h
      obtain ⟨_, o, ho, vs, rfl, r⟩ := S.box m a _ ha hb
      exact .base (.lst ho)
    · rename_i ws hb
      cases h
      obtain ⟨_, o, ho, vs, rfl, r⟩ := S.box m a _ ha hb
      exact .base (.dK ho)
    · rename_i ws hb
      cases h
      obtain ⟨_, o, ho, vs, rfl, r⟩ := S.box m a _ ha hb
      exact .base (.dT ho)
    · cases h
/-- isinstance(x, T), T a built-in type -/
def isiF (T : String) (f : De) : De := fun ρ B => (f ρ B).bind fun w B1 => match tyOf B1 w with
  | some n => match kitB n T with
    | some b => .ok (.d (.bool b)) B1
    | none => .bad
  | none => .bad
@[simp] theorem isiF_eq (T : String) (f : De) (ρ : En) (B : Bs) : isiF T f ρ B = (f ρ B).bind fun w B1 => match tyOf B1 w with
  | some n => match kitB n T with
    | some b => .ok (.d (.bool b)) B1
    | none => .bad
  | none => .bad := rfl
theorem e_isi {T : String} {tn : Str} {p p2 : Pos} (hg : Gl X "isinstance") (hm : X.mg "isinstance" = none) (ha : PE X a (tE X.K f)) (ht : PE X (.Name tn p2) (tC (.ty T))) (hs : starEach [a, .Name tn p2] X.env = (false, eval a X.env) :: starEach [.Name tn p2] X.env := by rfl) (hs2 : starEach [.Name tn p2] X.env = (false, eval (.Name tn p2) X.env) :: starEach [] X.env := by rfl)
    (hpl : (backTo pos (starEach [.Name tn p2] X.env)).any (·.1) = false := by rfl) :
    PE X (.Call (.Name "isinstance" p) [a, .Name tn p2] [] pos) (tE X.K (isiF T f)) := by
  refine pe_imp (pe_callB call_isi hg hm (by decide +kernel) (pa_cons ha (pa_cons ht pa_nil hs2) hs) (he := hs) (hpl := hpl)) fun σ H Q ⟨F, loc, ρ, B, S, R, P⟩ => ?_
  refine ⟨F, loc, ρ, B, S, R, Pst.bind P fun x B1 F1 loc1 H1 v1 e1 E1 S1 r1 P1 => ?_⟩
  cases q : tyOf B1 x with
  | none => rw [q] at P1; exact P1.elim
  | some n =>
    rw [q] at P1
    simp only at P1
    cases q2 : kitB n T with
    | none => rw [q2] at P1; exact P1.elim
    | some k =>
      rw [q2] at P1
      exact ⟨v1, .ty T, .type n, .type T, k, rfl, .ty T, ty_ok S1 q r1, kit_ty q2, P1.flat S1 (.bl _)⟩

/-! ### list(x), tuple(x) -/
theorem tview_seq {K : PySem.W.Frag} {F : Hp} {loc : List Addr} {B : Bs} {H : Hp} (S : Sim K F loc B H) {w : W} {v : V} {ds : List PyData} (h : tview B w = some (.list ds) ∨ tview B w = some (.tuple ds)) (r : RW K F loc w v) : ∃ a xs, v = .ref a ∧ (SqL K H a xs ∨ SqT K H a xs) ∧ DqAll F xs ds := by
  rcases h with h | h
  · obtain ⟨a, xs, e, h1, h2⟩ := tview_items S h r
    exact ⟨a, xs, e, .inl h1, h2⟩
  · obtain ⟨a, xs, e, h1, h2⟩ := tview_titems S h r
    exact ⟨a, xs, e, .inr h1, h2⟩
def seqOf (B : Bs) (w : W) : Option (List PyData) := match tview B w with
  | some (.list ds) => some ds
  | some (.tuple ds) => some ds
  | _ => none
theorem seqOf_view {B : Bs} {w : W} {ds : List PyData} (h : seqOf B w = some ds) : tview B w = some (.list ds) ∨ tview B w = some (.tuple ds) := by
  unfold seqOf at h
  split at h
  · rename_i es q; cases h; exact .inl q
  · rename_i es q; cases h; exact .inr q
  · cases h
/-- list(x): plain data; in a box -/
def listF (f : De) : De := fun ρ B => (f ρ B).bind fun w B1 => match seqOf B1 w with
  | some ds => .ok (.d (.list ds)) B1
  | none => .bad
def listbF (f : De) : De := fun ρ B => (f ρ B).bind fun w B1 => match seqOf B1 w with
  | some ds => .ok (.box B1.length) (B1 ++ [some (.lst (ds.map W.d))])
  | none => .bad
@[simp] theorem listF_eq (f : De) (ρ : En) (B : Bs) : listF f ρ B = (f ρ B).bind fun w B1 => match seqOf B1 w with
  | some ds => .ok (.d (.list ds)) B1
  | none => .bad := rfl
@[simp] theorem listbF_eq (f : De) (ρ : En) (B : Bs) : listbF f ρ B = (f ρ B).bind fun w B1 => match seqOf B1 w with
  | some ds => .ok (.box B1.length) (B1 ++ [some (.lst (ds.map W.d))])
  | none => .bad := rfl
theorem e_list {p : Pos} (hg : Gl X "list") (hm : X.mg "list" = none) (ha : PE X a (tE X.K f)) (hs : starEach [a] X.env = (false, eval a X.env) :: starEach [] X.env := by rfl) : PE X (.Call (.Name "list" p) [a] [] pos) (tE X.K (listF f)) := by
  refine pe_imp (pe_callTy call_list_of hg hm (by decide +kernel) (pa_cons ha pa_nil hs) (he := hs)) fun σ H Q ⟨F, loc, ρ, B, S, R, P⟩ => ?_
  refine ⟨F, loc, ρ, B, S, R, Pst.bind P fun x B1 F1 loc1 H1 v1 e1 E1 S1 r1 P1 => ?_⟩
  cases q : seqOf B1 x with
  | none => rw [q] at P1; exact P1.elim
  | some ds =>
    rw [q] at P1
    obtain ⟨a, xs, rfl, h1, h2⟩ := tview_seq S1 (seqOf_view q) r1
    exact ⟨a, xs, rfl, h1, fun p hp => P1.newL S1 h2 hp⟩
theorem e_listb {p : Pos} (hg : Gl X "list") (hm : X.mg "list" = none) (ha : PE X a (tE X.K f)) (hs : starEach [a] X.env = (false, eval a X.env) :: starEach [] X.env := by rfl) : PE X (.Call (.Name "list" p) [a] [] pos) (tE X.K (listbF f)) := by
  refine pe_imp (pe_callTy call_list_of hg hm (by decide +kernel) (pa_cons ha pa_nil hs) (he := hs)) fun σ H Q ⟨F, loc, ρ, B, S, R, P⟩ => ?_
  refine ⟨F, loc, ρ, B, S, R, Pst.bind P fun x B1 F1 loc1 H1 v1 e1 E1 S1 r1 P1 => ?_⟩
  cases q : seqOf B1 x with
  | none => rw [q] at P1; exact P1.elim
  | some ds =>
    rw [q] at P1
    obtain ⟨a, xs, rfl, h1, h2⟩ := tview_seq S1 (seqOf_view q) r1
    exact ⟨a, xs, rfl, h1, fun p hp => P1.box S1 ⟨xs, rfl, rws_of_dpAll h2⟩ hp⟩
def tupleF (f : De) : De := fun ρ B => (f ρ B).bind fun w B1 => match tview B1 w with
  | some (.list ds) => .ok (.d (.tuple ds)) B1
  | _ => .bad
theorem tupleF_eq (f : De) (ρ : En) (B : Bs) : tupleF f ρ B = (f ρ B).bind fun w B1 => match tview B1 w with
  | some (.list ds) => .ok (.d (.tuple ds)) B1
  | _ => .bad := rfl
theorem e_tuple {p : Pos} (hg : Gl X "tuple") (hm : X.mg "tuple" = none) (ha : PE X a (tE X.K f)) (hs : starEach [a] X.env = (false, eval a X.env) :: starEach [] X.env := by rfl) : PE X (.Call (.Name "tuple" p) [a] [] pos) (tE X.K (tupleF f)) := by
  refine pe_imp (pe_tupleOf hg hm ha hs) fun σ H Q ⟨F, loc, ρ, B, S, R, P⟩ => ?_
  refine ⟨F, loc, ρ, B, S, R, Pst.bind P fun x B1 F1 loc1 H1 v1 e1 E1 S1 r1 P1 => ?_⟩
  cases q : tview B1 x with
  | none => rw [q] at P1; exact P1.elim
  | some d =>
    rw [q] at P1
    cases d with
    | list ds =>
      obtain ⟨a, xs, rfl, h1, h2⟩ := tview_items S1 q r1
      exact .inl ⟨a, xs, rfl, h1, fun p hp => P1.newT S1 h2 hp⟩
    | _ => exact P1.elim
end

/-! ### sorted -/
section
variable {X : Cx} {pins : List (Addr × Obj)} {σ : L2.St} {s : Shared}
theorem each_of_vals {H F : Hp} (I : Inv X pins σ H s) (e : FE F H) : ∀ {ds : List PyData} {xs : List V} {us : List Value}, DqAll F xs ds → Vals xs us → PySem.W.EachIs (fun u d => ∃ x, RelV x u ∧ Dq F x d) us ds
  | _, _, _, .nil, .nil => .nil
  | _, _, _, .cons h1 h2, .cons r1 r2 => .cons ⟨_, r1, h1⟩ (each_of_vals I e h2 r2)
theorem each_reads {H F : Hp} (I : Inv X pins σ H s) (e : FE F H) : ∀ {ds : List PyData} {xs : List V} {us : List Value}, DqAll F xs ds → Vals xs us → PySem.W.EachIs (fun u d => ∃ as, Reads s.heap u d as) us ds
  | _, _, _, .nil, .nil => .nil
  | _, _, _, .cons h1 h2, .cons r1 r2 => .cons (Dp.reads I _ _ _ (dq_dp (dp_mono e h1)) r1) (each_reads I e h2 r2)
theorem vals_of_each {F : Hp} : ∀ {ds : List PyData} {us : List Value}, PySem.W.EachIs (fun u d => ∃ x, RelV x u ∧ Dq F x d) us ds → ∃ xs : List V, Vals xs us ∧ DqAll F xs ds
  | _, _, .nil => ⟨[], .nil, .nil⟩
  | _, _, .cons ⟨x, r, h⟩ t => by
    obtain ⟨xs, h1, h2⟩ := vals_of_each t
    exact ⟨x :: xs, .cons r h1, .cons h h2⟩
end
def CanSort (ds : List PyData) : Prop := PySem.W.AllAlike ds ∧ PySem.W.Sortable ds ∧ ds.length ≤ LN ∧ ∀ d ∈ ds, d.depth ≤ 60
def dataSort (ds : List PyData) : List PyData := ds.mergeSort (PySem.W.dataLe false id)
open Classical in
noncomputable def sortF (f : De) : De := fun ρ B => (f ρ B).bind fun w B1 => match tview B1 w with
  | some (.list ds) => if CanSort ds then .ok (.d (.list (dataSort ds))) B1 else .bad
  | _ => .bad
open Classical in
theorem sortF_eq (f : De) (ρ : En) (B : Bs) : sortF f ρ B = (f ρ B).bind fun w B1 => match tview B1 w with
  | some (.list ds) => if CanSort ds then .ok (.d (.list (dataSort ds))) B1 else .bad
  | _ => .bad := rfl
def rSortM (K : PySem.W.Frag) : List V → Hp → VK → Prop := fun vs H Q => ∃ (F : Hp) (a : Addr) (xs : List V) (ds : List PyData), vs = [.ref a] ∧ FE F H ∧ SqL K H a xs ∧ DqAll F xs ds ∧ CanSort ds ∧
  ∀ (ys : List V) (p : Addr), DqAll F ys (dataSort ds) → H p = none → Q (.ref p) (upd H p (.lst ys))
theorem cr_sortM {X : Cx} (hu : X.A.units + 65 < cLine) : CallR X (.builtin "sorted") (rSortM X.K) := by
  intro pins s σ H vs us Q I r h
  obtain ⟨F, a, xs, ds, rfl, e, hs, hd, ⟨c1, c2, c3, c4⟩, q⟩ := h
  obtain ⟨its, rv, hl, hz⟩ := I.list hs
  rw [Vals.ref1 r]
  have hL : ds.length ≤ sizeLine := LN_le c3
  have hm : ds.map id = ds := List.map_id _
  refine PySem.W.sorted_data (enc := id) (R := fun u d => ∃ x, RelV x u ∧ Dq F x d) hl.isList (each_of_vals I e hd rv) (each_reads I e hd rv) (by rw [hm]; exact c1) (by rw [hm]; exact c2) hL (fun d hd => ?_) fun out ho eo => ?_
  · have := c4 d hd
    show X.A.units + 2 + d.depth < cLine
    omega
  · obtain ⟨ys, v1, v2⟩ := vals_of_each eo
    obtain ⟨ep, he'⟩ := PyProof.Rows.sortedAll_at s.heap its out.toArray
    have hlen : ys.length ≤ sizeLine := by rw [v1.length, ho]; exact hL
    exact ⟨.ref _, upd H (s.heap.objs.size + 1) (.lst ys), I.laid (t' := s.toks) (fun _ _ => PyProof.Rows.sortedAll_old) (Nat.le_succ _) ⟨hlen, out, ep, v1, he'⟩, rfl, q ys _ v2 (I.hok.fresh (Nat.le_succ _))⟩
theorem e_sorted {X : Cx} {a : Expr} {f : De} {p pos : Pos} (hu : X.A.units + 65 < cLine) (hg : Gl X "sorted") (hm : X.mg "sorted" = none) (ha : PE X a (tE X.K f)) (hs : starEach [a] X.env = (false, eval a X.env) :: starEach [] X.env := by rfl) : PE X (.Call (.Name "sorted" p) [a] [] pos) (tE X.K (sortF f)) := by
  refine pe_imp (pe_callB (cr_sortM hu) hg hm (by decide +kernel) (pa_cons ha pa_nil hs) (he := hs)) fun σ H Q ⟨F, loc, ρ, B, S, R, P⟩ => ?_
  refine ⟨F, loc, ρ, B, S, R, ?_⟩
  rw [sortF_eq] at P
  refine Pst.bind P fun x B1 F1 loc1 H1 v1 e1 E1 S1 r1 P1 => ?_
  cases q : tview B1 x with
  | none => rw [q] at P1; exact P1.elim
  | some d =>
    rw [q] at P1
    cases d with
    | list ds =>
      simp only at P1
      split at P1
      · rename_i hc
        obtain ⟨a, xs, rfl, h1, h2⟩ := tview_items S1 q r1
        exact ⟨F1, a, xs, ds, rfl, S1.ex, h1, h2, hc, fun ys p hy hp => P1.newL S1 hy hp⟩
      · exact P1.elim
    | _ => exact P1.elim

/-! ### list methods -/
section
variable {X : Cx} {a b c e o : Expr} {f g h fo : De} {pos apos cpos : Pos}
/-- xs.append(e), the list in a box -/
def appF (fo f : De) : De := fun ρ B => (fo ρ B).bind fun o B1 => (f ρ B1).bind fun w B2 => match o with
  | .box n => match B1[n]?, B2[n]? with
    | some (some (.lst _)), some (some (.lst ws)) => if ws.length < LN then .ok (.d .none) (B2.set n (some (.lst (ws ++ [w])))) else .bad
    | _, _ => .bad
  | _ => .bad
@[simp] theorem appF_eq (fo f : De) (ρ : En) (B : Bs) : appF fo f ρ B = (fo ρ B).bind fun o B1 => (f ρ B1).bind fun w B2 => match o with
  | .box n => match B1[n]?, B2[n]? with
    | some (some (.lst _)), some (some (.lst ws)) => if ws.length < LN then .ok (.d .none) (B2.set n (some (.lst (ws ++ [w])))) else .bad
    | _, _ => .bad
  | _ => .bad := rfl
/-- a fact about an out, before its reading is used up -/
theorem Out.bind_stuck {α β : Type} (o : Out α) : (o.bind fun _ _ => (Out.bad : Out β)) = .bad ∨ ∃ x B, o = .exc x B := by
  cases o with
  | ok a B => exact .inl rfl
  | exc x B => exact .inr ⟨x, B, rfl⟩
  | bad => exact .inl rfl
theorem no_bad {K : PySem.W.Frag} {α γ δ : Type} {R2 : Hp → List Addr → γ → δ → Prop} {F : Hp} {loc : List Addr} {H : Hp} {Q : δ → Hp → Prop} {o : Out α} {f : α → Bs → Out γ} (hf : ∀ a B, f a B = .bad) (P : Pst K R2 F loc H (o.bind f) Q) : False := by
  cases o with
  | ok a B => rw [Out.bind_ok, hf] at P; exact P
  | exc x B => exact P
  | bad => exact P
theorem e_append (ho : PE X o (tE X.K fo)) (ha : PE X e (tE X.K f)) (hs : starEach [e] X.env = (false, eval e X.env) :: starEach [] X.env := by rfl) (hbase : attributeBase o "append" X.env (eval o X.env) = eval o X.env := by rfl)
    (hfew : ((backTo cpos (starEach [e] X.env)).all (fun x => !x.1) && (backToKw cpos (keywordEach [] X.env)).all (fun x => x.1.isSome)
      && decide (([e] : List Expr).length + ([] : List Keyword).length + (if ([] : List Keyword).isEmpty then 0 else 1) < 30)) = true := by rfl)
    (hline : (apos.endLine == cpos.line) = true := by rfl) : PE X (.Call (.Attribute o "append" apos) [e] [] cpos) (tE X.K (appF fo f)) := by
  refine pe_imp (pe_bm PySem.F.plainAttrs_list PySem.F.slot_list_append PySem.F.type_list_append mt_append ho (pa_cons ha pa_nil hs) (hs := hs) (hbase := hbase) (hfew := hfew) (hline := hline)) fun σ H Q ⟨F, loc, ρ, B, S, R, P⟩ => ?_
  refine ⟨F, loc, ρ, B, S, R, Pst.bind P fun x B1 F1 loc1 H1 v1 e1 E1 S1 r1 P1 => ?_⟩
  cases x with
  | d x => exact (no_bad (fun _ _ => rfl) P1).elim
  | scr _ => exact (no_bad (fun _ _ => rfl) P1).elim
  | box n =>
    have r1' := r1
    obtain ⟨p, rfl, hp⟩ := r1'
    cases q : B1[n]? with
    | none => exact (no_bad (fun _ _ => by simp only [q]) P1).elim
    | some ob =>
      cases ob with
      | none => exact (no_bad (fun _ _ => by simp only [q]) P1).elim
      | some bx =>
        cases bx with
        | lst ws0 =>
          obtain ⟨_, u, hu, vs0, rfl, _⟩ := S1.box n p _ hp q
          refine ⟨.inl ⟨rfl, vs0, sqL_of hu⟩, F1, loc1, ρ, B1, S1, R.ext E1, Pst.bind P1 fun w B2 F2 loc2 H2 v2 e2 E2 S2 r2 P2 => ?_⟩
          simp only [q] at P2
          split at P2
          · rename_i ws0' ws _ hb
            split at P2
            · rename_i hl
              have hp2 := pre_get E2.pre hp
              obtain ⟨_, u2, hu2, vs, rfl, rr⟩ := S2.box n p _ hp2 hb
              obtain ⟨S3, E3⟩ := S2.write (b := .lst (ws ++ [w])) (o := .lst (vs ++ [v2])) hp2 hb ⟨_, rfl, paired_app rr (.cons r2 .nil)⟩ rfl
              exact ⟨p, vs, v2, rfl, rfl, hu2, by rw [← rws_len rr]; exact Nat.lt_trans hl (by decide), P2 F2 loc2 _ _ E3 S3 .non⟩
            · exact P2.elim
          · exact P2.elim
        | _ => exact (no_bad (fun _ _ => by simp only [q]) P1).elim
/-- xs.remove(x), a list of data in a box -/
def rRemD (K : PySem.W.Frag) : V → List V → Hp → VK → Prop := fun x xs H Q => ∃ (l : Addr) (vs : List V) (ds : List PyData) (y : V) (d : PyData) (j : Nat), x = .ref l ∧ xs = [y] ∧ H l = some (.lst vs) ∧ DpAll K H vs ds ∧ Dp K H y d ∧
  PyData.plainAll ds = true ∧ d.plain = true ∧ d.depth ≤ 60 ∧ PySem.SeqAt.dataPlace ds d = some j ∧ Q .non (upd H l (.lst (vs.eraseIdx j)))
theorem mt_remD (hu : X.A.units + 65 < cLine) : MtM X "list.remove" (rRemD X.K) := by
  intro pins s σ H x xs v us Q I rx rv h
  obtain ⟨l, vs, ds, y, d, j, rfl, rfl, hH, hd, hy, pd, py, dy, hj, q⟩ := h
  cases rx
  obtain ⟨u, rfl, ru⟩ := rv.one
  obtain ⟨z, its, n, r, hl, e⟩ := I.lstM hH
  obtain ⟨as, ra⟩ := Dp.readsAll I ds _ _ hd r
  obtain ⟨bs, rb⟩ := Dp.reads I d y u hy ru
  refine PySem.SeqAt.remove_list_data (vs := its.toArray) (xs := ds) (d := d) (j := j) (as := as) (bs := bs) ⟨_, e, rfl, n, rfl⟩ ra rb pd py (by omega) hj (by rw [List.size_toArray]; omega) ?_
  refine ⟨.non, _, I.lset (its' := its.eraseIdx j) hH e (by simp [Array.eraseIdxIfInBounds]; intro h; exact (List.eraseIdx_of_length_le h).symm) (r.eraseIdx j) ?_, rfl, q⟩
  have := len_erase vs j
  omega
def remF (fo f : De) : De := fun ρ B => (fo ρ B).bind fun o B1 => (f ρ B1).bind fun w B2 => match o with
  | .box n => match B1[n]?, B2[n]? with
    | some (some (.lst _)), some (some (.lst ws)) => match datas ws, tview B2 w with
      | some ds, some d => if (PyData.plainAll ds && d.plain && decide (d.depth ≤ 60)) = true then match PySem.SeqAt.dataPlace ds d with
        | some j => .ok (.d .none) (B2.set n (some (.lst (ws.eraseIdx j))))
        | none => .bad
        else .bad
      | _, _ => .bad
    | _, _ => .bad
  | _ => .bad
@[simp] theorem remF_eq (fo f : De) (ρ : En) (B : Bs) : remF fo f ρ B = (fo ρ B).bind fun o B1 => (f ρ B1).bind fun w B2 => match o with
  | .box n => match B1[n]?, B2[n]? with
    | some (some (.lst _)), some (some (.lst ws)) => match datas ws, tview B2 w with
      | some ds, some d => if (PyData.plainAll ds && d.plain && decide (d.depth ≤ 60)) = true then match PySem.SeqAt.dataPlace ds d with
        | some j => .ok (.d .none) (B2.set n (some (.lst (ws.eraseIdx j))))
        | none => .bad
        else .bad
      | _, _ => .bad
    | _, _ => .bad
  | _ => .bad := rfl
theorem rws_erase {K : PySem.W.Frag} {F : Hp} {loc : List Addr} : ∀ {ws : List W} {vs : List V} (i : Nat), RWs K F loc ws vs → RWs K F loc (ws.eraseIdx i) (vs.eraseIdx i)
  | _, _, _, .nil => .nil
  | _, _, 0, .cons _ t => t
  | _, _, i + 1, .cons q t => .cons q (rws_erase i t)
theorem e_remove (hu : X.A.units + 65 < cLine) (ho : PE X o (tE X.K fo)) (ha : PE X e (tE X.K f)) (hs : starEach [e] X.env = (false, eval e X.env) :: starEach [] X.env := by rfl) (hbase : attributeBase o "remove" X.env (eval o X.env) = eval o X.env := by rfl)
    (hfew : ((backTo cpos (starEach [e] X.env)).all (fun x => !x.1) && (backToKw cpos (keywordEach [] X.env)).all (fun x => x.1.isSome)
      && decide (([e] : List Expr).length + ([] : List Keyword).length + (if ([] : List Keyword).isEmpty then 0 else 1) < 30)) = true := by rfl)
    (hline : (apos.endLine == cpos.line) = true := by rfl) : PE X (.Call (.Attribute o "remove" apos) [e] [] cpos) (tE X.K (remF fo f)) := by
  refine pe_imp (pe_bm PySem.F.plainAttrs_list PySem.F.slot_list_remove PySem.F.type_list_remove (mt_remD hu) ho (pa_cons ha pa_nil hs) (hs := hs) (hbase := hbase) (hfew := hfew) (hline := hline)) fun σ H Q ⟨F, loc, ρ, B, S, R, P⟩ => ?_
  refine ⟨F, loc, ρ, B, S, R, Pst.bind P fun x B1 F1 loc1 H1 v1 e1 E1 S1 r1 P1 => ?_⟩
  cases x with
  | d x => exact (no_bad (fun _ _ => rfl) P1).elim
  | scr _ => exact (no_bad (fun _ _ => rfl) P1).elim
  | box n =>
    have r1' := r1
    obtain ⟨p, rfl, hp⟩ := r1'
    cases q : B1[n]? with
    | none => exact (no_bad (fun _ _ => by simp only [q]) P1).elim
    | some ob =>
      cases ob with
      | none => exact (no_bad (fun _ _ => by simp only [q]) P1).elim
      | some bx =>
        cases bx with
        | lst ws0 =>
          obtain ⟨_, u, hu, vs0, rfl, _⟩ := S1.box n p _ hp q
          refine ⟨.inl ⟨rfl, vs0, sqL_of hu⟩, F1, loc1, ρ, B1, S1, R.ext E1, Pst.bind P1 fun w B2 F2 loc2 H2 v2 e2 E2 S2 r2 P2 => ?_⟩
          simp only [q] at P2
          split at P2
          · rename_i ws0' ws _ hb
            split at P2
            · rename_i ds d hds hd
              split at P2
              · rename_i hc
                rw [Bool.and_eq_true, Bool.and_eq_true] at hc
                split at P2
                · rename_i j hj
                  have hp2 := pre_get E2.pre hp
                  obtain ⟨_, u2, hu2, vs, rfl, rr⟩ := S2.box n p _ hp2 hb
                  obtain ⟨S3, E3⟩ := S2.write (b := .lst (ws.eraseIdx j)) (o := .lst (vs.eraseIdx j)) hp2 hb ⟨_, rfl, rws_erase j rr⟩ rfl
                  rw [datas_eq hds] at rr
                  exact ⟨p, vs, ds, v2, d, j, rfl, rfl, hu2, dqAll_dp (dpAll_mono S2.ex (dpAll_of_rws rr)), tview_dp S2 hd r2, hc.1.1, hc.1.2, of_decide_eq_true hc.2, hj, P2 F2 loc2 _ _ E3 S3 .non⟩
                · exact P2.elim
              · exact P2.elim
            · exact P2.elim
          · exact P2.elim
        | _ => exact (no_bad (fun _ _ => by simp only [q]) P1).elim
end
end Mini

namespace Mini
open PySem PySem.Spec PyProof.Rows L2

/-! ### set(list of ints): the library has the tuple's case (HandS.SetFor) and a list's case whose fact is too weak for sorted (PyProof.Rows.SetFrom); this is the list's case with the strong fact, on the same road -/
/-- a set that was just made -/
abbrev newSetO (w : World) : Obj := ⟨.type "set", none, .set #[] 0 (.fresh 0 0 (!w.params.followText "set-order")), #[]⟩
section
variable {P : Program} {w : World} {A : Around} {E : Value → Shared → Prop} {s : Shared}
set_option maxHeartbeats 3200000 in
theorem call_set_lisI {l : Addr} {items : Array Value} (ns : List Int) {Q : Value → Shared → Prop} (hh : A.handled = none) (hl : s.heap.IsList l items) (hit : IntsAre items.toList ns) (hb : ns.length + 1 < scanBound)
    (h : ∀ (h' : Heap) (tk c : Nat), SetR w h' s.heap.objs.size (fun j => decide (j ∈ ns)) c → c ≤ ns.length → (∀ b o, s.heap.get? b = some o → h'.get? b = some o) → Q (.ref s.heap.objs.size) { s with heap := h', toks := tk }) :
    wpAny (model P w) A (call (.type "set") [.ref l]) Q E s := by
  have hisz : items.size = ns.length := by
    have q := IntsAre.length hit
    rw [Array.length_toList] at q
    exact q
  obtain ⟨c, tl, hmro⟩ := PySem.F.called_set.mro
  have hmade := PySem.F.called_set.made
  have hsub := PySem.F.called_set.sub
  refine wpAny_call (codeAny_of_tree ?_)
  show wpAny _ _ (callAny (.type "set") _) _ _ _
  refine wpAny_pure ⟨Code.quiet_builtin _ (by decide +kernel), codeAny_builtin PySem.F.entry_type_call ?_⟩
  rw [Around.under_plain (weight_type_call_type "set" [.ref l] []) rfl]
  have h1 := PySem.F.called_set.notType
  have h2 := PySem.F.called_set.canCreate
  have hct := PySem.F.typeCall_set_1 (.ref l)
  repeat (any_goals (first | assumption | wp_step))

  refine codeAny_mono (code_set_led1 (.ref l) (E := E) (Q₁ := fun obj s₁ => obj = .ref s.heap.objs.size ∧ s₁ = { s with heap := s.heap.push (newSetO w) }) ⟨rfl, rfl⟩) fun r s₁ hr => ?_
  cases r with
  | error e => exact hr
  | ok fl =>
    cases fl with
    | ret obj =>
      obtain ⟨rfl, rfl⟩ := hr
      have hS : (s.heap.push (newSetO w)).get? s.heap.objs.size = some (newSetO w) := Heap.get?_push_size _ rfl
      have hT : Shared.TypeIs { s with heap := s.heap.push (newSetO w) } (.ref s.heap.objs.size) "set" := ⟨_, hS, rfl⟩
      have hli := PySem.F.called_set.init.lookup
      have hbi := PySem.F.called_set.init.bind (.ref s.heap.objs.size)
      repeat (any_goals (first | assumption | wp_step))

      refine codeAny_mono (codeAny_call_builtin (R := wants (fun r s₂ => r = .none ∧ ∃ h' tk c, s₂ = { s with heap := h', toks := tk } ∧ SetR w h' s.heap.objs.size (fun j => decide (j ∈ ns)) c ∧ c ≤ ns.length ∧
          (∀ b o, s.heap.get? b = some o → h'.get? b = some o)) E) PySem.F.called_set.init.plain PySem.F.entry_set_init (check_set_init_1 hT ?_)) fun r₂ s₂ hr₂ => ?_
      · obtain ⟨ol, hol, hcl, nl, hdl⟩ := hl
        obtain ⟨ocls, odict, odata, oslots⟩ := ol
        simp only at hcl hdl
        subst hcl; subst hdl
        have hol' : (s.heap.push (newSetO w)).get? l = some { cls := .type "list", dict := odict, data := .seq items nl, slots := oslots } := Heap.get?_push_of_some _ hol
        have hsls := PySem.F.sub_list_set
        have hslf := PySem.F.sub_list_frozenset
        have hne : (Value.type "list" == Value.type "dict") = false := by decide
        have hl1 : (s.heap.push (newSetO w)).IsList l items := ⟨_, hol', rfl, nl, rfl⟩
        unfold Builtin.«set.__init__» noKeywords Builtin.Frozenset.updateFrom
        generalize hPI : pyIter = PI
        wp_walk
        subst hPI

        refine wpAny_pyIter_list hl1 ?_
        refine wpAny_bind (wpAny_runValue ?_)
        have hlS : l < s.heap.objs.size := Heap.lt_size hol
        have hh3 : A.in1.in1.in1.handled = none := by simp [hh]
        have hneI : l ≠ (s.heap.push (newSetO w)).objs.size := by
          rw [Heap.size_push]; exact Nat.ne_of_lt (Nat.lt_succ_of_lt hlS)
        have hSf : s.heap.objs.size ∉ [(s.heap.push (newSetO w)).objs.size, l] := by
          rw [Heap.size_push]; simp only [List.mem_cons, List.mem_singleton, List.not_mem_nil, or_false, not_or]
          exact ⟨Nat.ne_of_lt (Nat.lt_succ_self _), Nat.ne_of_gt hlS⟩
        have hval : ∀ (i : Nat) (v : Value), items[i]? = some v → ∃ k t, ns[i]? = some k ∧ v = .int k t := fun i v hv => by
          have hi : i < ns.length := by rw [← hisz]; exact (Array.getElem?_eq_some_iff.mp hv).1
          obtain ⟨t, e⟩ := PyProof.Rows.IntsAre.int_at hit i v (by rw [Array.getElem?_toList]; exact hv)
          refine ⟨ns[i], t, List.getElem?_eq_getElem hi, ?_⟩
          rw [e, List.getD_eq_getElem?_getD, List.getElem?_eq_getElem hi] <;> rfl
        refine set_update_ints ((Walks.list hh3 _ l hneI items).toS) s.heap.objs.size
          hSf ns hisz hb hval (items.size - 0) 0 _ (by omega) (Nat.zero_le _)
          ⟨⟨_, Heap.get?_push_size _ rfl, rfl, rfl⟩, (hl1.push _)⟩ ?hS0 ?hR
        case hS0 =>
          have hget : ((s.heap.push (newSetO w)).push { cls := .type "list_iterator", data := .fields #[.ref l, .int 0 0] }).get? s.heap.objs.size
              = some (newSetO w) := Heap.get?_push_of_some _ hS
          exact ⟨0, Nat.le_refl 0, setR_new_at hget⟩
        case hR =>
          intro s' c' hm hc' hS'
          obtain ⟨h', g2, d', tk', os'⟩ := s'
          have eg : g2 = s.gens := hm.gens
          have ed : d' = s.drawn := hm.drawn
          have eo : os' = s.os := hm.os
          subst eg; subst ed; subst eo
          show wpAny _ _ _ _ _ _
          refine wpAny_pure ?_
          show wpAny _ _ (ret Value.none) _ _ _
          rw [hisz] at hc'
          refine wpAny_pure ⟨rfl, h', tk', c', rfl, hS', hc', fun b o e => ?_⟩
          have hb0 : b < s.heap.objs.size := Heap.lt_size e
          have hb1 : b ≠ s.heap.objs.size := Nat.ne_of_lt hb0
          have hb2 : b ≠ (s.heap.push (newSetO w)).objs.size := by
            rw [Heap.size_push]; exact Nat.ne_of_lt (Nat.lt_succ_of_lt hb0)
          exact hm.heap b o (by simp only [List.mem_cons, List.mem_singleton, List.not_mem_nil, or_false, not_or]; exact ⟨hb1, hb2⟩) (Heap.get?_push_of_some _ (Heap.get?_push_of_some _ e))

      · cases r₂ with
        | error e => exact hr₂
        | ok fl₂ =>
          cases fl₂ with
          | ret r =>
            obtain ⟨rfl, h', tk, c', rfl, hS', hc', hk'⟩ := hr₂
            repeat (any_goals (first | assumption | wp_step))
            exact h _ _ _ hS' hc' hk'
          | _ => exact hr₂.elim
    | _ => exact hr.elim
end

/-! ### ascending, each once -/
def insU (x : Int) : List Int → List Int
  | [] => [x]
  | y :: r => if x < y then x :: y :: r else if x = y then y :: r else y :: insU x r
def setSort (ns : List Int) : List Int := ns.foldr insU []
theorem mem_insU (x z : Int) : ∀ l : List Int, z ∈ insU x l ↔ z = x ∨ z ∈ l
  | [] => by simp [insU]
  | y :: r => by
    unfold insU
    split
    · simp
    · split
      · rename_i h; subst h; simp
      · rw [List.mem_cons, mem_insU x z r, List.mem_cons]
        constructor
        · rintro (h | h | h) <;> simp [h]
        · rintro (h | h | h) <;> simp [h]
theorem insU_lt (x : Int) : ∀ l : List Int, l.Pairwise (· < ·) → (insU x l).Pairwise (· < ·)
  | [], _ => by simp [insU]
  | y :: r, h => by
    obtain ⟨h1, h2⟩ := List.pairwise_cons.mp h
    unfold insU
    split
    · rename_i hx
      refine List.pairwise_cons.mpr ⟨fun z hz => ?_, h⟩
      rcases List.mem_cons.mp hz with e | hz
      · rw [e]; exact hx
      · exact Int.lt_trans hx (h1 z hz)
    · split
      · exact h
      · rename_i ha hb
        refine List.pairwise_cons.mpr ⟨fun z hz => ?_, insU_lt x r h2⟩
        rcases (mem_insU x z r).mp hz with e | hz
        · rw [e]; omega
        · exact h1 z hz
theorem mem_setSort (z : Int) : ∀ ns : List Int, z ∈ setSort ns ↔ z ∈ ns
  | [] => by simp [setSort]
  | x :: r => by
    show z ∈ insU x (setSort r) ↔ _
    rw [mem_insU, mem_setSort z r, List.mem_cons]
theorem setSort_lt : ∀ ns : List Int, (setSort ns).Pairwise (· < ·)
  | [] => List.Pairwise.nil
  | x :: r => insU_lt x _ (setSort_lt r)
theorem lt_unique : ∀ {a b : List Int}, a.Pairwise (· < ·) → b.Pairwise (· < ·) → (∀ z, z ∈ a ↔ z ∈ b) → a = b
  | [], [], _, _, _ => rfl
  | [], y :: b, _, _, h => by have := (h y).mpr List.mem_cons_self; cases this
  | x :: a, [], _, _, h => by have := (h x).mp List.mem_cons_self; cases this
  | x :: a, y :: b, ha, hb, h => by
    obtain ⟨a1, a2⟩ := List.pairwise_cons.mp ha
    obtain ⟨b1, b2⟩ := List.pairwise_cons.mp hb
    have e : x = y := by
      rcases List.mem_cons.mp ((h x).mp List.mem_cons_self) with e | hx
      · exact e
      · rcases List.mem_cons.mp ((h y).mpr List.mem_cons_self) with e | hy
        · exact e.symm
        · have q1 := b1 x hx
          have q2 := a1 y hy
          omega
    subst e
    rw [lt_unique a2 b2 fun z => ?_]
    constructor
    · intro hz
      rcases List.mem_cons.mp ((h z).mp (List.mem_cons_of_mem _ hz)) with e | q
      · have := a1 z hz; omega
      · exact q
    · intro hz
      rcases List.mem_cons.mp ((h z).mpr (List.mem_cons_of_mem _ hz)) with e | q
      · have := b1 z hz; omega
      · exact q
theorem setR_len {w : World} {h : Heap} {a : Addr} {ns : List Int} {c : Nat} (R : SetR w h a (fun j => decide (j ∈ ns)) c) : c = (setSort ns).length := by
  obtain ⟨o, es, ep, t, ho, hex, hd, g, nd, hm, hb, hf, hn, hr, hl⟩ := R
  have n2 : (setSort ns).Nodup := (setSort_lt ns).imp fun h e => by omega
  have hp := (List.perm_ext_iff_of_nodup nd n2).mpr fun k => by
    rw [mem_setSort]
    have := hm k
    simp only [decide_eq_true_eq] at this
    exact this.symm
  have := hp.length_eq
  rw [List.length_map, Array.length_toList] at this
  omega

/-- ints as data -/
def intsOf : List PyData → Option (List Int)
  | [] => some []
  | .int i :: r => (intsOf r).map (i :: ·)
  | _ :: _ => none
@[simp] theorem intsOf_map : ∀ ns : List Int, intsOf (ns.map PyData.int) = some ns
  | [] => rfl
  | n :: r => by
    show (intsOf (r.map PyData.int)).map (n :: ·) = _
    rw [intsOf_map r]; rfl
theorem intsOf_eq : ∀ {ds : List PyData} {ns : List Int}, intsOf ds = some ns → ds = ns.map PyData.int
  | [], ns, h => by
    have e : some [] = some ns := h
    cases e; rfl
  | .int i :: r, ns, h => by
    have h' : (intsOf r).map (i :: ·) = some ns := h
    cases q : intsOf r with
    | none => rw [q] at h'; cases h'
    | some es =>
      rw [q] at h'
      have e : some (i :: es) = some ns := h'
      cases e
      rw [intsOf_eq q]; rfl
  | .none :: _, _, h => by cases h
  | .bool _ :: _, _, h => by cases h
  | .str _ :: _, _, h => by cases h
  | .list _ :: _, _, h => by cases h
  | .tuple _ :: _, _, h => by cases h
  | .dict _ :: _, _, h => by cases h
theorem dq_ints {F : Hp} : ∀ {ns : List Int} {xs : List V}, DqAll F xs (ns.map PyData.int) → xs = ns.map V.int
  | [], _, h => by cases h; rfl
  | n :: r, _, h => by
    rw [List.map_cons] at h
    cases h with
    | cons h1 h2 =>
      rw [dq_int h1, dq_ints h2]; rfl
def rSetI (K : PySem.W.Frag) (w : World) : List V → Hp → VK → Prop := fun xs H Q => ∃ (l : Addr) (ns : List Int), xs = [V.ref l] ∧ SqL K H l (ns.map V.int) ∧ ns.length + 1 < scanBound ∧
  ∀ a c, H a = none → c = (setSort ns).length → Q (.ref a) (upd H a (SetO w a (fun j => decide (j ∈ ns)) c))
theorem cr_setI {X : Cx} (hc : X.calm = true) : CallR X (.type "set") (rSetI X.K X.w) := by
  intro pins s σ H xs us Q I r h
  obtain ⟨l, ns, rfl, hl, hb, q⟩ := h
  rw [Vals.ref1 r]
  obtain ⟨its, rv, pl, hz⟩ := I.list hl
  refine call_set_lisI ns (I.ok.hd hc) pl.isList (by simpa using rv.ints) hb fun h' tk c R _ k => ?_
  exact ⟨.ref s.heap.objs.size, upd H s.heap.objs.size (SetO X.w s.heap.objs.size _ c), I.laid (t' := tk) k (Nat.le_refl _) (setO_new R), rfl, q _ c (I.hok.fresh (Nat.le_refl _)) (setR_len R)⟩
/-- sorted(set(xs)), ints, fewer than 64 -/
def sortsetF (f : De) : De := fun ρ B => (f ρ B).bind fun w B1 => match tview B1 w with
  | some (.list ds) => match intsOf ds with
    | some ns => if ns.length ≤ 1000 ∧ (setSort ns).length < 64 then .ok (.d (.list ((setSort ns).map .int))) B1 else .bad
    | none => .bad
  | _ => .bad
theorem sortsetF_eq (f : De) (ρ : En) (B : Bs) : sortsetF f ρ B = (f ρ B).bind fun w B1 => match tview B1 w with
  | some (.list ds) => match intsOf ds with
    | some ns => if ns.length ≤ 1000 ∧ (setSort ns).length < 64 then .ok (.d (.list ((setSort ns).map .int))) B1 else .bad
    | none => .bad
  | _ => .bad := rfl
theorem e_sortset {X : Cx} {a : Expr} {f : De} {p p2 pos pos2 : Pos} (hc : X.calm = true) (hg : Gl X "sorted") (hm : X.mg "sorted" = none) (hg2 : Gl X "set") (hm2 : X.mg "set" = none) (ha : PE X a (tE X.K f)) (hs : starEach [a] X.env = (false, eval a X.env) :: starEach [] X.env := by rfl)
    (hs2 : starEach [.Call (.Name "set" p2) [a] [] pos2] X.env = (false, eval (.Call (.Name "set" p2) [a] [] pos2) X.env) :: starEach [] X.env := by rfl) : PE X (.Call (.Name "sorted" p) [.Call (.Name "set" p2) [a] [] pos2] [] pos) (tE X.K (sortsetF f)) := by
  refine pe_imp (pe_callB (cr_sortedSet hc) hg hm (by decide +kernel) (pa_cons (pe_callTy (cr_setI hc) hg2 hm2 (by decide +kernel) (pa_cons ha pa_nil hs) (he := hs)) pa_nil hs2) (he := hs2)) fun σ H Q ⟨F, loc, ρ, B, S, R, P⟩ => ?_
  refine ⟨F, loc, ρ, B, S, R, Pst.bind P fun x B1 F1 loc1 H1 v1 e1 E1 S1 r1 P1 => ?_⟩
  cases q : tview B1 x with
  | none => rw [q] at P1; exact P1.elim
  | some d =>
    rw [q] at P1
    cases d with
    | list ds =>
      simp only at P1
      cases q2 : intsOf ds with
      | none => rw [q2] at P1; exact P1.elim
      | some ns =>
        rw [q2] at P1
        simp only at P1
        split at P1
        · rename_i hl
          obtain ⟨a, xs, rfl, h1, h2⟩ := tview_items S1 q r1
          rw [intsOf_eq q2] at h2
          rw [dq_ints h2] at h1
          refine ⟨a, ns, rfl, h1, by unfold scanBound; omega, fun p c hp ec => ⟨p, _, c, rfl, upd_same, by omega, fun ms q hms hmem hlen hq => ?_⟩⟩
          have e : ms = setSort ns := lt_unique hms (setSort_lt ns) fun z => by
            rw [hmem z, mem_setSort]; exact decide_eq_true_iff
          rw [e]
          have S2 := S1.other (o := SetO X.w p (fun j => decide (j ∈ ns)) c) (S1.freeF hp) (S1.freeL hp)
          have E2 : Ext F1 loc1 H1 F1 loc1 (upd H1 p (SetO X.w p (fun j => decide (j ∈ ns)) c)) := Ext.other Ext.refl hp
          obtain ⟨S3, E3⟩ := S2.new hq (.lst ((setSort ns).map V.int))
          exact P1 _ _ _ _ (E2.trans E3) S3 (.lst upd_same dqAll_ints)
        · exact P1.elim
    | _ => exact P1.elim
end Mini

namespace Mini
open PySem PySem.Spec PyProof.Rows L2

/-! ### keys -/
def keyD : Key → PyData
  | .inl i => .int i
  | .inr x => .str x
def keysOf : List PyData → Option (List Key)
  | [] => some []
  | .int i :: r => (keysOf r).map (.inl i :: ·)
  | .str x :: r => (keysOf r).map (.inr x :: ·)
  | _ :: _ => none
theorem keysOf_eq : ∀ {ds : List PyData} {k : List Key}, keysOf ds = some k → ds = k.map keyD
  | [], k, h => by
    have e : some [] = some k := h
    cases e; rfl
  | .int i :: r, k, h => by
    have h' : (keysOf r).map (Sum.inl i :: ·) = some k := h
    cases q : keysOf r with
    | none => rw [q] at h'; cases h'
    | some es =>
      rw [q] at h'
      have e : some (Sum.inl i :: es) = some k := h'
      cases e
      rw [keysOf_eq q]; rfl
  | .str i :: r, k, h => by
    have h' : (keysOf r).map (Sum.inr i :: ·) = some k := h
    cases q : keysOf r with
    | none => rw [q] at h'; cases h'
    | some es =>
      rw [q] at h'
      have e : some (Sum.inr i :: es) = some k := h'
      cases e
      rw [keysOf_eq q]; rfl
  | .none :: _, _, h => by cases h
  | .bool _ :: _, _, h => by cases h
  | .list _ :: _, _, h => by cases h
  | .tuple _ :: _, _, h => by cases h
  | .dict _ :: _, _, h => by cases h
theorem keysOf_ints : ∀ ns : List Int, keysOf (ns.map PyData.int) = some (ns.map Sum.inl)
  | [] => rfl
  | n :: r => by
    show (keysOf (r.map PyData.int)).map (Sum.inl n :: ·) = _
    rw [keysOf_ints r]; rfl
theorem dq_key {F : Hp} {v : V} {k : Key} (h : Dq F v (keyD k)) : v = kV k := by
  cases k with
  | inl i => exact dq_int h
  | inr x => exact dq_str h
theorem dq_key' (F : Hp) (k : Key) : Dq F (kV k) (keyD k) := by
  cases k with
  | inl i => exact .int i
  | inr x => exact .str x
theorem dq_keys {F : Hp} : ∀ {k : List Key} {xs : List V}, DqAll F xs (k.map keyD) → xs = k.map kV
  | [], _, h => by cases h; rfl
  | n :: r, _, h => by
    rw [List.map_cons] at h
    cases h with
    | cons h1 h2 => rw [dq_key h1, dq_keys h2]; rfl
theorem dq_keys' (F : Hp) : ∀ k : List Key, DqAll F (k.map kV) (k.map keyD)
  | [] => .nil
  | n :: r => .cons (dq_key' F n) (dq_keys' F r)
/-- the key that a value is -/
def tkeyOf : W → Option (List Key)
  | .d (.tuple ds) => keysOf ds
  | _ => none
theorem tkey_ok {K : PySem.W.Frag} {F : Hp} {loc : List Addr} {w : W} {v : V} {k : List Key} (h : tkeyOf w = some k) (r : RW K F loc w v) : ∃ b, v = .ref b ∧ F b = some (.tup (k.map kV)) := by
  cases w with
  | box n => cases h
  | scr n => cases h
  | d x =>
    cases x with
    | tuple ds =>
      have h' : keysOf ds = some k := h
      cases r with
      | tup h1 h2 =>
        rw [keysOf_eq h'] at h2
        rw [dq_keys h2] at h1
        exact ⟨_, rfl, h1⟩
    | _ => cases h
/-! ### what a dict holds -/
section
variable {κ : Type} [DecidableEq κ]
def valW (kvs : List (κ × W)) (k : κ) : Option W := (kvs.find? fun kv => decide (kv.1 = k)).map (·.2)
def putW (kvs : List (κ × W)) (k : κ) (v : W) : List (κ × W) :=
  if (kvs.any fun kv => decide (kv.1 = k)) = true then kvs.map (fun kv => if kv.1 = k then (kv.1, v) else kv) else kvs ++ [(k, v)]
variable {K : PySem.W.Frag} {F : Hp} {loc : List Addr}
theorem rkv_val {k : κ} : ∀ {kvs : List (κ × W)} {us : List (κ × V)}, RKV K F loc kvs us → (∀ w, valW kvs k = some w → ∃ v, valV us k = some v ∧ RW K F loc w v) ∧ (valW kvs k = none → valV us k = none)
  | _, _, .nil => ⟨fun _ e => (nomatch e), fun _ => rfl⟩
  | _, _, .cons (a := p) (b := q) ⟨h1, h2⟩ t => by
    obtain ⟨g1, g2⟩ := rkv_val (k := k) t
    by_cases e : p.1 = k
    · have e' : q.1 = k := by rw [← h1]; exact e
      have a1 : ∀ r : List (κ × W), valW (p :: r) k = some p.2 := fun r => by simp [valW, List.find?_cons, e]
      refine ⟨fun w hw => ?_, fun hn => ?_⟩
      · rw [a1] at hw; cases hw
        exact ⟨q.2, valV_pos e', h2⟩
      · rw [a1] at hn; cases hn
    · have e' : ¬ q.1 = k := by rw [← h1]; exact e
      have a1 : ∀ r : List (κ × W), valW (p :: r) k = valW r k := fun r => by simp [valW, List.find?_cons, e]
      refine ⟨fun w hw => ?_, fun hn => ?_⟩
      · rw [a1] at hw; rw [valV_neg e']; exact g1 w hw
      · rw [a1] at hn; rw [valV_neg e']; exact g2 hn
theorem rkv_any {k : κ} : ∀ {kvs : List (κ × W)} {us : List (κ × V)}, RKV K F loc kvs us → (us.any fun kv => decide (kv.1 = k)) = (kvs.any fun kv => decide (kv.1 = k))
  | _, _, .nil => rfl
  | _, _, .cons ⟨h1, h2⟩ t => by rw [List.any_cons, List.any_cons, rkv_any t, h1]
theorem rkv_map {k : κ} {w : W} {v : V} (r : RW K F loc w v) : ∀ {kvs : List (κ × W)} {us : List (κ × V)}, RKV K F loc kvs us → RKV K F loc (kvs.map (fun kv => if kv.1 = k then (kv.1, w) else kv)) (us.map (fun kv => if kv.1 = k then (kv.1, v) else kv))
  | _, _, .nil => .nil
  | _, _, .cons (a := p) (b := q) ⟨h1, h2⟩ t => by
    rw [List.map_cons, List.map_cons]
    refine .cons ?_ (rkv_map r t)
    by_cases e : p.1 = k
    · rw [if_pos e, if_pos (by rw [← h1]; exact e)]; exact ⟨h1, r⟩
    · rw [if_neg e, if_neg (by rw [← h1]; exact e)]; exact ⟨h1, h2⟩
theorem rkv_put {k : κ} {w : W} {v : V} (r : RW K F loc w v) {kvs : List (κ × W)} {us : List (κ × V)} (h : RKV K F loc kvs us) : RKV K F loc (putW kvs k w) (putK us k v) := by
  unfold putW putK
  rw [rkv_any h]
  split
  · exact rkv_map r h
  · exact paired_app h (.cons ⟨rfl, r⟩ .nil)
theorem rkv_len {kvs : List (κ × W)} {us : List (κ × V)} (h : RKV K F loc kvs us) : kvs.length = us.length := Paired.length h
end
/-- the pairs of a dict by tuples, walked or not -/
def dTof (B : Bs) : W → Option (List (List Key × W))
  | .box n => match B[n]? with
    | some (some (.dT kvs)) => some kvs
    | some (some (.lkT kvs)) => some kvs
    | _ => none
  | _ => none
theorem dTof_ok {K : PySem.W.Frag} {F : Hp} {loc : List Addr} {B : Bs} {H : Hp} (S : Sim K F loc B H) {w : W} {v : V} {kvs : List (List Key × W)} (h : dTof B w = some kvs) (r : RW K F loc w v) : ∃ a us, v = .ref a ∧ Rd H a (.dT us) ∧ RKV K F loc kvs us := by
  cases w with
  | d x => cases h
  | scr n => cases h
  | box n =>
    obtain ⟨a, rfl, ha⟩ := r
    unfold dTof at h
    dsimp only at h
    split at h
    · rename_i k2 hb
      cases h
      obtain ⟨_, o, ho, us, rfl, r⟩ := S.box n a _ ha hb
      exact ⟨a, us, rfl, .inl ho, r⟩
    · rename_i k2 hb
      cases h
      obtain ⟨_, o, ho, us, od, rfl, r⟩ := S.box n a _ ha hb
      exact ⟨a, us, rfl, .inr ⟨od, ho⟩, r⟩
    · cases h
section
variable {X : Cx} {a b c e o i : Expr} {f g h fo fi fz : De} {pos pos' apos cpos : Pos}
/-- d.get(k, z) -/
def dgetF (fo fi fz : De) : De := fun ρ B => (fo ρ B).bind fun o B1 => match dTof B1 o with
  | none => .bad
  | some _ => (fi ρ B1).bind fun k B2 => (fz ρ B2).bind fun z B3 => match dTof B3 o, tkeyOf k with
    | some kvs, some kk => .ok ((valW kvs kk).getD z) B3
    | _, _ => .bad
@[simp] theorem dgetF_eq (fo fi fz : De) (ρ : En) (B : Bs) : dgetF fo fi fz ρ B = (fo ρ B).bind fun o B1 => match dTof B1 o with
  | none => .bad
  | some _ => (fi ρ B1).bind fun k B2 => (fz ρ B2).bind fun z B3 => match dTof B3 o, tkeyOf k with
    | some kvs, some kk => .ok ((valW kvs kk).getD z) B3
    | _, _ => .bad := rfl
theorem e_dget2 (hu : X.A.units + 65 < cLine) (ho : PE X o (tE X.K fo)) (hi : PE X i (tE X.K fi)) (hz : PE X e (tE X.K fz)) (m : M2 X o "get" apos i e cpos := by exact ⟨rfl, rfl, rfl, rfl⟩) : PE X (.Call (.Attribute o "get" apos) [i, e] [] cpos) (tE X.K (dgetF fo fi fz)) := by
  refine pe_imp (pe_dget2 (by omega) ho hi hz m) fun σ H Q ⟨F, loc, ρ, B, S, R, P⟩ => ?_
  refine ⟨F, loc, ρ, B, S, R, Pst.bind P fun x B1 F1 loc1 H1 v1 e1 E1 S1 r1 P1 => ?_⟩
  cases q : dTof B1 x with
  | none => rw [q] at P1; exact P1.elim
  | some k0 =>
    rw [q] at P1
    simp only at P1
    obtain ⟨a, us, rfl, h1, _⟩ := dTof_ok S1 q r1
    refine ⟨a, rfl, .inr ⟨us, h1⟩, F1, loc1, ρ, B1, S1, R.ext E1, Pst.bind P1 fun k B2 F2 loc2 H2 v2 e2 E2 S2 r2 P2 => ?_⟩
    refine ⟨F2, loc2, ρ, B2, S2, (R.ext E1).ext E2, Pst.bind P2 fun z B3 F3 loc3 H3 v3 e3 E3 S3 r3 P3 => ?_⟩
    cases q3 : dTof B3 x with
    | none => rw [q3] at P3; exact P3.elim
    | some kvs =>
      cases q4 : tkeyOf k with
      | none => rw [q3, q4] at P3; exact P3.elim
      | some kk =>
        rw [q3, q4] at P3
        simp only at P3
        obtain ⟨a', us', ea, h3, h4⟩ := dTof_ok S3 q3 (rw_mono (E2.trans E3).ex (E2.trans E3).pre r1)
        cases ea
        obtain ⟨b, rfl, h5⟩ := tkey_ok q4 (rw_mono E3.ex E3.pre r2)
        refine ⟨valV us' kk, .inr ⟨us', kk, b, h3, rfl, S3.ex _ _ h5, rfl⟩, P3.here S3 ?_⟩
        obtain ⟨g1, g2⟩ := rkv_val (k := kk) h4
        cases q5 : valW kvs kk with
        | none => rw [g2 q5]; exact r3
        | some w =>
          obtain ⟨v, g3, g4⟩ := g1 w q5
          rw [g3]; exact g4
/-- d[k] -/
def dixF (fo fi : De) : De := fun ρ B => (fo ρ B).bind fun o B1 => (fi ρ B1).bind fun k B2 => match dTof B2 o, tkeyOf k with
    | some kvs, some kk => match valW kvs kk with
      | some w => .ok w B2
      | none => .bad
    | _, _ => .bad
@[simp] theorem dixF_eq (fo fi : De) (ρ : En) (B : Bs) : dixF fo fi ρ B = (fo ρ B).bind fun o B1 => (fi ρ B1).bind fun k B2 => match dTof B2 o, tkeyOf k with
    | some kvs, some kk => match valW kvs kk with
      | some w => .ok w B2
      | none => .bad
    | _, _ => .bad := rfl
theorem e_dix (hu : X.A.units + 65 < cLine) (ho : PE X o (tE X.K fo)) (hi : PE X i (tE X.K fi)) (hs : NoSl i := by exact fun _ _ => rfl) : PE X (.Subscript o i pos) (tE X.K (dixF fo fi)) := by
  refine pe_imp (pe_dget (by omega) ho hi hs) fun σ H Q ⟨F, loc, ρ, B, S, R, P⟩ => ?_
  refine ⟨F, loc, ρ, B, S, R, Pst.bind P fun x B1 F1 loc1 H1 v1 e1 E1 S1 r1 P1 => ?_⟩
  refine ⟨F1, loc1, ρ, B1, S1, R.ext E1, Pst.bind P1 fun k B2 F2 loc2 H2 v2 e2 E2 S2 r2 P2 => ?_⟩
  cases q3 : dTof B2 x with
  | none => rw [q3] at P2; exact P2.elim
  | some kvs =>
    cases q4 : tkeyOf k with
    | none => rw [q3, q4] at P2; exact P2.elim
    | some kk =>
      rw [q3, q4] at P2
      simp only at P2
      obtain ⟨a, us, rfl, h3, h4⟩ := dTof_ok S2 q3 (rw_mono E2.ex E2.pre r1)
      obtain ⟨b, rfl, h5⟩ := tkey_ok q4 r2
      cases q5 : valW kvs kk with
      | none => rw [q5] at P2; exact P2.elim
      | some w =>
        rw [q5] at P2
        obtain ⟨v, g3, g4⟩ := (rkv_val (k := kk) h4).1 w q5
        exact ⟨a, v, rfl, .inr ⟨us, kk, b, h3, rfl, S2.ex _ _ h5, g3.symm⟩, P2.here S2 g4⟩
/-- d[k] = e -/
def dputS (fo fi f : De) : Ds := fun ρ B => (f ρ B).bind fun w B1 => (fo ρ B1).bind fun o B2 => (fi ρ B2).bind fun k B3 => match o, tkeyOf k with
  | .box n, some kk => match B3[n]? with
    | some (some (.dT kvs)) => if kvs.length < LN then .ok (.nx, ρ) (B3.set n (some (.dT (putW kvs kk w)))) else .bad
    | _ => .bad
  | _, _ => .bad
@[simp] theorem dputS_eq (fo fi f : De) (ρ : En) (B : Bs) : dputS fo fi f ρ B = (f ρ B).bind fun w B1 => (fo ρ B1).bind fun o B2 => (fi ρ B2).bind fun k B3 => match o, tkeyOf k with
  | .box n, some kk => match B3[n]? with
    | some (some (.dT kvs)) => if kvs.length < LN then .ok (.nx, ρ) (B3.set n (some (.dT (putW kvs kk w)))) else .bad
    | _ => .bad
  | _, _ => .bad := rfl
theorem s_dput (hu : X.A.units + 65 < cLine) (he : PE X e (tE X.K f)) (ho : PE X o (tE X.K fo)) (hi : PE X i (tE X.K fi)) (hs : swapsWith e (some (.Subscript o i pos')) pos.line X.env = pure false := by rfl) : PS X (.Assign [.Subscript o i pos'] e pos) (tS X.K (dputS fo fi f)) := by
  refine ps_imp (ps_dput (by omega) ho hi he hs) fun D σ H ⟨F, loc, ρ, B, S, R, P⟩ => ?_
  refine ⟨F, loc, ρ, B, S, R, PstS.bind P fun w B1 F1 loc1 H1 v e1 E1 S1 r1 P1 => ?_⟩
  refine ⟨F1, loc1, ρ, B1, S1, R.ext E1, PstS.bind P1 fun wo B2 F2 loc2 H2 vo e2 E2 S2 r2 P2 => ?_⟩
  refine ⟨F2, loc2, ρ, B2, S2, (R.ext E1).ext E2, PstS.bind P2 fun k B3 F3 loc3 H3 vi e3 E3 S3 r3 P3 => ?_⟩
  have r1' := rw_mono (E2.trans E3).ex (E2.trans E3).pre r1
  have r2' := rw_mono E3.ex E3.pre r2
  split at P3
  · rename_i n kk hk
    obtain ⟨p, rfl, hl⟩ := r2'
    split at P3
    · rename_i kvs hb
      split at P3
      · rename_i hlen
        obtain ⟨b, rfl, h5⟩ := tkey_ok hk r3
        obtain ⟨_, u, hu, us, rfl, r⟩ := S3.box n p _ hl hb
        obtain ⟨S4, E4⟩ := S3.write (b := .dT (putW kvs kk w)) (o := .dT (putK us kk v)) hl hb ⟨_, rfl, rkv_put r1' r⟩ rfl
        exact ⟨p, _, rfl, .t hu (S3.ex _ _ h5) (by rw [← rkv_len r]; exact Nat.lt_trans hlen (by decide)), P3 F3 loc3 _ σ E4 S4 ((((R.ext E1).ext E2).ext E3).ext E4)⟩
      · exact P3.elim
    · exact P3.elim
  · exact P3.elim
end

/-! ### for k in d -/
/-- a tracked tuple is taken as frozen -/
theorem Sim.adoptTup {K : PySem.W.Frag} {F : Hp} {loc : List Addr} {B : Bs} {H : Hp} (S : Sim K F loc B H) {q : Addr} {vs : List V} (h : H q = some (.tup vs)) : ∃ F', Sim K F' loc B H ∧ Ext F loc H F' loc H ∧ F' q = some (.tup vs) := by
  cases hq : F q with
  | some u =>
    have e := S.ex q u hq
    rw [h] at e
    cases e
    exact ⟨F, S, Ext.refl, hq⟩
  | none =>
    have e : FE F (upd F q (.tup vs)) := fun c u h' => by rw [upd_ne (ne_of_none h' hq)]; exact h'
    refine ⟨upd F q (.tup vs), ⟨fun a u h' => ?_, S.len, S.nd, S.al, fun n a b h1 h2 => ?_⟩, ⟨e, List.prefix_refl _, fun a u h1 h0 h2 h3 => ⟨h1, ?_, h3⟩, fun _ _ _ h => h⟩, upd_same⟩
    · by_cases hb : a = q
      · subst hb; rw [upd_same] at h'; cases h'; exact h
      · rw [upd_ne hb] at h'; exact S.ex a u h'
    · obtain ⟨g1, u, g2, g3⟩ := S.box n a b h1 h2
      have hb : a ≠ q := fun z => by
        rw [z, h] at g2
        cases g2
        exact rbx_notup g3 _ rfl
      exact ⟨by rw [upd_ne hb]; exact g1, u, g2, rbx_mono e (List.prefix_refl _) g3⟩
    · have hb : a ≠ q := fun z => by
        rw [z, h] at h1
        cases h1
        exact h0 _ rfl
      rw [upd_ne hb]; exact h2
def keyW (p : List Key × W) : W := .d (.tuple (p.1.map keyD))
theorem fol_keysT {K : PySem.W.Frag} {F : Hp} {loc : List Addr} {d : Addr} {od : Obj} {us : List (List Key × V)} {kvs : List (List Key × W)} (h : ∀ (i : Nat) (p : List Key × W), kvs[i]? = some p → ∃ v, us[i]? = some (p.1, v)) (hlen : us.length = kvs.length) :
    ∀ (i : Nat) (F1 : Hp) (loc1 : List Addr) (B1 : Bs) (H1 : Hp), FE F F1 → loc <+: loc1 → Sim K F1 loc1 B1 H1 → H1 d = some (.frz od (.dT us)) →
  (∀ w, (kvs.map keyW)[i]? = some w → (Itkt d od us).go i H1 ∧ ∀ x H2, (Itkt d od us).yld i H1 x H2 → ∃ F2, Ext F1 loc1 H1 F2 loc1 H2 ∧ Sim K F2 loc1 B1 H2 ∧ RW K F2 loc1 w x) ∧ ((kvs.map keyW).length ≤ i → (Itkt d od us).stop i H1) := by
  intro i F1 loc1 B1 H1 e pr S hd
  refine ⟨fun w hw => ?_, fun hi => ⟨hd, by rw [hlen]; rw [List.length_map] at hi; exact hi⟩⟩
  rw [List.getElem?_map] at hw
  cases q : kvs[i]? with
  | none => rw [q] at hw; cases hw
  | some p =>
    rw [q] at hw
    have ew : some (keyW p) = some w := hw
    cases ew
    obtain ⟨v, hv⟩ := h i p q
    refine ⟨⟨hd, (List.getElem?_eq_some_iff.mp hv).1⟩, fun x H2 hy => ?_⟩
    obtain ⟨rfl, k, v', b, h1, rfl, h2⟩ := hy
    rw [hv] at h1
    cases h1
    obtain ⟨F2, S2, E2, h3⟩ := S.adoptTup h2
    exact ⟨F2, E2, S2, .tup h3 (dq_keys' F2 _)⟩
def unlk (n : Nat) (o : Out (Fl × En)) (kvs : List (List Key × W)) : Out (Fl × En) := o.bind fun p B => .ok p (B.set n (some (.dT kvs)))
@[simp] theorem unlk_ok (n : Nat) (p : Fl × En) (B : Bs) (kvs : List (List Key × W)) : unlk n (.ok p B) kvs = .ok p (B.set n (some (.dT kvs))) := rfl
/-- for x in d: the dict stands in slot i -/
def forKS (i : Nat) (tg : Tg) (body : Ds) : Ds := fun ρ B => match ρ[i]? with
  | some (some (.box n)) => match B[n]? with
    | some (some (.dT kvs)) => unlk n ((forGo tg body (kvs.map keyW) ρ (B.set n (some (.lkT kvs)))).bind fun p B' => match B'[n]? with
      | some (some (.lkT kvs')) => .ok p B'
      | _ => .bad) kvs
    | _ => .bad
  | _ => .bad

theorem Sim.rewrite {K : PySem.W.Frag} {F : Hp} {loc : List Addr} {B : Bs} {H : Hp} (S : Sim K F loc B H) {n : Nat} {a : Addr} {b0 b : Bx} {o : HO} (hl : loc[n]? = some a) (h0 : B[n]? = some (some b0)) (r : RBx K F loc b o) : Sim K F loc (B.set n (some b)) (upd H a o) := by
  obtain ⟨gF, u, gH, gR⟩ := S.box n a b0 hl h0
  have hm : a ∈ loc := List.mem_of_getElem? hl
  refine ⟨fun c u h => ?_, by rw [List.length_set]; exact S.len, S.nd, fun c hc => ?_, fun m c b' h1 h2 => ?_⟩
  · have hb : c ≠ a := ne_of_none h gF
    rw [upd_ne hb]; exact S.ex c u h
  · by_cases hb : c = a
    · subst hb; rw [upd_same]; intro z; cases z
    · rw [upd_ne hb]; exact S.al c hc
  · by_cases hmn : m = n
    · subst hmn
      rw [hl] at h1; cases h1
      rw [List.getElem?_set_self (List.getElem?_eq_some_iff.mp h0).1] at h2
      cases h2
      exact ⟨gF, o, upd_same, r⟩
    · rw [List.getElem?_set_ne (Ne.symm hmn)] at h2
      obtain ⟨g1, u, g2, g3⟩ := S.box m c b' h1 h2
      have hb : c ≠ a := fun z => hmn (nodup_get S.nd h1 (by rw [z]; exact hl))
      exact ⟨g1, u, by rw [upd_ne hb]; exact g2, g3⟩
/-- from the locked state back -/
theorem unlock_ends {K : PySem.W.Frag} {F : Hp} {loc : List Addr} {B : Bs} {H : Hp} {n : Nat} {a : Addr} {kvs : List (List Key × W)} {us : List (List Key × V)} {od : Obj} {D : Ends} (S : Sim K F loc B H) (hl : loc[n]? = some a) (hB : B[n]? = some (some (.dT kvs))) (hH : H a = some (.dT us)) (hr : RKV K F loc kvs us) {o : Out (Fl × En)}
    (P : PstS K F loc H (unlk n (o.bind fun p B' => match B'[n]? with
      | some (some (.lkT _)) => .ok p B'
      | _ => .bad) kvs) D) :
    PstS K F loc (upd H a (.frz od (.dT us))) o ⟨fun σ' H' => H' a = some (.frz od (.dT us)) ∧ D.nx σ' (upd H' a (.dT us)), fun v H' => H' a = some (.frz od (.dT us)) ∧ D.rt v (upd H' a (.dT us)), fun σ' H' => H' a = some (.frz od (.dT us)) ∧ D.bk σ' (upd H' a (.dT us)), fun σ' H' => H' a = some (.frz od (.dT us)) ∧ D.ct σ' (upd H' a (.dT us))⟩ := by
  have hm : a ∈ loc := List.mem_of_getElem? hl
  cases o with
  | bad => exact P
  | exc x B' => exact P
  | ok p B' =>
    have P' : PstS K F loc H (unlk n (match B'[n]? with
      | some (some (.lkT _)) => .ok p B'
      | _ => .bad) kvs) D := P
    split at P'
    case h_2 => exact P'.elim
    rename_i kvs' hb
    have step : ∀ F' loc' H', Ext F loc (upd H a (.frz od (.dT us))) F' loc' H' → Sim K F' loc' B' H' → H' a = some (.frz od (.dT us)) ∧ Ext F loc H F' loc' (upd H' a (.dT us)) ∧ Sim K F' loc' (B'.set n (some (.dT kvs))) (upd H' a (.dT us)) := by
      intro F' loc' H' E S'
      refine ⟨E.lk a od _ upd_same, ⟨E.ex, E.pre, fun c o h1 h0 h2 h3 => ?_, fun c od' u h => ?_⟩, S'.rewrite (pre_get E.pre hl) hb ⟨us, rfl, rkv_mono E.ex E.pre hr⟩⟩
      · have hc : c ≠ a := fun z => h3 (by rw [z]; exact hm)
        obtain ⟨g1, g2, g3⟩ := E.fr c o (by rw [upd_ne hc]; exact h1) h0 h2 h3
        exact ⟨by rw [upd_ne hc]; exact g1, g2, g3⟩
      · have hc : c ≠ a := fun z => by rw [z, hH] at h; cases h
        rw [upd_ne hc]
        exact E.lk c od' u (by rw [upd_ne hc]; exact h)
    obtain ⟨fl, ρ⟩ := p
    cases fl with
    | nx => intro F' loc' H' σ' E S' R'; obtain ⟨q1, q2, q3⟩ := step F' loc' H' E S'; exact ⟨q1, P' F' loc' _ σ' q2 q3 R'⟩
    | bk => intro F' loc' H' σ' E S' R'; obtain ⟨q1, q2, q3⟩ := step F' loc' H' E S'; exact ⟨q1, P' F' loc' _ σ' q2 q3 R'⟩
    | ct => intro F' loc' H' σ' E S' R'; obtain ⟨q1, q2, q3⟩ := step F' loc' H' E S'; exact ⟨q1, P' F' loc' _ σ' q2 q3 R'⟩
    | rt w => intro F' loc' H' v E S' R'; obtain ⟨q1, q2, q3⟩ := step F' loc' H' E S'; exact ⟨q1, P' F' loc' _ v q2 q3 R'⟩
theorem rkv_get {K : PySem.W.Frag} {F : Hp} {loc : List Addr} {κ : Type} : ∀ {kvs : List (κ × W)} {us : List (κ × V)}, RKV K F loc kvs us → ∀ (i : Nat) (p : κ × W), kvs[i]? = some p → ∃ v, us[i]? = some (p.1, v)
  | _, _, .nil, i, p, h => by simp at h
  | _, _, .cons (b := q) ⟨h1, _⟩ _, 0, p, h => by simp at h; subst h; exact ⟨q.2, by rw [h1]; rfl⟩
  | _, _, .cons _ t, i + 1, p, h => by
    obtain ⟨v, hv⟩ := rkv_get t i p (by simpa using h)
    exact ⟨v, by simpa using hv⟩
section
variable {X : Cx} {pos pn : Pos} {x : Str} {i : Nat} {body : List Stmt} {fs : Ds}
theorem s_forK {tge : Expr} {gr : TG} {tg : Tg} {js : List Nat} (hp : PassesOwn (model X.prog X.w) X.A X.env X.xe) (hc : X.calm = true) (hN : X.N[i]? = some x) (hv : Vis X.env.scope x) (hg : PG X tge gr) (ht : TgOk X.K gr js tg) (hb : PSs X body (tS X.K fs))
    (hd : (x == ("__debug__" : Str)) = false := by decide) (hcd : (x == ("__classdict__" : Str)) = false := by decide)
    (hs : ∀ y, foldedSetIterable (.Name x pn) X.env y = pure y := by intro _; rfl) : PS X (.For tge (.Name x pn) body [] pos) (tS X.K (forKS i tg fs)) := by
  refine ps_imp (ps_lock (ps_for hp hc (pi_keys (pe_var hN hv hd hcd)) hg hb hs)) fun D σ H ⟨F, loc, ρ, B, S, R, P⟩ => ?_
  unfold forKS at P
  split at P
  case h_2 => exact P.elim
  rename_i n hρ
  split at P
  case h_2 => exact P.elim
  rename_i kvs hB
  obtain ⟨v, hσ, rv⟩ := R.get i _ hρ
  obtain ⟨a, rfl, hl⟩ := rv
  obtain ⟨_, o, hH, us, rfl, hr⟩ := S.box n a _ hl hB
  refine ⟨a, .dT us, hH, trivial, fun od => ?_⟩
  have P2 := unlock_ends (od := od) S hl hB hH hr P
  have SL : Sim X.K F loc (B.set n (some (.lkT kvs))) (upd H a (.frz od (.dT us))) := S.rewrite hl hB ⟨us, od, rfl, hr⟩
  refine ⟨.ref a, hσ, a, od, rfl, .inr ⟨us, upd_same, ?_⟩⟩
  have fol := fol_keysT (K := X.K) (F := F) (loc := loc) (d := a) (od := od) (rkv_get hr) (rkv_len hr).symm
  generalize hit : kvs.map keyW = items at P2 fol
  let Inv' : Nat → L2.St → Hp → Prop := fun i σ3 H3 => ∃ F3 loc3 ρ3 B3, Ext F loc (upd H a (.frz od (.dT us))) F3 loc3 H3 ∧ Sim X.K F3 loc3 B3 H3 ∧ EnvR X.K F3 loc3 ρ3 σ3 ∧ i ≤ items.length ∧ PstS X.K F3 loc3 H3 (forGo tg fs (items.drop i) ρ3 B3) ⟨fun σ' H' => H' a = some (.frz od (.dT us)) ∧ D.nx σ' (upd H' a (.dT us)), fun v H' => H' a = some (.frz od (.dT us)) ∧ D.rt v (upd H' a (.dT us)), fun σ' H' => H' a = some (.frz od (.dT us)) ∧ D.bk σ' (upd H' a (.dT us)), fun σ' H' => H' a = some (.frz od (.dT us)) ∧ D.ct σ' (upd H' a (.dT us))⟩
  refine ⟨fun i m σ3 H3 => m = items.length - i ∧ Inv' i σ3 H3, ⟨items.length, by simp, F, loc, ρ, _, Ext.refl, SL, R, Nat.zero_le _, by rw [List.drop_zero]; exact P2⟩, ?_⟩
  rintro i m σ3 H3 ⟨rfl, F3, loc3, ρ3, B3, E3, S3, R3, li, P3⟩
  obtain ⟨fitem, fstop⟩ := fol i F3 loc3 B3 H3 E3.ex E3.pre S3 (E3.lk a od _ upd_same)
  by_cases hi : i < items.length
  · obtain ⟨w, hw⟩ : ∃ w, items[i]? = some w := ⟨items[i], List.getElem?_eq_getElem hi⟩
    obtain ⟨go, hy⟩ := fitem w hw
    refine .inr ⟨go, Inv' (i + 1), fun σ' H' q => ⟨items.length - (i + 1), by omega, rfl, q⟩, fun x H4 yl => ?_⟩
    obtain ⟨F4, E4, S4, r4⟩ := hy x H4 yl
    have hdrop : items.drop i = w :: items.drop (i + 1) := by
      rw [List.drop_eq_getElem_cons hi]
      congr 1
      exact (List.getElem?_eq_some_iff.mp hw).2
    rw [hdrop, forGo_cons] at P3
    have P4 := P3.ext E4
    cases q : tg w ρ3 with
    | none => rw [q] at P4; exact P4.elim
    | some ρ4 =>
      rw [q] at P4
      simp only at P4
      refine ht F4 loc3 B3 H4 ρ3 ρ4 σ3 w x _ S4 (R3.ext E4) r4 q fun σ5 R5 _ => ⟨F4, loc3, ρ4, B3, S4, R5, ?_⟩
      cases q2 : fs ρ4 B3 with
      | bad => rw [q2] at P4; exact P4.elim
      | exc x B' => rw [q2] at P4; exact P4.elim
      | ok p B5 =>
        obtain ⟨fl, ρ5⟩ := p
        rw [q2] at P4
        cases fl with
        | nx => exact fun F6 loc6 H6 σ6 E6 S6 R6 => ⟨F6, loc6, ρ5, B5, E3.trans (E4.trans E6), S6, R6, by omega, PstS.ext (o := forGo tg fs (items.drop (i + 1)) ρ5 B5) P4 E6⟩
        | ct => exact fun F6 loc6 H6 σ6 E6 S6 R6 => ⟨F6, loc6, ρ5, B5, E3.trans (E4.trans E6), S6, R6, by omega, PstS.ext (o := forGo tg fs (items.drop (i + 1)) ρ5 B5) P4 E6⟩
        | bk => exact P4
        | rt w => exact P4
  · have hi' : i = items.length := by omega
    subst hi'
    rw [List.drop_length, forGo_nil] at P3
    exact .inl ⟨fstop (Nat.le_refl _), P3 F3 loc3 H3 σ3 Ext.refl S3 R3⟩
end
end Mini

namespace Mini
open PySem PySem.Spec PyProof.Rows L2

def lc2Go (tg : Tg) (ct : Dt) (it1 : Di) (vs1 : List Nat) (tg1 : Tg) (ct1 : Dt) (ef : De) (ρ : En) : List W → Bs → Out (List W)
  | [], B => .ok [] B
  | w :: r, B => match tg w ρ with
    | none => .bad
    | some ρ1 => (ct ρ1 B).bind fun b B1 => if b = true then (it1 ρ1 B1).bind fun items1 B2 => if items1.length ≤ 1000 then (lcGo tg1 ct1 ef (wipeE ρ1 vs1) items1 B2).bind fun ys B3 => (lc2Go tg ct it1 vs1 tg1 ct1 ef ρ r B3).bind fun zs B4 => .ok (ys ++ zs) B4
      else .bad
      else lc2Go tg ct it1 vs1 tg1 ct1 ef ρ r B1
theorem lc2Go_nil (tg : Tg) (ct : Dt) (it1 : Di) (vs1 : List Nat) (tg1 : Tg) (ct1 : Dt) (ef : De) (ρ : En) (B : Bs) : lc2Go tg ct it1 vs1 tg1 ct1 ef ρ [] B = .ok [] B := rfl
theorem lc2Go_cons (tg : Tg) (ct : Dt) (it1 : Di) (vs1 : List Nat) (tg1 : Tg) (ct1 : Dt) (ef : De) (ρ : En) (w : W) (r : List W) (B : Bs) : lc2Go tg ct it1 vs1 tg1 ct1 ef ρ (w :: r) B = match tg w ρ with
    | none => .bad
    | some ρ1 => (ct ρ1 B).bind fun b B1 => if b = true then (it1 ρ1 B1).bind fun items1 B2 => if items1.length ≤ 1000 then (lcGo tg1 ct1 ef (wipeE ρ1 vs1) items1 B2).bind fun ys B3 => (lc2Go tg ct it1 vs1 tg1 ct1 ef ρ r B3).bind fun zs B4 => .ok (ys ++ zs) B4
      else .bad
      else lc2Go tg ct it1 vs1 tg1 ct1 ef ρ r B1 := rfl
/-- [e for x in xs if t for y in ys if u]: plain data -/
def lc2F (it : Di) (vs : List Nat) (tg : Tg) (ct : Dt) (it1 : Di) (vs1 : List Nat) (tg1 : Tg) (ct1 : Dt) (ef : De) : De := fun ρ B => (it ρ B).bind fun items B1 => if items.length ≤ 1000 then (lc2Go tg ct it1 vs1 tg1 ct1 ef (wipeE ρ vs) items B1).bind fun ws B2 => match datas ws with
  | some ds => .ok (.d (.list ds)) B2
  | none => .bad
  else .bad
theorem lc2_read {K : PySem.W.Frag} {it it1 : Di} {vs vs1 js js1 : List Nat} {tg tg1 : Tg} {ct ct1 : Dt} {ef : De} {g g1 : TG} (hg : TgOk K g js tg) (hj : ∀ j ∈ js, j ∈ vs) (hg1 : TgOk K g1 js1 tg1) (hj1 : ∀ j ∈ js1, j ∈ vs1) {fin : List W → Bs → Out W}
    (hfin : ∀ (F1 : Hp) (loc1 : List Addr) (H1 : Hp) (F2 : Hp) (loc2 : List Addr) (H2 : Hp) (D : Addr) (acc : List V) (ws : List W) (B2 : Bs) (Q : VK), H1 D = none → Ext F1 loc1 H1 F2 loc2 H2 → Sim K F2 loc2 B2 H2 → F2 D = none → D ∉ loc2 → H2 D = some (.lst acc) → RWs K F2 loc2 ws acc →
      Pst K (RW K) F1 loc1 H1 (fin ws B2) Q → Q (.ref D) H2) :
    ∀ σ H Q, tE K (fun ρ B => (it ρ B).bind fun items B1 => if items.length ≤ 1000 then (lc2Go tg ct it1 vs1 tg1 ct1 ef (wipeE ρ vs) items B1).bind fin else .bad) σ H Q → tLc2 (tI K it) g (tT K ct) (tI K it1) g1 (tT K ct1) (tE K ef) vs vs1 σ H Q := by
  intro σ H Q ⟨F, loc, ρ, B, S, R, P⟩
  refine ⟨F, loc, ρ, B, S, R, Pst.bind P fun items B1 F1 loc1 H1 J e1 E1 S1 fol P1 => ?_⟩
  by_cases hl : items.length ≤ 1000
  case neg => rw [if_neg hl] at P1; exact P1.elim
  rw [if_pos hl] at P1
  intro D hD
  let Inv' : Nat → Hp → Prop := fun i H3 => ∃ F3 loc3 B3 acc ws, Ext F1 loc1 H1 F3 loc3 H3 ∧ Sim K F3 loc3 B3 H3 ∧ F3 D = none ∧ D ∉ loc3 ∧ H3 D = some (.lst acc) ∧ RWs K F3 loc3 ws acc ∧ acc.length ≤ 1000 * i ∧ i ≤ items.length ∧
    Pst K (RW K) F1 loc1 H1 ((lc2Go tg ct it1 vs1 tg1 ct1 ef (wipeE ρ vs) (items.drop i) B3).bind fun ys B4 => fin (ws ++ ys) B4) Q
  refine ⟨fun i m H3 => m = items.length - i ∧ Inv' i H3, ⟨items.length, by simp, F1, loc1, B1, [], [], Ext.other Ext.refl hD, S1.other (S1.freeF hD) (S1.freeL hD), S1.freeF hD, S1.freeL hD, upd_same, .nil, Nat.le_refl _, Nat.zero_le _, ?_⟩, ?_⟩
  · rw [List.drop_zero]
    exact P1
  rintro i m H3 ⟨rfl, F3, loc3, B3, acc, ws, E3, S3, dF, dL, dH, rw3, la, li, P3⟩
  obtain ⟨fitem, fstop⟩ := fol i F3 loc3 B3 H3 E3.ex E3.pre S3
  by_cases hi : i < items.length
  · obtain ⟨w, hw⟩ : ∃ w, items[i]? = some w := ⟨items[i], List.getElem?_eq_getElem hi⟩
    obtain ⟨go, hy⟩ := fitem w hw
    refine .inr ⟨go, Inv' (i + 1), fun H' q => ⟨items.length - (i + 1), by omega, rfl, q⟩, fun x H4 yl => ?_⟩
    obtain ⟨F4, E4, S4, r4⟩ := hy x H4 yl
    have hdrop : items.drop i = w :: items.drop (i + 1) := by
      rw [List.drop_eq_getElem_cons hi]
      congr 1
      exact (List.getElem?_eq_some_iff.mp hw).2
    rw [hdrop, lc2Go_cons] at P3
    obtain ⟨dH4, dF4, dL4⟩ := E4.fr D _ dH (fun _ z => nomatch z) dF dL
    have R4 : EnvR K F4 loc3 (wipeE ρ vs) (L2.wipe σ vs) := (((R.ext E1).ext E3).ext E4).wipe vs
    cases ht : tg w (wipeE ρ vs) with
    | none => rw [ht] at P3; exact P3.elim
    | some ρ1 =>
      rw [ht] at P3
      simp only [bind_assoc] at P3
      refine hg F4 loc3 B3 H4 (wipeE ρ vs) ρ1 (L2.wipe σ vs) w x _ S4 R4 r4 ht fun σ2 R5 sb => ⟨sb.wipe hj, ?_⟩
      refine ⟨F4, loc3, ρ1, B3, S4, R5, Pst.bindAt P3 fun k B5 F5 loc5 H5 k' e5 E5 S5 r5 P5 => ?_⟩
      rw [show k' = k from r5]
      obtain ⟨dH5, dF5, dL5⟩ := E5.fr D _ dH4 (fun _ z => nomatch z) dF4 dL4
      cases k with
      | false =>
        rw [if_neg Bool.false_ne_true]
        rw [if_neg Bool.false_ne_true] at P5
        exact ⟨F5, loc5, B5, acc, ws, E3.trans (E4.trans E5), S5, dF5, dL5, dH5, rws_mono (E4.trans E5).ex (E4.trans E5).pre rw3, by omega, by omega, P5⟩
      | true =>
        rw [if_pos rfl]
        rw [if_pos rfl] at P5
        simp only [bind_assoc] at P5
        refine ⟨F5, loc5, ρ1, B5, S5, R5.ext E5, Pst.bindAt P5 fun items1 B6 F6 loc6 H6 J1 e6 E6 S6 fol1 P6 => ?_⟩
        obtain ⟨dH6, dF6, dL6⟩ := E6.fr D _ dH5 (fun _ z => nomatch z) dF5 dL5
        by_cases hl1 : items1.length ≤ 1000
        case neg => rw [if_neg hl1] at P6; exact P6.elim
        rw [if_pos hl1] at P6
        simp only [bind_assoc, Out.bind_ok] at P6
        -- the inner loop
        let Inw : Nat → Hp → Prop := fun j H7 => ∃ F7 loc7 B7 acc7 ws7, Ext F1 loc1 H1 F7 loc7 H7 ∧ Ext F6 loc6 H6 F7 loc7 (upd H7 D (.lst acc)) ∧ Sim K F7 loc7 B7 H7 ∧ F7 D = none ∧ D ∉ loc7 ∧ H7 D = some (.lst acc7) ∧ RWs K F7 loc7 ws7 acc7 ∧ acc7.length ≤ 1000 * i + j ∧ j ≤ items1.length ∧
          Pst K (RW K) F1 loc1 H1 ((lcGo tg1 ct1 ef (wipeE ρ1 vs1) (items1.drop j) B7).bind fun ys B8 => (lc2Go tg ct it1 vs1 tg1 ct1 ef (wipeE ρ vs) (items.drop (i + 1)) B8).bind fun zs B9 => fin (ws7 ++ (ys ++ zs)) B9) Q
        have E13 : Ext F1 loc1 H1 F6 loc6 H6 := E3.trans (E4.trans (E5.trans E6))
        have hsame : upd H6 D (.lst acc) = H6 := by
          funext c
          by_cases hc : c = D
          · rw [hc, upd_same, dH6]
          · rw [upd_ne hc]
        refine ⟨fun j m H7 => m = items1.length - j ∧ Inw j H7, ⟨items1.length, by simp, F6, loc6, B6, acc, ws, E13, by rw [hsame]; exact Ext.refl, S6, dF6, dL6, dH6, rws_mono (E4.trans (E5.trans E6)).ex (E4.trans (E5.trans E6)).pre rw3, by omega, Nat.zero_le _, by rw [List.drop_zero]; exact P6⟩, ?_⟩
        rintro j m H7 ⟨rfl, F7, loc7, B7, acc7, ws7, E7, X7, S7, dF7, dL7, dH7, rw7, la7, lj, P7⟩
        obtain ⟨fitem1, fstop1⟩ := fol1 j F7 loc7 B7 H7 X7.ex X7.pre S7
        by_cases hj' : j < items1.length
        · obtain ⟨w1, hw1⟩ : ∃ w, items1[j]? = some w := ⟨items1[j], List.getElem?_eq_getElem hj'⟩
          obtain ⟨go1, hy1⟩ := fitem1 w1 hw1
          refine .inr ⟨go1, Inw (j + 1), fun H' q => ⟨items1.length - (j + 1), by omega, rfl, q⟩, fun x1 H8 yl1 => ?_⟩
          obtain ⟨F8, E8, S8, r8⟩ := hy1 x1 H8 yl1
          have hdrop1 : items1.drop j = w1 :: items1.drop (j + 1) := by
            rw [List.drop_eq_getElem_cons hj']
            congr 1
            exact (List.getElem?_eq_some_iff.mp hw1).2
          rw [hdrop1, lcGo_cons] at P7
          obtain ⟨dH8, dF8, dL8⟩ := E8.fr D _ dH7 (fun _ z => nomatch z) dF7 dL7
          have R8 : EnvR K F8 loc7 (wipeE ρ1 vs1) (L2.wipe σ2 vs1) := ((((R5.ext E5).ext E6).mono X7.ex X7.pre).ext E8).wipe vs1
          have XE : ∀ {F9 : Hp} {loc9 : List Addr} {H9 : Hp}, Ext F7 loc7 H7 F9 loc9 H9 → H9 D = some (.lst acc7) → F9 D = none → D ∉ loc9 → Ext F6 loc6 H6 F9 loc9 (upd H9 D (.lst acc)) := fun {F9 loc9 H9} E9 q1 q2 q3 => by
            refine ⟨X7.ex.trans E9.ex, X7.pre.trans E9.pre, fun c o h1 h0 h2 h3 => ?_, fun c od u h => ?_⟩
            · by_cases hc : c = D
              · subst hc
                rw [dH6] at h1
                cases h1
                exact ⟨upd_same, q2, q3⟩
              · obtain ⟨g1, g2, g3⟩ := X7.fr c o h1 h0 h2 h3
                rw [upd_ne hc] at g1
                obtain ⟨k1, k2, k3⟩ := E9.fr c o g1 h0 g2 g3
                exact ⟨by rw [upd_ne hc]; exact k1, k2, k3⟩
            · have hc : c ≠ D := fun z => by rw [z, dH6] at h; cases h
              have g1 := X7.lk c od u h
              rw [upd_ne hc] at g1
              rw [upd_ne hc]
              exact E9.lk c od u g1
          cases ht1 : tg1 w1 (wipeE ρ1 vs1) with
          | none => rw [ht1] at P7; exact P7.elim
          | some ρ2 =>
            rw [ht1] at P7
            simp only [bind_assoc] at P7
            refine hg1 F8 loc7 B7 H8 (wipeE ρ1 vs1) ρ2 (L2.wipe σ2 vs1) w1 x1 _ S8 R8 r8 ht1 fun σ3 R9 sb1 => ⟨sb1.wipe hj1, ?_⟩
            refine ⟨F8, loc7, ρ2, B7, S8, R9, Pst.bindAt P7 fun k1 B9 F9 loc9 H9 k1' e9 E9 S9 r9 P9 => ?_⟩
            rw [show k1' = k1 from r9]
            obtain ⟨dH9, dF9, dL9⟩ := E9.fr D _ dH8 (fun _ z => nomatch z) dF8 dL8
            cases k1 with
            | false =>
              rw [if_neg Bool.false_ne_true]
              rw [if_neg Bool.false_ne_true] at P9
              exact ⟨F9, loc9, B9, acc7, ws7, E7.trans (E8.trans E9), XE (E8.trans E9) dH9 dF9 dL9, S9, dF9, dL9, dH9, rws_mono (E8.trans E9).ex (E8.trans E9).pre rw7, by omega, by omega, P9⟩
            | true =>
              rw [if_pos rfl]
              rw [if_pos rfl] at P9
              simp only [bind_assoc] at P9
              refine ⟨F9, loc9, ρ2, B9, S9, R9.ext E9, Pst.bindAt P9 fun y B10 F10 loc10 H10 v e10 E10 S10 r10 P10 => ?_⟩
              obtain ⟨dH10, dF10, dL10⟩ := E10.fr D _ dH9 (fun _ z => nomatch z) dF9 dL9
              have EE := E8.trans (E9.trans E10)
              refine ⟨acc7, dH10, by rw [sizeLine_eq]; omega, F10, loc10, B10, acc7 ++ [v], ws7 ++ [y], Ext.other (E7.trans EE) hD, ?_, S10.other dF10 dL10, dF10, dL10, upd_same, paired_app (rws_mono EE.ex EE.pre rw7) (.cons r10 .nil), by rw [List.length_append]; simp; omega, by omega, ?_⟩
              · rw [upd_upd]
                exact XE EE dH10 dF10 dL10
              · simp only [Out.bind_ok] at P10
                simp only [List.append_assoc, List.singleton_append]
                simp only [List.cons_append] at P10
                exact P10
        · have hj2 : j = items1.length := by omega
          subst hj2
          rw [List.drop_length, lcGo_nil, Out.bind_ok] at P7
          refine .inl ⟨fstop1 (Nat.le_refl _), F7, loc7, B7, acc7, ws7, E7, S7, dF7, dL7, dH7, rw7, by omega, by omega, ?_⟩
          simp only [List.nil_append] at P7
          exact P7
  · have hi' : i = items.length := by omega
    subst hi'
    rw [List.drop_length, lc2Go_nil, Out.bind_ok, List.append_nil] at P3
    exact .inl ⟨fstop (Nat.le_refl _), hfin F1 loc1 H1 F3 loc3 H3 D acc ws B3 Q hD E3 S3 dF dL dH rw3 P3⟩
section
variable {X : Cx} {it it1 : Di} {own : List (Str × Nat)} {js js1 vs1 : List Nat} {tg tg1 : Tg} {ct ct1 : Dt} {ef : De} {g g1 : TG} {elt tge iter tge1 iter1 : Expr} {ifs ifs1 : List Expr} {scope : Scope} {pos spos : Pos}
theorem e_lc2 (hc : X.calm = true) (hN : X.N.Nodup) (hi : PI X tge iter (tI X.K it)) (ok : BlkOk X.N X.env.scope scope own) (htg : TgOk X.K g js tg) (hj : ∀ j ∈ js, j ∈ own.map (·.2)) (htg1 : TgOk X.K g1 js1 tg1) (hj1 : ∀ j ∈ js1, j ∈ vs1) (hv : ∀ i ∈ vs1, i ∈ own.map (·.2))
    (hg : ∀ (s : Shared) (H : Hp) (C : Addr) (cl : List (Str × Addr)) (fp : List Addr), PG (X.blk s H scope (compEnvC scope cl C X.env) fp) tge g)
    (ht : ∀ (s : Shared) (H : Hp) (C : Addr) (cl : List (Str × Addr)) (fp : List Addr), PTs (X.blk s H scope (compEnvC scope cl C X.env) fp) ifs (tT X.K ct))
    (hi1 : ∀ (s : Shared) (H : Hp) (C : Addr) (cl : List (Str × Addr)) (fp : List Addr), PI (X.blk s H scope (compEnvC scope cl C X.env) fp) tge1 iter1 (tI X.K it1))
    (hg1 : ∀ (s : Shared) (H : Hp) (C : Addr) (cl : List (Str × Addr)) (fp : List Addr), PG (X.blk s H scope (compEnvC scope cl C X.env) fp) tge1 g1)
    (ht1 : ∀ (s : Shared) (H : Hp) (C : Addr) (cl : List (Str × Addr)) (fp : List Addr), PTs (X.blk s H scope (compEnvC scope cl C X.env) fp) ifs1 (tT X.K ct1))
    (he : ∀ (s : Shared) (H : Hp) (C : Addr) (cl : List (Str × Addr)) (fp : List Addr), PE (X.blk s H scope (compEnvC scope cl C X.env) fp) elt (tE X.K ef))
    (hs : ∀ x, foldedSetIterable iter X.env x = pure x := by intro _; rfl) (hs1 : ∀ env x, foldedSetIterable iter1 env x = pure x := by intro _ _; rfl) :
    PE X (.ListComp elt [⟨tge, iter, ifs, 0⟩, ⟨tge1, iter1, ifs1, 0⟩] scope pos) (tE X.K (lc2F it (own.map (·.2)) tg ct it1 vs1 tg1 ct1 ef)) :=
  pe_imp (pe_lc2 hc hN hi ok hv hg ht hi1 hg1 ht1 he hs hs1) (lc2_read htg hj htg1 hj1 fin_data)
end
end Mini

namespace Mini
open PySem PySem.Spec PyProof.Rows L2

/-! ### lists of things -/
section
variable {α : Type}
def eL (enc : α → PyData) (l : List α) : PyData := .list (l.map enc)
def eT (enc : α → PyData) (l : List α) : PyData := .tuple (l.map enc)
def nI (n : Nat) : PyData := .int (n : Int)
abbrev iL (l : List Int) : PyData := eL PyData.int l
abbrev nL (l : List Nat) : PyData := eL nI l
abbrev iLL (l : List (List Int)) : PyData := eL iL l
/-- layable, of depth at most k -/
def Sh (k : Nat) (d : PyData) : Prop := d.canLay0 = true ∧ d.depth ≤ k
theorem Sh.mono {j k : Nat} {d : PyData} (h : Sh j d) (e : j ≤ k) : Sh k d := ⟨h.1, Nat.le_trans h.2 e⟩
theorem sh_int (i : Int) : Sh 0 (.int i) := ⟨by simp [PyData.canLay0], by simp [PyData.depth]⟩
theorem sh_bool (i : Bool) : Sh 0 (.bool i) := ⟨by simp [PyData.canLay0], by simp [PyData.depth]⟩
theorem sh_none : Sh 0 .none := ⟨by simp [PyData.canLay0], by simp [PyData.depth]⟩
theorem sh_all {k : Nat} : ∀ {ds : List PyData}, (∀ d ∈ ds, Sh k d) → PyData.canLayAll0 ds = true ∧ PyData.depthAll ds ≤ k
  | [], _ => ⟨by simp [PyData.canLayAll0], by simp [PyData.depthAll]⟩
  | d :: ds, h => by
    obtain ⟨h1, h2⟩ := h d List.mem_cons_self
    obtain ⟨g1, g2⟩ := sh_all (ds := ds) fun e he => h e (List.mem_cons_of_mem _ he)
    refine ⟨by simp [PyData.canLayAll0, h1, g1], ?_⟩
    simp only [PyData.depthAll]
    omega
theorem sh_list {k : Nat} {ds : List PyData} (h : ∀ d ∈ ds, Sh k d) : Sh (k + 1) (.list ds) := by
  obtain ⟨h1, h2⟩ := sh_all h
  exact ⟨by simpa [PyData.canLay0] using h1, by simp only [PyData.depth]; omega⟩
theorem sh_tuple {k : Nat} {ds : List PyData} (h : ∀ d ∈ ds, Sh k d) : Sh (k + 1) (.tuple ds) := by
  obtain ⟨h1, h2⟩ := sh_all h
  exact ⟨by simpa [PyData.canLay0] using h1, by simp only [PyData.depth]; omega⟩
theorem sh_eL {k : Nat} {enc : α → PyData} {l : List α} (h : ∀ a, Sh k (enc a)) : Sh (k + 1) (eL enc l) := sh_list fun d hd => by
  obtain ⟨a, _, rfl⟩ := List.mem_map.mp hd
  exact h a
theorem sh_eT {k : Nat} {enc : α → PyData} {l : List α} (h : ∀ a, Sh k (enc a)) : Sh (k + 1) (eT enc l) := sh_tuple fun d hd => by
  obtain ⟨a, _, rfl⟩ := List.mem_map.mp hd
  exact h a
theorem sh_nI (n : Nat) : Sh 0 (nI n) := sh_int n
theorem sh_iL (l : List Int) : Sh 1 (iL l) := sh_eL sh_int
theorem sh_nL (l : List Nat) : Sh 1 (nL l) := sh_eL sh_nI
theorem sh_iLL (l : List (List Int)) : Sh 2 (iLL l) := sh_eL sh_iL
theorem Sh.shaped {k : Nat} {d : PyData} (h : Sh k d) (hk : k ≤ 64 := by omega) : SeqAt.shaped d = true := by
  unfold SeqAt.shaped
  rw [h.1, decide_eq_true (Nat.le_trans h.2 hk)]; rfl
theorem Sh.plain {k : Nat} {d : PyData} (h : Sh k d) : d.plain = true := PyData.plain_of_canLay0 d h.1
theorem plain_all {k : Nat} {ds : List PyData} (h : ∀ d ∈ ds, Sh k d) : PyData.plainAll ds = true := PyData.plainAll_of_canLay0 ds (sh_all h).1
/-! equality -/
/-- equal as data if equal -/
def Inj (enc : α → PyData) : Prop := ∀ a b, PyData.eqv (enc a) (enc b) = true ↔ a = b
theorem inj_int : Inj PyData.int := fun a b => by
  show (PyData.eqv (.int a) (.int b) = true) ↔ _
  simp [PyData.eqv]
theorem inj_nI : Inj nI := fun a b => by
  show (PyData.eqv (.int a) (.int b) = true) ↔ _
  simp only [PyData.eqv, beq_iff_eq]
  omega
theorem eqvAll_map {enc : α → PyData} (h : Inj enc) : ∀ l m : List α, PyData.eqvAll (l.map enc) (m.map enc) = true ↔ l = m
  | [], [] => by simp [PyData.eqvAll]
  | [], _ :: _ => by simp [PyData.eqvAll]
  | _ :: _, [] => by simp [PyData.eqvAll]
  | a :: l, b :: m => by
    simp only [List.map_cons, PyData.eqvAll, Bool.and_eq_true, eqvAll_map h l m, h a b, List.cons.injEq]
theorem inj_eL {enc : α → PyData} (h : Inj enc) : Inj (eL enc) := fun l m => by
  show (PyData.eqv (.list (l.map enc)) (.list (m.map enc)) = true) ↔ _
  simp only [PyData.eqv]
  exact eqvAll_map h l m
theorem inj_eT {enc : α → PyData} (h : Inj enc) : Inj (eT enc) := fun l m => by
  show (PyData.eqv (.tuple (l.map enc)) (.tuple (m.map enc)) = true) ↔ _
  simp only [PyData.eqv]
  exact eqvAll_map h l m
theorem eqv_dec [DecidableEq α] {enc : α → PyData} (h : Inj enc) (a b : α) : PyData.eqv (enc a) (enc b) = decide (a = b) := by
  by_cases e : a = b
  · rw [decide_eq_true e]; exact (h a b).mpr e
  · rw [decide_eq_false e]
    cases q : PyData.eqv (enc a) (enc b) with
    | false => rfl
    | true => exact absurd ((h a b).mp q) e
theorem pEq_of [DecidableEq α] {k : Nat} {enc : α → PyData} (h : Inj enc) (hs : ∀ a, Sh k (enc a)) (a b : α) (hk : k ≤ 64 := by omega) : pEq (enc a) (enc b) = some (.bool (decide (a = b))) := by
  unfold pEq
  rw [(hs a).shaped hk, (hs b).shaped hk, eqv_dec h]; rfl
theorem pNe_of [DecidableEq α] {k : Nat} {enc : α → PyData} (h : Inj enc) (hs : ∀ a, Sh k (enc a)) (a b : α) (hk : k ≤ 64 := by omega) : pNe (enc a) (enc b) = some (.bool (!decide (a = b))) := by
  unfold pNe
  rw [(hs a).shaped hk, (hs b).shaped hk, eqv_dec h]; rfl
theorem any_of [DecidableEq α] {enc : α → PyData} (h : Inj enc) (a : α) : ∀ l : List α, ((l.map enc).any fun z => PyData.eqv z (enc a)) = decide (a ∈ l)
  | [] => by simp
  | b :: l => by
    rw [List.map_cons, List.any_cons, any_of h a l, eqv_dec h]
    by_cases e : b = a
    · subst e; simp
    · have e' : ¬ a = b := fun z => e z.symm
      simp [e, e']
theorem pIn_of [DecidableEq α] {k : Nat} {enc : α → PyData} (h : Inj enc) (hs : ∀ a, Sh k (enc a)) (a : α) (l : List α) (hk : k + 1 ≤ 64 := by omega) : pIn (enc a) (eL enc l) = some (.bool (decide (a ∈ l))) := by
  have e : pIn (enc a) (eL enc l) = if SeqAt.shaped (enc a) && SeqAt.shaped (eL enc l) then some (.bool ((l.map enc).any fun z => PyData.eqv z (enc a))) else none := rfl
  rw [e, ((hs a).mono (Nat.le_succ k)).shaped hk, (sh_eL hs).shaped hk, any_of h]; rfl
theorem pNin_of [DecidableEq α] {k : Nat} {enc : α → PyData} (h : Inj enc) (hs : ∀ a, Sh k (enc a)) (a : α) (l : List α) (hk : k + 1 ≤ 64 := by omega) : pNin (enc a) (eL enc l) = some (.bool (!decide (a ∈ l))) := by
  have e : pNin (enc a) (eL enc l) = if SeqAt.shaped (enc a) && SeqAt.shaped (eL enc l) then some (.bool (!(l.map enc).any fun z => PyData.eqv z (enc a))) else none := rfl
  rw [e, ((hs a).mono (Nat.le_succ k)).shaped hk, (sh_eL hs).shaped hk, any_of h]; rfl
theorem place_of [DecidableEq α] {enc : α → PyData} (h : Inj enc) (a : α) (l : List α) : PySem.SeqAt.dataPlace (l.map enc) (enc a) = l.findIdx? fun b => decide (b = a) := by
  unfold PySem.SeqAt.dataPlace
  induction l with
  | nil => rfl
  | cons b l ih =>
    rw [List.map_cons, List.findIdx?_cons, List.findIdx?_cons, ih, eqv_dec h]
/-! subscripts, slices -/
theorem atI_map {β : Type} (f : α → β) (l : List α) (i : Int) : atI (l.map f) i = (atI l i).map f := by
  unfold atI
  rw [List.length_map]
  cases ixN l.length i with
  | none => rfl
  | some j => simp
theorem atI_getI (l : List α) (i : Nat) : atI l (i : Int) = l[i]? := by
  by_cases h : i < l.length
  · exact (atI_nat (List.getElem?_eq_getElem h)).trans (List.getElem?_eq_getElem h).symm
  · unfold atI ixN
    rw [if_pos (by omega), if_neg (by omega), List.getElem?_eq_none (by omega)]; rfl
theorem atI_zero (l : List α) : atI l 0 = l[0]? := atI_getI l 0
theorem atI_neg1 (l : List α) : atI l (-1) = l.getLast? := by
  rcases List.eq_nil_or_concat l with rfl | ⟨r, a, rfl⟩
  · rfl
  · simp only [List.concat_eq_append]
    rw [atI_last]; simp
theorem cutG_map {β : Type} (f : α → β) (l : List α) (lo hi : Option Int) : cutG (l.map f) lo hi = (cutG l lo hi).map f := by
  unfold cutG
  rw [List.length_map, List.map_take, List.map_drop]
theorem cutG_nat (l : List α) (a b : Nat) (h : b ≤ l.length) : cutG l (some (a : Int)) (some (b : Int)) = (l.drop a).take (b - a) := by
  unfold cutG
  rw [HT.sIx_nat, HT.sIx_nat, Nat.min_eq_left h]
  by_cases ha : a ≤ l.length
  · rw [Nat.min_eq_left ha]
  · rw [Nat.min_eq_right (by omega), List.drop_of_length_le (Nat.le_refl _), List.drop_of_length_le (by omega), List.take_nil, List.take_nil]
theorem cutG_from (l : List α) (a : Nat) : cutG l (some (a : Int)) none = l.drop a := by
  unfold cutG
  rw [HT.sIx_nat, HT.sIx_none]
  by_cases ha : a ≤ l.length
  · rw [Nat.min_eq_left ha]
    exact List.take_of_length_le (by rw [List.length_drop]; omega)
  · rw [Nat.min_eq_right (by omega), List.drop_of_length_le (Nat.le_refl _), List.drop_of_length_le (by omega), List.take_nil]
theorem cutG_to (l : List α) (b : Nat) : cutG l none (some (b : Int)) = l.take b := by
  unfold cutG
  rw [HT.sIx_nat, HT.sIx_none, List.drop_zero, Nat.sub_zero]
  by_cases hb : b ≤ l.length
  · rw [Nat.min_eq_left hb]
  · rw [Nat.min_eq_right (by omega), List.take_of_length_le (Nat.le_refl _), List.take_of_length_le (by omega)]
theorem cutG_init (l : List α) : cutG l none (some (-1)) = l.dropLast := by
  unfold cutG
  rw [HT.sIx_none, List.drop_zero, Nat.sub_zero, List.dropLast_eq_take]
  congr 1
  show (if (-1 : Int) < 0 then ((-1 : Int) + (l.length : Int)).toNat else min (-1 : Int).toNat l.length) = _
  rw [if_pos (by omega)]
  omega
end

/-! ### the data's operations on such lists -/
section
variable {α : Type} (enc : α → PyData) (l m : List α) (B : Bs)
@[simp] theorem pIx_eL (i : Int) : pIx (eL enc l) (.int i) = (atI l i).map enc := by
  show atI (l.map enc) i = _
  exact atI_map enc l i
@[simp] theorem pSl_eL (lo hi : Option Int) : pSl lo hi (eL enc l) = some (eL enc (cutG l lo hi)) := by
  show some (PyData.list (cutG (l.map enc) lo hi)) = _
  rw [cutG_map]; rfl
@[simp] theorem lenOf_eL : lenOf B (.d (eL enc l)) = some l.length := by
  show some (l.map enc).length = _
  rw [List.length_map]
@[simp] theorem pAdd_eL (h : l.length + m.length ≤ LN) : pAdd (eL enc l) (eL enc m) = some (eL enc (l ++ m)) := by
  show (if (l.map enc).length + (m.map enc).length ≤ LN then some (PyData.list (l.map enc ++ m.map enc)) else none) = _
  rw [List.length_map, List.length_map, if_pos h, ← List.map_append]; rfl
@[simp] theorem tyOf_eL : tyOf B (.d (eL enc l)) = some "list" := rfl
@[simp] theorem truthOf_eL : truthOf B (.d (eL enc l)) = some (!l.isEmpty) := by
  show some (!(l.map enc).isEmpty) = _
  cases l <;> rfl
@[simp] theorem seqOf_eL : seqOf B (.d (eL enc l)) = some (l.map enc) := rfl
@[simp] theorem seqOf_eT : seqOf B (.d (eT enc l)) = some (l.map enc) := rfl
theorem itemsF_eL {f : De} {ρ : En} {B1 : Bs} (h : f ρ B = .ok (.d (eL enc l)) B1) : itemsF f ρ B = .ok (l.map fun a => W.d (enc a)) B1 := by
  rw [itemsF_eq, h, Out.bind_ok]
  show Out.ok ((l.map enc).map W.d) B1 = _
  rw [List.map_map]; rfl
theorem datas_enc : datas (l.map fun a => W.d (enc a)) = some (l.map enc) := by
  have h := datas_map (l.map enc)
  rw [List.map_map] at h
  exact h
@[simp] theorem kit_ii : kitB "int" "int" = some true := by decide +kernel
@[simp] theorem kit_ib : kitB "int" "bool" = some false := by decide +kernel
@[simp] theorem kit_bi : kitB "bool" "int" = some true := by decide +kernel
@[simp] theorem kit_bb : kitB "bool" "bool" = some true := by decide +kernel
@[simp] theorem kit_ll : kitB "list" "list" = some true := by decide +kernel
@[simp] theorem kit_il : kitB "int" "list" = some false := by decide +kernel
end

/-! ### loops -/
theorem forGo_ix {tg : Tg} {body : Ds} (I : Nat → En → Bs → Prop) : ∀ (items : List W) (k : Nat) (ρ : En) (B : Bs), I k ρ B →
    (∀ i w, items[i]? = some w → ∀ ρ B, I (k + i) ρ B → ∃ ρ1 ρ2 B2, tg w ρ = some ρ1 ∧ (body ρ1 B = .ok (.nx, ρ2) B2 ∨ body ρ1 B = .ok (.ct, ρ2) B2) ∧ I (k + i + 1) ρ2 B2) →
    ∃ ρ' B', forGo tg body items ρ B = .ok (.nx, ρ') B' ∧ I (k + items.length) ρ' B'
  | [], k, ρ, B, h, _ => ⟨ρ, B, rfl, h⟩
  | w :: r, k, ρ, B, h, st => by
    obtain ⟨ρ1, ρ2, B2, h1, h2, h3⟩ := st 0 w rfl ρ B h
    obtain ⟨ρ', B', g1, g2⟩ := forGo_ix I r (k + 1) ρ2 B2 h3 fun i w' hw ρ B hI => by
      have q := st (i + 1) w' (by simpa using hw) ρ B (by rw [show k + (i + 1) = k + 1 + i by omega]; exact hI)
      rw [show k + (i + 1) = k + 1 + i by omega] at q
      exact q
    refine ⟨ρ', B', ?_, by rw [List.length_cons, show k + (r.length + 1) = k + 1 + r.length by omega]; exact g2⟩
    rw [forGo_cons, h1]
    rcases h2 with h2 | h2 <;> · simp only [h2, Out.bind_ok]; exact g1
/-- a comprehension without effects -/
theorem lcGo_pure {α : Type} {tg : Tg} {ct : Dt} {ef : De} {ρ : En} {f : α → W} {c : α → Bool} {y : α → W} {B : Bs} : ∀ (xs : List α), (∀ a ∈ xs, ∃ ρ1, tg (f a) ρ = some ρ1 ∧ ct ρ1 B = .ok (c a) B ∧ (c a = true → ef ρ1 B = .ok (y a) B)) →
    lcGo tg ct ef ρ (xs.map f) B = .ok ((xs.filter c).map y) B
  | [], _ => rfl
  | a :: r, h => by
    obtain ⟨ρ1, h1, h2, h3⟩ := h a List.mem_cons_self
    have ih := lcGo_pure (f := f) (c := c) (y := y) r fun b hb => h b (List.mem_cons_of_mem _ hb)
    rw [List.map_cons, lcGo_cons, h1]
    simp only [h2, Out.bind_ok]
    cases q : c a with
    | false =>
      rw [if_neg Bool.false_ne_true, ih, List.filter_cons_of_neg (by rw [q]; exact Bool.false_ne_true)]
    | true =>
      rw [if_pos rfl, h3 q, Out.bind_ok, ih, Out.bind_ok, List.filter_cons_of_pos q, List.map_cons]
theorem lcGo_all {α : Type} {tg : Tg} {ef : De} {ρ : En} {f : α → W} {y : α → W} {B : Bs} (xs : List α) (h : ∀ a ∈ xs, ∃ ρ1, tg (f a) ρ = some ρ1 ∧ ef ρ1 B = .ok (y a) B) :
    lcGo tg yesT ef ρ (xs.map f) B = .ok (xs.map y) B := by
  have q := lcGo_pure (f := f) (c := fun _ => true) (y := y) (ct := yesT) xs fun a ha => by
    obtain ⟨ρ1, h1, h2⟩ := h a ha
    exact ⟨ρ1, h1, rfl, fun _ => h2⟩
  rw [q]
  congr 2
  exact List.filter_eq_self.mpr fun _ _ => rfl
@[simp] theorem andF_eq (f g : De) (ρ : En) (B : Bs) : andF f g ρ B = (f ρ B).bind fun w B1 => match w with
  | .d (.bool true) => g ρ B1
  | .d (.bool false) => .ok (.d (.bool false)) B1
  | _ => .bad := rfl
@[simp] theorem orF_eq (f g : De) (ρ : En) (B : Bs) : orF f g ρ B = (f ρ B).bind fun w B1 => match w with
  | .d (.bool false) => g ρ B1
  | .d (.bool true) => .ok (.d (.bool true)) B1
  | _ => .bad := rfl
@[simp] theorem notF_eq (f : De) (ρ : En) (B : Bs) : notF f ρ B = (f ρ B).bind fun w B1 => match w with
  | .d (.bool b) => .ok (.d (.bool (!b))) B1
  | _ => .bad := rfl
@[simp] theorem negF_eq (f : De) (ρ : En) (B : Bs) : negF f ρ B = (f ρ B).bind fun x B1 => match tview B1 x with
    | some (.int i) => .ok (.d (.int (-i))) B1
    | _ => .bad := rfl
@[simp] theorem lstF_eq (g : Da) (ρ : En) (B : Bs) : lstF g ρ B = (g ρ B).bind fun ws B1 => match datas ws with
  | some ds => if ds.length ≤ LN then .ok (.d (.list ds)) B1 else .bad
  | none => .bad := rfl
@[simp] theorem tupF_eq (g : Da) (ρ : En) (B : Bs) : tupF g ρ B = (g ρ B).bind fun ws B1 => match datas ws with
  | some ds => if ds.length ≤ LN then .ok (.d (.tuple ds)) B1 else .bad
  | none => .bad := rfl
@[simp] theorem boxF_eq (g : Da) (ρ : En) (B : Bs) : boxF g ρ B = (g ρ B).bind fun ws B1 => if ws.length ≤ LN then .ok (.box B1.length) (B1 ++ [some (.lst ws)]) else .bad := rfl
theorem addbF_eq (f g : De) (ρ : En) (B : Bs) : addbF f g ρ B = (f ρ B).bind fun x B1 => (g ρ B1).bind fun y B2 => match tview B2 x, tview B2 y with
  | some (.list xs), some (.list ys) => if xs.length + ys.length ≤ LN then .ok (.box B2.length) (B2 ++ [some (.lst ((xs ++ ys).map W.d))]) else .bad
  | _, _ => .bad := rfl
@[simp] theorem frzF_eq (f : De) (ρ : En) (B : Bs) : frzF f ρ B = (f ρ B).bind fun w B1 => match w with
  | .d x => .ok (.d x) B1
  | .scr _ => .bad
  | .box n => match tview B1 (.box n) with
    | some d => .ok (.d d) (B1.set n none)
    | none => .bad := rfl
@[simp] theorem augS_eq (g : Int → Int → Int) (i : Nat) (f : De) (ρ : En) (B : Bs) : augS g i f ρ B = match ρ[i]? with
  | some (some (.d (.int x))) => (f ρ B).bind fun w B1 => match w with
    | .d (.int y) => .ok (.nx, ρ.set i (some (.d (.int (g x y))))) B1
    | _ => .bad
  | _ => .bad := rfl
@[simp] theorem slotF_eq (i : Nat) (ρ : En) (B : Bs) : slotF i ρ B = match ρ[i]? with
  | some (some w) => .ok w B
  | _ => .bad := rfl
@[simp] theorem chainF_eq (p q : P2) (f g h : De) (ρ : En) (B : Bs) : chainF p q f g h ρ B = (f ρ B).bind fun x B1 => (g ρ B1).bind fun y B2 => match tview B2 x, tview B2 y with
  | some a, some b => match p a b with
    | some (.bool true) => (h ρ B2).bind fun z B3 => match tview B3 y, tview B3 z with
      | some b', some c => match q b' c with
        | some d => .ok (.d d) B3
        | none => .bad
      | _, _ => .bad
    | some (.bool false) => .ok (.d (.bool false)) B2
    | _ => .bad
  | _, _ => .bad := rfl
@[simp] theorem ixbF_eq (f g : De) (ρ : En) (B : Bs) : ixbF f g ρ B = (f ρ B).bind fun x B1 => (g ρ B1).bind fun y B2 => match x, y with
  | .box n, .d (.int i) => match B2[n]? with
    | some (some (.lst ws)) => match atI ws i with
      | some w => .ok w B2
      | none => .bad
    | _ => .bad
  | _, _ => .bad := rfl
@[simp] theorem pLt_i (i j : Int) : pLt (.int i) (.int j) = some (.bool (decide (i < j))) := rfl
@[simp] theorem pLe_i (i j : Int) : pLe (.int i) (.int j) = some (.bool (decide (i ≤ j))) := rfl
@[simp] theorem pGt_i (i j : Int) : pGt (.int i) (.int j) = some (.bool (decide (j < i))) := rfl
@[simp] theorem pGe_i (i j : Int) : pGe (.int i) (.int j) = some (.bool (decide (j ≤ i))) := rfl
@[simp] theorem pEq_i (i j : Int) : pEq (.int i) (.int j) = some (.bool (decide (i = j))) := pEq_of inj_int sh_int i j
@[simp] theorem pNe_i (i j : Int) : pNe (.int i) (.int j) = some (.bool (!decide (i = j))) := pNe_of inj_int sh_int i j
@[simp] theorem pAdd_i (i j : Int) : pAdd (.int i) (.int j) = some (.int (i + j)) := rfl
@[simp] theorem pSub_i (i j : Int) : pSubI (.int i) (.int j) = some (.int (i - j)) := rfl
@[simp] theorem tyOf_i (B : Bs) (i : Int) : tyOf B (.d (.int i)) = some "int" := rfl
@[simp] theorem truthOf_b (B : Bs) (b : Bool) : truthOf B (.d (.bool b)) = some b := rfl
@[simp] theorem gc_same' (B : Bs) (d : PyData) : gc B (.d d) B = .ok (.d d) B := gc_same B d

/-! ### matches on lists -/
def itOf : W → Option (List W)
  | .d (.list ds) => some (ds.map W.d)
  | .d (.tuple ds) => some (ds.map W.d)
  | .scr ns => some ((ns.map PyData.int).map W.d)
  | _ => none
def lOf : W → Option (List PyData)
  | .d (.list ds) => some ds
  | _ => none
def lstOf (B : Bs) (w : W) : Option (List PyData) := match tview B w with
  | some (.list ds) => some ds
  | _ => none
@[simp] theorem itemsF_eq2 (f : De) (ρ : En) (B : Bs) : itemsF f ρ B = (f ρ B).bind fun w B1 => match itOf w with
  | some l => .ok l B1
  | none => .bad := by
  rw [itemsF_eq]
  congr 1
  funext w B1
  cases w with
  | d x => cases x <;> rfl
  | _ => rfl
@[simp] theorem enumF_eq2 (f : De) (ρ : En) (B : Bs) : enumF f ρ B = (f ρ B).bind fun w B1 => match lOf w with
  | some l => .ok (enumL l) B1
  | none => .bad := by
  rw [enumF_eq]
  congr 1
  funext w B1
  cases w with
  | d x => cases x <;> rfl
  | _ => rfl
@[simp] theorem zipF_eq2 (f g : De) (ρ : En) (B : Bs) : zipF f g ρ B = (f ρ B).bind fun x B1 => (g ρ B1).bind fun y B2 => match lOf x, lOf y with
  | some l, some m => .ok (zipL l m) B2
  | _, _ => .bad := by
  rw [zipF_eq]
  congr 1
  funext x B1
  congr 1
  funext y B2
  cases x with
  | d x =>
    cases y with
    | d y => cases x <;> cases y <;> rfl
    | _ => cases x <;> rfl
  | _ => rfl
@[simp] theorem tupleF_eq2 (f : De) (ρ : En) (B : Bs) : tupleF f ρ B = (f ρ B).bind fun w B1 => match lstOf B1 w with
  | some l => .ok (.d (.tuple l)) B1
  | none => .bad := by
  rw [tupleF_eq]
  congr 1
  funext w B1
  unfold lstOf
  cases tview B1 w with
  | none => rfl
  | some d => cases d <;> rfl
@[simp] theorem sortsetF_eq2 (f : De) (ρ : En) (B : Bs) : sortsetF f ρ B = (f ρ B).bind fun w B1 => match (lstOf B1 w).bind intsOf with
  | some ns => if ns.length ≤ 1000 ∧ (setSort ns).length < 64 then .ok (.d (iL (setSort ns))) B1 else .bad
  | none => .bad := by
  rw [sortsetF_eq]
  congr 1
  funext w B1
  unfold lstOf
  cases tview B1 w with
  | none => rfl
  | some d =>
    cases d with
    | list ds =>
      have e : ∀ o : Option (List Int), (match o with
        | some ns => if ns.length ≤ 1000 ∧ (setSort ns).length < 64 then Out.ok (W.d (.list ((setSort ns).map .int))) B1 else Out.bad
        | none => Out.bad) = match o with
        | some ns => if ns.length ≤ 1000 ∧ (setSort ns).length < 64 then Out.ok (W.d (iL (setSort ns))) B1 else Out.bad
        | none => Out.bad := fun o => by cases o <;> rfl
      exact e (intsOf ds)
    | _ => rfl
@[simp] theorem addbF_eq2 (f g : De) (ρ : En) (B : Bs) : addbF f g ρ B = (f ρ B).bind fun x B1 => (g ρ B1).bind fun y B2 => match lstOf B2 x, lstOf B2 y with
  | some xs, some ys => if xs.length + ys.length ≤ LN then .ok (.box B2.length) (B2 ++ [some (.lst ((xs ++ ys).map W.d))]) else .bad
  | _, _ => .bad := by
  rw [addbF_eq]
  congr 1
  funext x B1
  congr 1
  funext y B2
  unfold lstOf
  cases tview B2 x with
  | none => rfl
  | some a =>
    cases tview B2 y with
    | none => cases a <;> rfl
    | some b => cases a <;> cases b <;> rfl
section
variable {α : Type} (enc : α → PyData) (l : List α) (B : Bs)
@[simp] theorem itOf_eL : itOf (.d (eL enc l)) = some (l.map fun a => W.d (enc a)) := by
  show some ((l.map enc).map W.d) = _
  rw [List.map_map]; rfl
@[simp] theorem itOf_eT : itOf (.d (eT enc l)) = some (l.map fun a => W.d (enc a)) := by
  show some ((l.map enc).map W.d) = _
  rw [List.map_map]; rfl
@[simp] theorem itOf_l (ds : List PyData) : itOf (.d (.list ds)) = some (ds.map W.d) := rfl
@[simp] theorem itOf_scr (ns : List Int) : itOf (.scr ns) = some (ns.map fun n => W.d (.int n)) := by
  show some ((ns.map PyData.int).map W.d) = _
  rw [List.map_map]; rfl
@[simp] theorem lOf_eL : lOf (.d (eL enc l)) = some (l.map enc) := rfl
@[simp] theorem lOf_l (ds : List PyData) : lOf (.d (.list ds)) = some ds := rfl
@[simp] theorem lstOf_eL : lstOf B (.d (eL enc l)) = some (l.map enc) := rfl
@[simp] theorem lstOf_l (ds : List PyData) : lstOf B (.d (.list ds)) = some ds := rfl
@[simp] theorem lstOf_scr (ns : List Int) : lstOf B (.scr ns) = some (ns.map .int) := rfl
theorem lstOf_box {n : Nat} {ds : List PyData} (h : B[n]? = some (some (.lst (ds.map W.d)))) : lstOf B (.box n) = some ds := by
  unfold lstOf
  rw [tview_box h]
theorem tview_boxE {n : Nat} (h : B[n]? = some (some (.lst (l.map fun a => W.d (enc a))))) : tview B (.box n) = some (eL enc l) := by
  have e : (l.map fun a => W.d (enc a)) = (l.map enc).map W.d := by rw [List.map_map]; rfl
  rw [e] at h
  exact tview_box h
@[simp] theorem enumL_map : enumL (l.map enc) = (l.zipIdx).map fun p => W.d (.tuple [.int (p.2 : Int), enc p.1]) := by
  unfold enumL
  rw [List.zipIdx_map, List.map_map]; rfl
end
theorem intsOf_nI (l : List Nat) : intsOf (l.map nI) = some (l.map fun (n : Nat) => (n : Int)) := by
  have h := intsOf_map (l.map fun (n : Nat) => (n : Int))
  rw [List.map_map] at h
  exact h
@[simp] theorem intsOf_int (l : List Int) : intsOf (l.map PyData.int) = some l := intsOf_map l
theorem cRng_of {j : Int} (h : j.natAbs ≤ 1000001) : cRng j = true := by
  unfold cRng
  refine decide_eq_true ?_
  by_cases h0 : j.natAbs = 0
  · rw [h0]; decide
  · refine (Nat.log2_lt h0).mpr ?_
    have e : (2 : Nat) ^ 61 = 2305843009213693952 := by decide +kernel
    rw [e]; omega
theorem cRng_nat (n : Nat) (h : n ≤ 1000000) : cRng (n : Int) = true := cRng_of (by omega)
theorem cRng_nat1 (n : Nat) (h : n ≤ 1000000) : cRng ((n : Int) + 1) = true := cRng_of (by omega)
end Mini

namespace Mini
open PySem PySem.Spec PyProof.Rows L2
open Classical in
noncomputable def watch {α : Type} (n : Nat) (ws : List W) (B : Bs) (o : Out α) : Out α := if B[n]? = some (some (.lst ws)) then o else .bad
theorem watch_yes {α : Type} {n : Nat} {ws : List W} {B : Bs} (h : B[n]? = some (some (.lst ws))) (o : Out α) : watch n ws B o = o := if_pos h
theorem watch_ok {α : Type} {n : Nat} {ws : List W} {B : Bs} {o : Out α} (P : watch n ws B o ≠ .bad) : B[n]? = some (some (.lst ws)) := by
  unfold watch at P
  split at P
  · assumption
  · exact absurd rfl P
noncomputable def lcwGo (n : Nat) (ws0 : List W) (tg : Tg) (ct : Dt) (ef : De) (ρ : En) : List W → Bs → Out (List W)
  | [], B => watch n ws0 B (.ok [] B)
  | w :: r, B => watch n ws0 B (match tg w ρ with
    | none => .bad
    | some ρ1 => (ct ρ1 B).bind fun b B1 => if b = true then (ef ρ1 B1).bind fun y B2 => (lcwGo n ws0 tg ct ef ρ r B2).bind fun ys B3 => .ok (y :: ys) B3 else lcwGo n ws0 tg ct ef ρ r B1)
theorem lcwGo_nil (n : Nat) (ws0 : List W) (tg : Tg) (ct : Dt) (ef : De) (ρ : En) (B : Bs) : lcwGo n ws0 tg ct ef ρ [] B = watch n ws0 B (.ok [] B) := rfl
theorem lcwGo_cons (n : Nat) (ws0 : List W) (tg : Tg) (ct : Dt) (ef : De) (ρ : En) (w : W) (r : List W) (B : Bs) : lcwGo n ws0 tg ct ef ρ (w :: r) B = watch n ws0 B (match tg w ρ with
    | none => .bad
    | some ρ1 => (ct ρ1 B).bind fun b B1 => if b = true then (ef ρ1 B1).bind fun y B2 => (lcwGo n ws0 tg ct ef ρ r B2).bind fun ys B3 => .ok (y :: ys) B3 else lcwGo n ws0 tg ct ef ρ r B1) := rfl
/-- [e for x in xs if t], xs a list in a box: plain data -/
noncomputable def lcwF (f : De) (vs : List Nat) (tg : Tg) (ct : Dt) (ef : De) : De := fun ρ B => (f ρ B).bind fun w B1 => match w with
  | .box n => match B1[n]? with
    | some (some (.lst ws0)) => if ws0.length ≤ LN then (lcwGo n ws0 tg ct ef (wipeE ρ vs) ws0 B1).bind fun ws B2 => match datas ws with
      | some ds => .ok (.d (.list ds)) B2
      | none => .bad
      else .bad
    | _ => .bad
  | _ => .bad
theorem lcwF_eq (f : De) (vs : List Nat) (tg : Tg) (ct : Dt) (ef : De) (ρ : En) (B : Bs) : lcwF f vs tg ct ef ρ B = (f ρ B).bind fun w B1 => match w with
  | .box n => match B1[n]? with
    | some (some (.lst ws0)) => if ws0.length ≤ LN then (lcwGo n ws0 tg ct ef (wipeE ρ vs) ws0 B1).bind fun ws B2 => match datas ws with
      | some ds => .ok (.d (.list ds)) B2
      | none => .bad
      else .bad
    | _ => .bad
  | _ => .bad := rfl
theorem Pst.nb {K : PySem.W.Frag} {α β : Type} {R : Hp → List Addr → α → β → Prop} {F : Hp} {loc : List Addr} {H : Hp} {o : Out α} {Q : β → Hp → Prop} (P : Pst K R F loc H o Q) : o ≠ .bad := fun z => by rw [z] at P; exact P
theorem PstS.nb {K : PySem.W.Frag} {F : Hp} {loc : List Addr} {H : Hp} {o : Out (Fl × En)} {D : Ends} (P : PstS K F loc H o D) : o ≠ .bad := fun z => by rw [z] at P; exact P
theorem watch_bind {α γ : Type} {n : Nat} {ws : List W} {B : Bs} {o : Out α} {f : α → Bs → Out γ} (h : (watch n ws B o).bind f ≠ .bad) : B[n]? = some (some (.lst ws)) := watch_ok fun z => h (by rw [z]; rfl)
/-- what the walk of such a list does in a state -/
theorem fol_box {K : PySem.W.Frag} {F1 : Hp} {loc1 : List Addr} {B1 : Bs} {H1 : Hp} {n : Nat} {a : Addr} {ws : List W} (S : Sim K F1 loc1 B1 H1) (hl : loc1[n]? = some a) (hb : B1[n]? = some (some (.lst ws))) (i : Nat) :
    (∀ w, ws[i]? = some w → (Itl K a).go i H1 ∧ ∀ x H2, (Itl K a).yld i H1 x H2 → H2 = H1 ∧ RW K F1 loc1 w x) ∧ (ws.length ≤ i → (Itl K a).stop i H1) := by
  obtain ⟨_, o, ho, vs, rfl, r⟩ := S.box n a _ hl hb
  refine ⟨fun w hw => ?_, fun hi => ⟨vs, sqL_of ho, by rw [← rws_len r]; exact hi⟩⟩
  obtain ⟨v, g1, g2⟩ := rws_get r hw
  refine ⟨⟨vs, v, sqL_of ho, g1⟩, fun x H2 ⟨e, hy⟩ => ⟨e, ?_⟩⟩
  have ex := hy vs (sqL_of ho)
  rw [g1] at ex
  cases ex
  exact g2
theorem lcw_read {K : PySem.W.Frag} {f : De} {vs js : List Nat} {tg : Tg} {ct : Dt} {ef : De} {g : TG} (hg : TgOk K g js tg) (hj : ∀ j ∈ js, j ∈ vs) :
    ∀ σ H Q, tE K (lcwF f vs tg ct ef) σ H Q → tLc (iList K (tE K f)) g (tT K ct) (tE K ef) vs σ H Q := by
  intro σ H Q ⟨F, loc, ρ, B, S, R, P⟩
  rw [lcwF_eq] at P
  refine ⟨F, loc, ρ, B, S, R, Pst.bind P fun w B1 F1 loc1 H1 v1 e1 E1 S1 r1 P1 => ?_⟩
  cases w with
  | d x => exact P1.elim
  | scr _ => exact P1.elim
  | box n =>
    simp only at P1
    split at P1
    case h_2 => exact P1.elim
    rename_i items hb1
    obtain ⟨a, rfl, hla⟩ := r1
    obtain ⟨_, o1, ho1, vs1, rfl, _⟩ := S1.box n a _ hla hb1
    refine ⟨a, rfl, ⟨vs1, sqL_of ho1⟩, ?_⟩
    by_cases hl : items.length ≤ LN
    case neg => rw [if_neg hl] at P1; exact P1.elim
    rw [if_pos hl] at P1
    intro D hD
    let fin : List W → Bs → Out W := fun ws B2 => match datas ws with
      | some ds => .ok (.d (.list ds)) B2
      | none => .bad
    have P1 : Pst K (RW K) F1 loc1 H1 ((lcwGo n items tg ct ef (wipeE ρ vs) items B1).bind fin) Q := P1
    let Inv' : Nat → Hp → Prop := fun i H3 => ∃ F3 loc3 B3 acc ws, Ext F1 loc1 H1 F3 loc3 H3 ∧ Sim K F3 loc3 B3 H3 ∧ F3 D = none ∧ D ∉ loc3 ∧ H3 D = some (.lst acc) ∧ RWs K F3 loc3 ws acc ∧ acc.length ≤ i ∧ i ≤ items.length ∧
      Pst K (RW K) F1 loc1 H1 ((lcwGo n items tg ct ef (wipeE ρ vs) (items.drop i) B3).bind fun ys B4 => fin (ws ++ ys) B4) Q
    refine ⟨fun i m H3 => m = items.length - i ∧ Inv' i H3, ⟨items.length, by simp, F1, loc1, B1, [], [], Ext.other Ext.refl hD, S1.other (S1.freeF hD) (S1.freeL hD), S1.freeF hD, S1.freeL hD, upd_same, .nil, Nat.le_refl _, Nat.zero_le _, ?_⟩, ?_⟩
    · rw [List.drop_zero]
      exact P1
    rintro i m H3 ⟨rfl, F3, loc3, B3, acc, ws, E3, S3, dF, dL, dH, rw3, la, li, P3⟩
    have hb3 : B3[n]? = some (some (.lst items)) := by
      cases hdr : items.drop i with
      | nil => rw [hdr, lcwGo_nil] at P3; exact watch_bind P3.nb
      | cons w r => rw [hdr, lcwGo_cons] at P3; exact watch_bind P3.nb
    obtain ⟨fitem, fstop⟩ := fol_box S3 (pre_get E3.pre hla) hb3 i
    by_cases hi : i < items.length
    · obtain ⟨w, hw⟩ : ∃ w, items[i]? = some w := ⟨items[i], List.getElem?_eq_getElem hi⟩
      obtain ⟨go, hy⟩ := fitem w hw
      refine .inr ⟨go, Inv' (i + 1), fun H' q => ⟨items.length - (i + 1), by omega, rfl, q⟩, fun x H4 yl => ?_⟩
      obtain ⟨rfl, r4⟩ := hy x H4 yl
      have hdrop : items.drop i = w :: items.drop (i + 1) := by
        rw [List.drop_eq_getElem_cons hi]
        congr 1
        exact (List.getElem?_eq_some_iff.mp hw).2
      rw [hdrop, lcwGo_cons, watch_yes hb3] at P3
      have R4 : EnvR K F3 loc3 (wipeE ρ vs) (L2.wipe σ vs) := ((R.ext E1).ext E3).wipe vs
      cases ht : tg w (wipeE ρ vs) with
      | none => rw [ht] at P3; exact P3.elim
      | some ρ1 =>
        rw [ht] at P3
        simp only [bind_assoc] at P3
        refine hg F3 loc3 B3 H4 (wipeE ρ vs) ρ1 (L2.wipe σ vs) w x _ S3 R4 r4 ht fun σ2 R5 sb => ⟨sb.wipe hj, ?_⟩
        refine ⟨F3, loc3, ρ1, B3, S3, R5, Pst.bindAt P3 fun k B5 F5 loc5 H5 k' e5 E5 S5 r5 P5 => ?_⟩
        rw [show k' = k from r5]
        obtain ⟨dH5, dF5, dL5⟩ := E5.fr D _ dH (fun _ z => nomatch z) dF dL
        cases k with
        | false =>
          rw [if_neg Bool.false_ne_true]
          rw [if_neg Bool.false_ne_true] at P5
          exact ⟨F5, loc5, B5, acc, ws, E3.trans E5, S5, dF5, dL5, dH5, rws_mono E5.ex E5.pre rw3, by omega, by omega, P5⟩
        | true =>
          rw [if_pos rfl]
          rw [if_pos rfl] at P5
          simp only [bind_assoc] at P5
          refine ⟨F5, loc5, ρ1, B5, S5, R5.ext E5, Pst.bindAt P5 fun y B6 F6 loc6 H6 v e6 E6 S6 r6 P6 => ?_⟩
          obtain ⟨dH6, dF6, dL6⟩ := E6.fr D _ dH5 (fun _ z => nomatch z) dF5 dL5
          refine ⟨acc, dH6, by unfold LN at hl; rw [sizeLine_eq]; omega, F6, loc6, B6, acc ++ [v], ws ++ [y], Ext.other (E3.trans (E5.trans E6)) hD, S6.other dF6 dL6, dF6, dL6, upd_same, paired_app (rws_mono (E5.trans E6).ex (E5.trans E6).pre rw3) (.cons r6 .nil), by rw [List.length_append]; simp; omega, by omega, ?_⟩
          simp only [Out.bind_ok] at P6
          simp only [List.append_assoc, List.singleton_append]
          exact P6
    · have hi' : i = items.length := by omega
      subst hi'
      rw [List.drop_length, lcwGo_nil, watch_yes hb3, Out.bind_ok, List.append_nil] at P3
      exact .inl ⟨fstop (Nat.le_refl _), fin_data F1 loc1 H1 F3 loc3 H3 D acc ws B3 Q hD E3 S3 dF dL dH rw3 P3⟩
section
variable {X : Cx} {f : De} {own : List (Str × Nat)} {js : List Nat} {tg : Tg} {ct : Dt} {ef : De} {g : TG} {elt tge iter : Expr} {ifs : List Expr} {scope : Scope} {pos spos : Pos}
theorem e_lcw (hc : X.calm = true) (hN : X.N.Nodup) (hi : PE X iter (tE X.K f)) (ok : BlkOk X.N X.env.scope scope own) (htg : TgOk X.K g js tg)
    (hj : ∀ j ∈ js, j ∈ own.map (·.2)) (hg : ∀ (s : Shared) (H : Hp) (C : Addr) (cl : List (Str × Addr)) (fp : List Addr), PG (X.blk s H scope (compEnvC scope cl C X.env) fp) tge g)
    (ht : ∀ (s : Shared) (H : Hp) (C : Addr) (cl : List (Str × Addr)) (fp : List Addr), PTs (X.blk s H scope (compEnvC scope cl C X.env) fp) ifs (tT X.K ct))
    (he : ∀ (s : Shared) (H : Hp) (C : Addr) (cl : List (Str × Addr)) (fp : List Addr), PE (X.blk s H scope (compEnvC scope cl C X.env) fp) elt (tE X.K ef)) (hs : ∀ x, foldedSetIterable iter X.env x = pure x := by intro _; rfl) :
    PE X (.ListComp elt [⟨tge, iter, ifs, 0⟩] scope pos) (tE X.K (lcwF f (own.map (·.2)) tg ct ef)) := pe_imp (pe_lc hc hN (pi_list hi) ok hg ht he hs) (lcw_read htg hj)
theorem s_setLcw {i : Nat} {y : Str} {py : Pos} (hc : X.calm = true) (hN : X.N.Nodup) (hy : X.N[i]? = some y) (hyl : X.env.scope.names.lookup y = some .local)
    (hsw : swapsWith (.ListComp elt [⟨tge, iter, ifs, 0⟩] scope pos) (some (.Name y py)) spos.line X.env = pure true) (hi : PE X iter (tE X.K f)) (ok : BlkOk X.N X.env.scope scope own) (htg : TgOk X.K g js tg)
    (hj : ∀ j ∈ js, j ∈ own.map (·.2)) (hg : ∀ (s : Shared) (H : Hp) (C : Addr) (cl : List (Str × Addr)) (fp : List Addr), PG (X.blk s H scope (compEnvC scope cl C X.env) fp) tge g)
    (ht : ∀ (s : Shared) (H : Hp) (C : Addr) (cl : List (Str × Addr)) (fp : List Addr), PTs (X.blk s H scope (compEnvC scope cl C X.env) fp) ifs (tT X.K ct))
    (he : ∀ (s : Shared) (H : Hp) (C : Addr) (cl : List (Str × Addr)) (fp : List Addr), PE (X.blk s H scope (compEnvC scope cl C X.env) fp) elt (tE X.K ef)) (hs : ∀ x, foldedSetIterable iter X.env x = pure x := by intro _; rfl) :
    PS X (.Assign [.Name y py] (.ListComp elt [⟨tge, iter, ifs, 0⟩] scope pos) spos) (tS X.K (asgF (lcwF f (own.map (·.2)) tg ct ef) i)) :=
  ps_imp (ps_setLc hc hN hy hyl hsw (pi_list hi) ok hg ht he hs) (asg_read (lcw_read htg hj))
end
/-- one without effects -/
theorem lcwGo_pure {α : Type} {n : Nat} {ws0 : List W} {tg : Tg} {ct : Dt} {ef : De} {ρ : En} {f : α → W} {c : α → Bool} {y : α → W} {B : Bs} (hw : B[n]? = some (some (.lst ws0))) : ∀ (xs : List α), (∀ a ∈ xs, ∃ ρ1, tg (f a) ρ = some ρ1 ∧ ct ρ1 B = .ok (c a) B ∧ (c a = true → ef ρ1 B = .ok (y a) B)) →
    lcwGo n ws0 tg ct ef ρ (xs.map f) B = .ok ((xs.filter c).map y) B
  | [], _ => by rw [List.map_nil, lcwGo_nil, watch_yes hw]; rfl
  | a :: r, h => by
    obtain ⟨ρ1, h1, h2, h3⟩ := h a List.mem_cons_self
    have ih := lcwGo_pure hw (f := f) (c := c) (y := y) r fun b hb => h b (List.mem_cons_of_mem _ hb)
    rw [List.map_cons, lcwGo_cons, watch_yes hw, h1]
    simp only [h2, Out.bind_ok]
    cases q : c a with
    | false =>
      rw [if_neg Bool.false_ne_true, ih, List.filter_cons_of_neg (by rw [q]; exact Bool.false_ne_true)]
    | true =>
      rw [if_pos rfl, h3 q, Out.bind_ok, ih, Out.bind_ok, List.filter_cons_of_pos q, List.map_cons]
end Mini

namespace K45
/-! ### units -/
def ustep (us : List (List Int)) (v : Int) : List (List Int) := match us.getLast? with
  | none => [[v]]
  | some u => match u.head? with
    | none => us
    | some x => if x ≤ v then us ++ [[v]] else us.dropLast ++ [u ++ [v]]
def units (l : List Int) : List (List Int) := l.foldl ustep []
theorem ustep_none : ustep [] = fun v => [[v]] := rfl
theorem ustep_eq (us : List (List Int)) (x : Int) (u : List Int) (v : Int) : ustep (us ++ [x :: u]) v = if x ≤ v then us ++ [x :: u] ++ [[v]] else us ++ [(x :: u) ++ [v]] := by
  unfold ustep
  simp
theorem fold_pre : ∀ (r : List Int) (us : List (List Int)) (x : Int) (u : List Int), r.foldl ustep (us ++ [x :: u]) = us ++ r.foldl ustep [x :: u]
  | [], us, x, u => by simp
  | v :: r, us, x, u => by
    have e0 := ustep_eq [] x u v
    rw [List.nil_append] at e0
    rw [List.foldl_cons, List.foldl_cons, ustep_eq, e0]
    by_cases h : x ≤ v
    · rw [if_pos h, if_pos h, fold_pre r (us ++ [x :: u]) v [], fold_pre r [x :: u] v []]
      simp
    · rw [if_neg h, if_neg h]
      exact fold_pre r us x (u ++ [v])
theorem fold_one : ∀ (r : List Int) (x : Int) (u : List Int), r.foldl ustep [x :: u] = (x :: (u ++ r.takeWhile fun y => decide (y < x))) :: units (r.dropWhile fun y => decide (y < x))
  | [], x, u => by simp [units]
  | v :: r, x, u => by
    have e0 := ustep_eq [] x u v
    rw [List.nil_append] at e0
    rw [List.foldl_cons, e0]
    by_cases h : x ≤ v
    · have hn : ¬ v < x := by omega
      rw [if_pos h, fold_pre r [x :: u] v [], List.takeWhile_cons_of_neg (by simpa using h), List.dropWhile_cons_of_neg (by simpa using h)]
      show [x :: u] ++ r.foldl ustep [[v]] = _
      have e1 : units (v :: r) = r.foldl ustep [[v]] := rfl
      rw [e1]; simp
    · have hn : v < x := by omega
      rw [if_neg h, List.takeWhile_cons_of_pos (by simpa using hn), List.dropWhile_cons_of_pos (by simpa using hn), List.nil_append]
      have := fold_one r x (u ++ [v])
      rw [List.cons_append, this]; simp
theorem units_nil : units [] = [] := rfl
theorem units_cons (x : Int) (r : List Int) : units (x :: r) = (x :: r.takeWhile fun y => decide (y < x)) :: units (r.dropWhile fun y => decide (y < x)) := by
  have h := fold_one r x []
  rw [List.nil_append] at h
  exact h
theorem units_len : ∀ (n : Nat) (l : List Int), l.length ≤ n → (units l).length ≤ l.length ∧ (∀ u ∈ units l, u ≠ [] ∧ u.length ≤ l.length) ∧ (units l).flatten = l
  | _, [], _ => by simp [units_nil]
  | 0, _ :: _, h => by simp at h
  | n + 1, x :: r, h => by
    rw [List.length_cons] at h
    have hd := (List.dropWhile_suffix (l := r) fun y => decide (y < x)).length_le
    have ht := (List.takeWhile_prefix (l := r) fun y => decide (y < x)).length_le
    obtain ⟨h1, h2, h3⟩ := units_len n (r.dropWhile fun y => decide (y < x)) (by omega)
    rw [units_cons]
    refine ⟨by simp only [List.length_cons]; omega, fun u hu => ?_, ?_⟩
    · rcases List.mem_cons.mp hu with e | hu
      · subst e; exact ⟨by simp, by simp only [List.length_cons]; omega⟩
      · obtain ⟨g1, g2⟩ := h2 u hu
        exact ⟨g1, by simp only [List.length_cons]; omega⟩
    · rw [List.flatten_cons, h3, List.cons_append, List.takeWhile_append_dropWhile]
/-! ### where units begin -/
def starts : Nat → List (List Int) → List Nat
  | _, [] => []
  | f, u :: r => f :: starts (f + u.length) r
/-- v[q] is the greatest from a on -/
def Rec (v : List Int) (a q : Nat) : Prop := a ≤ q ∧ q < v.length ∧ ∀ j, a ≤ j → j < q → v.getD j 0 ≤ v.getD q 0
theorem Rec.self {v : List Int} {a : Nat} (h : a < v.length) : Rec v a a := ⟨Nat.le_refl _, h, fun j h1 h2 => by omega⟩
theorem Rec.sub {v : List Int} {a b q : Nat} (h : Rec v a q) (h1 : a ≤ b) (h2 : b ≤ q) : Rec v b q := ⟨h2, h.2.1, fun j g1 g2 => h.2.2 j (by omega) g2⟩
theorem Rec.trans {v : List Int} {a b q : Nat} (h : Rec v a b) (g : Rec v b q) : Rec v a q := ⟨Nat.le_trans h.1 g.1, g.2.1, fun j g1 g2 => by
  by_cases hj : j < b
  · have h1 := h.2.2 j g1 hj
    by_cases hb : b < q
    · have h2 := g.2.2 b (Nat.le_refl _) hb
      omega
    · have e : b = q := by have := g.1; omega
      rw [← e]; exact h1
  · exact g.2.2 j (by omega) g2⟩
/-- the starts in a stretch: l stands in v from f on -/
theorem mem_starts : ∀ (n : Nat) (v pre l post : List Int), l.length ≤ n → v = pre ++ l ++ post → ∀ q, q ∈ starts pre.length (units l) ↔ Rec v pre.length q ∧ q < pre.length + l.length
  | _, v, pre, [], post, _, hv, q => by
    simp [units_nil, starts]
    intro h; exact h.1
  | 0, v, pre, _ :: _, post, h, _, q => by simp at h
  | n + 1, v, pre, x :: r, post, h, hv, q => by
    rw [units_cons]
    rw [List.length_cons] at h
    have hd := (List.dropWhile_suffix (l := r) fun y => decide (y < x)).length_le
    have hsplit : r = (r.takeWhile fun y => decide (y < x)) ++ r.dropWhile fun y => decide (y < x) := (List.takeWhile_append_dropWhile).symm
    generalize ht : (r.takeWhile fun y => decide (y < x)) = t at *
    generalize hdd : (r.dropWhile fun y => decide (y < x)) = d at *
    have htx : ∀ y ∈ t, y < x := fun y hy => by
      rw [← ht] at hy
      have := List.all_takeWhile (l := r) (p := fun y => decide (y < x))
      have := List.all_eq_true.mp this y hy
      simpa using this
    have hdx : ∀ y, d.head? = some y → x ≤ y := fun y hy => by
      have := List.head?_dropWhile_not (fun y => decide (y < x)) r
      rw [hdd, hy] at this
      simpa using this
    have hv2 : v = (pre ++ x :: t) ++ d ++ post := by rw [hv, hsplit]; simp
    have ih := mem_starts n v (pre ++ x :: t) d post (by omega) hv2 q
    have elen : (pre ++ x :: t).length = pre.length + (x :: t).length := by simp
    rw [elen] at ih
    show q ∈ pre.length :: starts (pre.length + (x :: t).length) (units d) ↔ _
    rw [List.mem_cons, ih]
    have hlen : r.length = t.length + d.length := by rw [hsplit, List.length_append]
    have hvl : v.length = pre.length + (1 + r.length) + post.length := by rw [hv]; simp; omega
    have vx : v.getD pre.length 0 = x := by rw [hv]; simp
    have vt : ∀ j, pre.length < j → j < pre.length + (1 + t.length) → v.getD j 0 < x := fun j h1 h2 => by
      have e : v.getD j 0 ∈ t := by
        rw [hv2]
        obtain ⟨i, rfl⟩ : ∃ i, j = pre.length + (i + 1) := ⟨j - pre.length - 1, by omega⟩
        have hi : i < t.length := by omega
        have e1 : ((pre ++ x :: t) ++ d ++ post).getD (pre.length + (i + 1)) 0 = t[i] := by
          rw [List.getD_eq_getElem?_getD, List.append_assoc, List.append_assoc, List.getElem?_append_right (by omega), Nat.add_sub_cancel_left, List.cons_append, List.getElem?_cons_succ, List.getElem?_append_left hi, List.getElem?_eq_getElem hi]; rfl
        rw [e1]
        exact List.getElem_mem hi
      exact htx _ e
    simp only [List.length_cons] at *
    constructor
    · rintro (e | ⟨h1, h2⟩)
      · subst e
        exact ⟨Rec.self (by omega), by omega⟩
      · refine ⟨⟨by have := h1.1; omega, h1.2.1, fun j g1 g2 => ?_⟩, by omega⟩
        have hq := h1.1
        -- v[q] ≥ x
        have hx : x ≤ v.getD q 0 := by
          have hd0 : d ≠ [] := fun z => by rw [z] at h2; simp at h2; omega
          obtain ⟨y, d', rfl⟩ := List.exists_cons_of_ne_nil hd0
          have hy := hdx y rfl
          have vy : v.getD (pre.length + (t.length + 1)) 0 = y := by
            rw [hv2, List.getD_eq_getElem?_getD, List.append_assoc, List.append_assoc, List.getElem?_append_right (by omega), Nat.add_sub_cancel_left, List.cons_append, List.getElem?_cons_succ, List.getElem?_append_right (by omega), Nat.sub_self]; rfl
          by_cases e : q = pre.length + (t.length + 1)
          · rw [e, vy]; exact hy
          · have := h1.2.2 (pre.length + (t.length + 1)) (Nat.le_refl _) (by omega)
            rw [vy] at this
            omega
        by_cases hj : j < pre.length + (t.length + 1)
        · by_cases hj2 : j = pre.length
          · rw [hj2, vx]; exact hx
          · have := vt j (by omega) (by omega)
            omega
        · exact h1.2.2 j (by omega) g2
    · rintro ⟨h1, h2⟩
      by_cases e : q = pre.length
      · exact .inl e
      · right
        have hq := h1.1
        have hxq := h1.2.2 pre.length (Nat.le_refl _) (by omega)
        rw [vx] at hxq
        have hge : pre.length + (t.length + 1) ≤ q := by
          by_cases hlt : q < pre.length + (1 + t.length)
          · have := vt q (by omega) hlt
            omega
          · omega
        exact ⟨h1.sub (by omega) hge, by omega⟩
theorem starts_lt : ∀ (us : List (List Int)) (f : Nat), (∀ u ∈ us, u ≠ []) → (starts f us).Pairwise (· < ·) ∧ ∀ q ∈ starts f us, f ≤ q ∧ q < f + us.flatten.length
  | [], f, _ => by simp [starts]
  | u :: r, f, h => by
    have hu : 0 < u.length := List.length_pos_iff.mpr (h u List.mem_cons_self)
    obtain ⟨h1, h2⟩ := starts_lt r (f + u.length) fun w hw => h w (List.mem_cons_of_mem _ hw)
    unfold starts
    refine ⟨List.pairwise_cons.mpr ⟨fun q hq => by have := (h2 q hq).1; omega, h1⟩, fun q hq => ?_⟩
    rw [List.flatten_cons, List.length_append]
    rcases List.mem_cons.mp hq with e | hq
    · omega
    · have := h2 q hq
      omega
end K45

namespace K45
/-! ### the marks of a cut -/
def marksGo (v : List Int) : Nat → List Nat → List Nat
  | _, [] => []
  | f, c :: cs => starts f (units ((v.drop f).take (c - f))) ++ marksGo v c cs
theorem stretch (v : List Int) (f c : Nat) (h1 : f ≤ c) (h2 : c ≤ v.length) : v = v.take f ++ (v.drop f).take (c - f) ++ v.drop c ∧ (v.take f).length = f ∧ ((v.drop f).take (c - f)).length = c - f := by
  refine ⟨?_, by rw [List.length_take]; omega, by rw [List.length_take, List.length_drop]; omega⟩
  have e : v.drop c = (v.drop f).drop (c - f) := by rw [List.drop_drop]; congr 1; omega
  rw [e, List.append_assoc, List.take_append_drop, List.take_append_drop]
theorem starts_stretch (v : List Int) (f c : Nat) (h1 : f ≤ c) (h2 : c ≤ v.length) (q : Nat) : q ∈ starts f (units ((v.drop f).take (c - f))) ↔ Rec v f q ∧ q < c := by
  obtain ⟨e1, e2, e3⟩ := stretch v f c h1 h2
  have h := mem_starts _ v (v.take f) ((v.drop f).take (c - f)) (v.drop c) (Nat.le_refl _) e1 q
  rw [e2, e3] at h
  rw [h, show f + (c - f) = c by omega]
theorem starts_asc (v : List Int) (f c : Nat) (h1 : f ≤ c) (h2 : c ≤ v.length) : (starts f (units ((v.drop f).take (c - f)))).Pairwise (· < ·) ∧ ∀ q ∈ starts f (units ((v.drop f).take (c - f))), f ≤ q ∧ q < c := by
  obtain ⟨e1, e2, e3⟩ := stretch v f c h1 h2
  obtain ⟨u1, u2, u3⟩ := units_len _ ((v.drop f).take (c - f)) (Nat.le_refl _)
  obtain ⟨g1, g2⟩ := starts_lt (units ((v.drop f).take (c - f))) f fun u hu => (u2 u hu).1
  rw [u3, e3] at g2
  exact ⟨g1, fun q hq => by have := g2 q hq; omega⟩
theorem marksGo_spec (v : List Int) : ∀ (cs : List Nat) (f : Nat), (f :: cs).Pairwise (· ≤ ·) → (f :: cs).getLast? = some v.length →
    (marksGo v f cs).Pairwise (· < ·) ∧ (∀ q ∈ marksGo v f cs, f ≤ q) ∧ ∀ q, q ∈ marksGo v f cs ↔ ∃ a ∈ f :: cs, Rec v a q
  | [], f, _, hl => by
    have e : f = v.length := by simpa using hl
    refine ⟨List.Pairwise.nil, (fun q hq => by cases hq), fun q => ⟨(fun h => by cases h), fun ⟨a, ha, h⟩ => ?_⟩⟩
    have ea : a = f := by simpa using ha
    have := h.1
    have := h.2.1
    omega
  | c :: cs, f, hp, hl => by
    obtain ⟨p1, p2⟩ := List.pairwise_cons.mp hp
    have hfc := p1 c List.mem_cons_self
    have hcn : c ≤ v.length := by
      have hm : v.length ∈ c :: cs := by
        have hl' : (c :: cs).getLast? = some v.length := by rw [List.getLast?_cons_cons] at hl; exact hl
        exact List.mem_of_getLast? hl'
      rcases List.mem_cons.mp hm with e | h
      · omega
      · exact (List.pairwise_cons.mp p2).1 _ h
    obtain ⟨g1, g2, g3⟩ := marksGo_spec v cs c p2 (by rw [List.getLast?_cons_cons] at hl; exact hl)
    obtain ⟨s1, s2⟩ := starts_asc v f c hfc hcn
    have s3 := starts_stretch v f c hfc hcn
    unfold marksGo
    refine ⟨List.pairwise_append.mpr ⟨s1, g1, fun a ha b hb => ?_⟩, fun q hq => ?_, fun q => ?_⟩
    · have := (s2 a ha).2
      have := g2 b hb
      omega
    · rcases List.mem_append.mp hq with h | h
      · exact (s2 q h).1
      · have := g2 q h; omega
    · rw [List.mem_append, s3 q, g3 q]
      constructor
      · rintro (⟨h, _⟩ | ⟨a, ha, h⟩)
        · exact ⟨f, List.mem_cons_self, h⟩
        · exact ⟨a, List.mem_cons_of_mem _ ha, h⟩
      · rintro ⟨a, ha, h⟩
        by_cases hqc : q < c
        · rcases List.mem_cons.mp ha with e | ha
          · subst e; exact .inl ⟨h, hqc⟩
          · exfalso
            have hca : c ≤ a := by
              rcases List.mem_cons.mp ha with e | ha'
              · omega
              · exact (List.pairwise_cons.mp p2).1 a ha'
            have := h.1
            omega
        · rcases List.mem_cons.mp ha with e | ha
          · subst e; exact .inr ⟨c, List.mem_cons_self, h.sub hfc (by omega)⟩
          · exact .inr ⟨a, ha, h⟩
/-! ### parents -/
def par (v : List Int) (p : Nat) : Option Nat := (List.range' (p + 1) (v.length - (p + 1))).find? fun q => decide (v.getD p 0 ≤ v.getD q 0)
theorem par_some {v : List Int} {p r : Nat} (h : par v p = some r) : p < r ∧ Rec v p r ∧ ∀ j, p < j → j < r → v.getD j 0 < v.getD p 0 := by
  unfold par at h
  have h1 := List.find?_some h
  have hm := List.mem_of_find?_eq_some h
  rw [List.mem_range'_1] at hm
  have hlow : ∀ j, p < j → j < r → v.getD j 0 < v.getD p 0 := fun j g1 g2 => by
    obtain ⟨_, as, bs, e, hno⟩ := List.find?_eq_some_iff_append.mp h
    have hj : j ∈ List.range' (p + 1) (v.length - (p + 1)) := List.mem_range'_1.mpr ⟨by omega, by omega⟩
    rw [e] at hj
    have hpw := List.pairwise_lt_range' (s := p + 1) (n := v.length - (p + 1))
    rw [e] at hpw
    have hja : j ∈ as := by
      rcases List.mem_append.mp hj with h | h
      · exact h
      · exfalso
        rcases List.mem_cons.mp h with h | h
        · omega
        · have := (List.pairwise_cons.mp (List.pairwise_append.mp hpw).2.1).1 j h
          omega
    have := hno j hja
    simp at this
    exact this
  have hpr : v.getD p 0 ≤ v.getD r 0 := by simpa using h1
  refine ⟨by omega, ⟨by omega, by omega, fun j g1 g2 => ?_⟩, hlow⟩
  by_cases e : j = p
  · rw [e]; exact hpr
  · have := hlow j (by omega) g2
    omega
theorem par_none {v : List Int} {p : Nat} (h : par v p = none) : ∀ j, p < j → j < v.length → v.getD j 0 < v.getD p 0 := fun j g1 g2 => by
  unfold par at h
  have := List.find?_eq_none.mp h j (List.mem_range'_1.mpr ⟨by omega, by omega⟩)
  simp at this
  exact this
theorem rec_par {v : List Int} {p q : Nat} (h : Rec v p q) : p = q ∨ ∃ r, par v p = some r ∧ Rec v r q := by
  by_cases e : p = q
  · exact .inl e
  · right
    have hpq : p < q := by have := h.1; omega
    cases hp : par v p with
    | none =>
      have h1 := par_none hp q hpq h.2.1
      have h2 := h.2.2 p (Nat.le_refl _) hpq
      omega
    | some r =>
      obtain ⟨g1, g2, g3⟩ := par_some hp
      refine ⟨r, rfl, h.sub (by omega) ?_⟩
      by_cases hr : r ≤ q
      · exact hr
      · have h1 := g3 q hpq (by omega)
        have h2 := h.2.2 p (Nat.le_refl _) hpq
        omega
/-! ### closed sets -/
structure Good (v : List Int) (b : List Nat) : Prop where
  asc : b.Pairwise (· < ·)
  lt : ∀ p ∈ b, p < v.length
  cl : ∀ p ∈ b, ∀ q, Rec v p q → q ∈ b
  zero : 0 < v.length → 0 ∈ b
theorem good_gap {v : List Int} {b : List Nat} (g : Good v b) {x y : Nat} (hx : x ∈ b) (hy : ∀ z ∈ b, ¬ (x < z ∧ z < y)) (j : Nat) (h1 : x < j) (h2 : j < y) (h3 : j < v.length) : v.getD j 0 < v.getD x 0 := by
  cases hp : par v x with
  | none => exact par_none hp j h1 h3
  | some r =>
    obtain ⟨g1, g2, g3⟩ := par_some hp
    have hr := g.cl x hx r g2
    by_cases hj : j < r
    · exact g3 j h1 hj
    · exact absurd ⟨g1, by omega⟩ (hy r hr)
theorem asc_eq : ∀ {a b : List Nat}, a.Pairwise (· < ·) → b.Pairwise (· < ·) → (∀ z, z ∈ a ↔ z ∈ b) → a = b
  | [], [], _, _, _ => rfl
  | [], y :: b, _, _, h => by have := (h y).mpr List.mem_cons_self; cases this
  | x :: a, [], _, _, h => by have := (h x).mp List.mem_cons_self; cases this
  | x :: a, y :: b, ha, hb, h => by
    obtain ⟨a1, a2⟩ := List.pairwise_cons.mp ha
    obtain ⟨b1, b2⟩ := List.pairwise_cons.mp hb
    have e : x = y := by
      rcases List.mem_cons.mp ((h x).mp List.mem_cons_self) with e | hx
      · exact e
      · rcases List.mem_cons.mp ((h y).mpr List.mem_cons_self) with e | hy
        · exact e.symm
        · have q1 := b1 x hx
          have q2 := a1 y hy
          omega
    subst e
    rw [asc_eq a2 b2 fun z => ?_]
    constructor
    · intro hz
      rcases List.mem_cons.mp ((h z).mp (List.mem_cons_of_mem _ hz)) with e | q
      · have := a1 z hz; omega
      · exact q
    · intro hz
      rcases List.mem_cons.mp ((h z).mpr (List.mem_cons_of_mem _ hz)) with e | q
      · have := b1 z hz; omega
      · exact q
/-- the list of the marks: whatever it is made of -/
structure Marks (v : List Int) (ps m : List Nat) : Prop where
  asc : m.Pairwise (· < ·)
  mem : ∀ q, q ∈ m ↔ ∃ a ∈ 0 :: ps, Rec v a q
theorem Marks.good {v : List Int} {ps m : List Nat} (h : Marks v ps m) : Good v m := ⟨h.asc, fun p hp => by
  obtain ⟨a, _, r⟩ := (h.mem p).mp hp
  exact r.2.1, fun p hp q hq => by
  obtain ⟨a, ha, r⟩ := (h.mem p).mp hp
  exact (h.mem q).mpr ⟨a, ha, r.trans hq⟩, fun h0 => (h.mem 0).mpr ⟨0, List.mem_cons_self, Rec.self h0⟩⟩
theorem Marks.uniq {v : List Int} {ps ps' m m' : List Nat} (h : Marks v ps m) (h' : Marks v ps' m') (e : ∀ q, (∃ a ∈ 0 :: ps, Rec v a q) ↔ ∃ a ∈ 0 :: ps', Rec v a q) : m = m' := asc_eq h.asc h'.asc fun z => by rw [h.mem, h'.mem, e]
/-- the marks of a closed set are the set -/
theorem Marks.of_good {v : List Int} {b m : List Nat} (g : Good v b) (h : Marks v b m) : m = b := asc_eq h.asc g.asc fun z => by
  rw [h.mem]
  constructor
  · rintro ⟨a, ha, r⟩
    rcases List.mem_cons.mp ha with e | ha
    · subst e
      exact g.cl 0 (g.zero (by have := r.2.1; omega)) z r
    · exact g.cl a ha z r
  · exact fun hz => ⟨z, List.mem_cons_of_mem _ hz, Rec.self (g.lt z hz)⟩
/-! the least places -/
def least (v : List Int) : List Nat → List Nat
  | x :: y :: r => if v.getD y 0 < v.getD x 0 then y :: least v (y :: r) else least v (y :: r)
  | _ => []
theorem least_sub (v : List Int) : ∀ b : List Nat, ∀ q ∈ least v b, q ∈ b
  | [], q, h => by cases h
  | [x], q, h => by cases h
  | x :: y :: r, q, h => by
    unfold least at h
    split at h
    · rcases List.mem_cons.mp h with e | h
      · subst e; simp
      · exact List.mem_cons_of_mem _ (least_sub v (y :: r) q h)
    · exact List.mem_cons_of_mem _ (least_sub v (y :: r) q h)
theorem least_all {v : List Int} {b : List Nat} (g : Good v b) (L : List Nat) : ∀ (s : List Nat) (x : Nat), (∃ pre, b = pre ++ x :: s) → (∀ q ∈ least v (x :: s), q ∈ L) → (∃ a ∈ 0 :: L, Rec v a x) → ∀ q ∈ x :: s, ∃ a ∈ 0 :: L, Rec v a q
  | [], x, _, _, hx, q, hq => by
    rw [List.mem_singleton.mp hq]; exact hx
  | y :: r, x, ⟨pre, e⟩, hL, hx, q, hq => by
    rcases List.mem_cons.mp hq with e' | hq
    · rw [e']; exact hx
    · have hxb : x ∈ b := by rw [e]; simp
      have hyb : y ∈ b := by rw [e]; simp
      have hasc := g.asc
      rw [e] at hasc
      have hxy : x < y := (List.pairwise_cons.mp (List.pairwise_append.mp hasc).2.1).1 y List.mem_cons_self
      have hgap : ∀ z ∈ b, ¬ (x < z ∧ z < y) := fun z hz ⟨h1, h2⟩ => by
        rw [e] at hz
        rcases List.mem_append.mp hz with h | h
        · have := (List.pairwise_append.mp hasc).2.2 z h x List.mem_cons_self
          omega
        · rcases List.mem_cons.mp h with h | h
          · omega
          · rcases List.mem_cons.mp h with h | h
            · omega
            · have := (List.pairwise_cons.mp (List.pairwise_cons.mp (List.pairwise_append.mp hasc).2.1).2).1 z h
              omega
      refine least_all g L r y ⟨pre ++ [x], by rw [e]; simp⟩ (fun z hz => hL z ?_) ?_ q hq
      · unfold least
        split
        · exact List.mem_cons_of_mem _ hz
        · exact hz
      · by_cases hlt : v.getD y 0 < v.getD x 0
        · refine ⟨y, List.mem_cons_of_mem _ (hL y ?_), Rec.self (g.lt y hyb)⟩
          unfold least
          rw [if_pos hlt]; exact List.mem_cons_self
        · obtain ⟨a, ha, ra⟩ := hx
          refine ⟨a, ha, ra.trans ⟨by omega, g.lt y hyb, fun j g1 g2 => ?_⟩⟩
          by_cases ej : j = x
          · rw [ej]; omega
          · have := good_gap g hxb hgap j (by omega) g2 (by have := g.lt y hyb; omega)
            omega
theorem least_marks {v : List Int} {b m : List Nat} (g : Good v b) (h : Marks v (least v b) m) : m = b := asc_eq h.asc g.asc fun z => by
  rw [h.mem]
  constructor
  · rintro ⟨a, ha, r⟩
    rcases List.mem_cons.mp ha with e | ha
    · subst e
      exact g.cl 0 (g.zero (by have := r.2.1; omega)) z r
    · exact g.cl a (least_sub v b a ha) z r
  · intro hz
    have h0 : 0 < v.length := by have := g.lt z hz; omega
    have hz0 := g.zero h0
    cases hb : b with
    | nil => rw [hb] at hz; cases hz
    | cons x s =>
      have hx : x = 0 := by
        have hasc := g.asc
        rw [hb] at hasc hz0
        rcases List.mem_cons.mp hz0 with e | e
        · exact e.symm
        · have := (List.pairwise_cons.mp hasc).1 0 e
          omega
      rw [← hb]
      refine least_all g (least v b) s x ⟨[], by rw [hb]; rfl⟩ (fun q hq => by rw [hb]; exact hq) ⟨0, List.mem_cons_self, by rw [hx]; exact Rec.self h0⟩ z (by rw [← hb]; exact hz)
/-! meets and joins -/
theorem Good.inter {v : List Int} {a b c : List Nat} (ga : Good v a) (gb : Good v b) (hc : c.Pairwise (· < ·)) (h : ∀ z, z ∈ c ↔ z ∈ a ∧ z ∈ b) : Good v c := ⟨hc, fun p hp => ga.lt p ((h p).mp hp).1, fun p hp q hq => (h q).mpr ⟨ga.cl p ((h p).mp hp).1 q hq, gb.cl p ((h p).mp hp).2 q hq⟩, fun h0 => (h 0).mpr ⟨ga.zero h0, gb.zero h0⟩⟩
theorem Good.union {v : List Int} {a b c : List Nat} (ga : Good v a) (gb : Good v b) (hc : c.Pairwise (· < ·)) (h : ∀ z, z ∈ c ↔ z ∈ a ∨ z ∈ b) : Good v c := ⟨hc, fun p hp => ((h p).mp hp).elim (ga.lt p) (gb.lt p), fun p hp q hq => (h q).mpr (((h p).mp hp).elim (fun x => .inl (ga.cl p x q hq)) fun x => .inr (gb.cl p x q hq)), fun h0 => (h 0).mpr (.inl (ga.zero h0))⟩
end K45

namespace K45
/-! ### the parts of a cut -/
abbrev T3 := Int × Nat × Nat
def pr (v : List Int) : List Nat → List T3
  | [] => []
  | [p] => [(v.getD p 0, p, v.length)]
  | p :: q :: r => (v.getD p 0, p, q) :: pr v (q :: r)
def le3 (p q : T3) : Bool := decide (p.1 < q.1 ∨ p.1 = q.1 ∧ (p.2.1 < q.2.1 ∨ p.2.1 = q.2.1 ∧ p.2.2 ≤ q.2.2))
def slice (v : List Int) (p : T3) : List Int := (v.drop p.2.1).take (p.2.2 - p.2.1)
def sparts (v : List Int) (b : List Nat) : List T3 := (pr v b).mergeSort le3
def joinL (v : List Int) (b : List Nat) : List Int := ((sparts v b).map (slice v)).flatten
theorem le3_trans (a b c : T3) (h1 : le3 a b = true) (h2 : le3 b c = true) : le3 a c = true := by
  unfold le3 at *
  simp only [decide_eq_true_eq] at *
  omega
theorem le3_total (a b : T3) : (le3 a b || le3 b a) = true := by
  unfold le3
  simp only [Bool.or_eq_true, decide_eq_true_eq]
  omega
theorem sparts_perm (v : List Int) (b : List Nat) : (sparts v b).Perm (pr v b) := List.mergeSort_perm _ _
theorem sparts_pw (v : List Int) (b : List Nat) : (sparts v b).Pairwise fun p q => le3 p q = true := List.pairwise_mergeSort le3_trans le3_total _
/-- the firsts are the bounds -/
theorem pr_firsts (v : List Int) : ∀ b : List Nat, (pr v b).map (fun p => p.2.1) = b
  | [] => rfl
  | [p] => rfl
  | p :: q :: r => by
    show p :: (pr v (q :: r)).map _ = _
    rw [pr_firsts v (q :: r)]
/-- a part is its leader and less -/
def Unit (u : List Int) (x : Int) : Prop := ∃ t, u = x :: t ∧ ∀ y ∈ t, y < x
theorem drop_take_unit {v : List Int} {p e : Nat} (h1 : p < e) (h2 : e ≤ v.length) (h : ∀ j, p < j → j < e → v.getD j 0 < v.getD p 0) : Unit ((v.drop p).take (e - p)) (v.getD p 0) := by
  have hp : p < v.length := by omega
  have e1 : v.drop p = v[p] :: v.drop (p + 1) := List.drop_eq_getElem_cons hp
  have e2 : v.getD p 0 = v[p] := by rw [List.getD_eq_getElem?_getD, List.getElem?_eq_getElem hp]; rfl
  refine ⟨(v.drop (p + 1)).take (e - p - 1), ?_, fun y hy => ?_⟩
  · rw [e1, e2]
    obtain ⟨k, hk⟩ : ∃ k, e - p = k + 1 := ⟨e - p - 1, by omega⟩
    rw [hk, List.take_succ_cons, Nat.add_sub_cancel]
  · obtain ⟨i, hi, rfl⟩ := List.mem_iff_getElem.mp hy
    rw [List.length_take, List.length_drop] at hi
    rw [List.getElem_take, List.getElem_drop]
    have := h (p + 1 + i) (by omega) (by omega)
    rw [List.getD_eq_getElem?_getD, List.getElem?_eq_getElem (by omega)] at this
    exact this
theorem pr_unit {v : List Int} {b : List Nat} (g : Good v b) : ∀ (s : List Nat), (∃ pre, b = pre ++ s) → ∀ p ∈ pr v s, p.1 = v.getD p.2.1 0 ∧ p.2.1 < p.2.2 ∧ p.2.2 ≤ v.length ∧ Unit (slice v p) p.1
  | [], _, p, hp => by cases hp
  | [x], ⟨pre, e⟩, p, hp => by
    have ep : p = (v.getD x 0, x, v.length) := List.mem_singleton.mp hp
    have hxb : x ∈ b := by rw [e]; simp
    have hx := g.lt x hxb
    subst ep
    refine ⟨rfl, hx, Nat.le_refl _, drop_take_unit hx (Nat.le_refl _) fun j h1 h2 => good_gap g hxb (y := v.length) (fun z hz ⟨g1, g2⟩ => ?_) j h1 h2 h2⟩
    have hasc := g.asc
    rw [e] at hz hasc
    rcases List.mem_append.mp hz with h | h
    · have := (List.pairwise_append.mp hasc).2.2 z h x List.mem_cons_self
      omega
    · have : z = x := List.mem_singleton.mp h
      omega
  | x :: y :: r, ⟨pre, e⟩, p, hp => by
    have hxb : x ∈ b := by rw [e]; simp
    have hyb : y ∈ b := by rw [e]; simp
    have hasc := g.asc
    rw [e] at hasc
    have hxy : x < y := (List.pairwise_cons.mp (List.pairwise_append.mp hasc).2.1).1 y List.mem_cons_self
    have hyn := g.lt y hyb
    rcases List.mem_cons.mp hp with ep | hp
    · subst ep
      refine ⟨rfl, hxy, by show y ≤ _; omega, drop_take_unit hxy (by show y ≤ _; omega) fun j h1 h2 => good_gap g hxb (y := y) (fun z hz ⟨g1, g2⟩ => ?_) j h1 h2 (by have : j < y := h2; omega)⟩
      rw [e] at hz
      rcases List.mem_append.mp hz with h | h
      · have := (List.pairwise_append.mp hasc).2.2 z h x List.mem_cons_self
        omega
      · rcases List.mem_cons.mp h with h | h
        · omega
        · rcases List.mem_cons.mp h with h | h
          · omega
          · have := (List.pairwise_cons.mp (List.pairwise_cons.mp (List.pairwise_append.mp hasc).2.1).2).1 z h
            omega
    · exact pr_unit g (y :: r) ⟨pre ++ [x], by rw [e]; simp⟩ p hp
/-! units of rising units -/
theorem takeW_unit (x : Int) (rest : List Int) (hr : ∀ y, rest.head? = some y → x ≤ y) : ∀ t : List Int, (∀ y ∈ t, y < x) → (t ++ rest).takeWhile (fun y => decide (y < x)) = t ∧ (t ++ rest).dropWhile (fun y => decide (y < x)) = rest
  | [], _ => by
    cases rest with
    | nil => exact ⟨rfl, rfl⟩
    | cons y r =>
      have := hr y rfl
      exact ⟨List.takeWhile_cons_of_neg (by simp; omega), List.dropWhile_cons_of_neg (by simp; omega)⟩
  | z :: t, h => by
    have hz := h z List.mem_cons_self
    obtain ⟨h1, h2⟩ := takeW_unit x rest hr t fun y hy => h y (List.mem_cons_of_mem _ hy)
    rw [List.cons_append, List.takeWhile_cons_of_pos (by simpa using hz), List.dropWhile_cons_of_pos (by simpa using hz), h1, h2]
    exact ⟨rfl, rfl⟩
theorem units_rise (v : List Int) : ∀ (S : List T3), (∀ p ∈ S, Unit (slice v p) p.1) → S.Pairwise (fun p q => p.1 ≤ q.1) → units ((S.map (slice v)).flatten) = S.map (slice v)
  | [], _, _ => rfl
  | p :: S, h, hp => by
    obtain ⟨t, e, ht⟩ := h p List.mem_cons_self
    obtain ⟨p1, p2⟩ := List.pairwise_cons.mp hp
    have ih := units_rise v S (fun q hq => h q (List.mem_cons_of_mem _ hq)) p2
    rw [List.map_cons, List.flatten_cons, e, List.cons_append, units_cons]
    have hr : ∀ y, ((S.map (slice v)).flatten).head? = some y → p.1 ≤ y := fun y hy => by
      cases S with
      | nil => cases hy
      | cons q S =>
        obtain ⟨t', e', _⟩ := h q (List.mem_cons_of_mem _ List.mem_cons_self)
        rw [List.map_cons, List.flatten_cons, e', List.cons_append] at hy
        have : q.1 = y := by simpa using hy
        rw [← this]
        exact p1 q List.mem_cons_self
    obtain ⟨g1, g2⟩ := takeW_unit p.1 _ hr t ht
    rw [g1, g2, ih]
theorem units_join {v : List Int} {b : List Nat} (g : Good v b) : units (joinL v b) = (sparts v b).map (slice v) := by
  refine units_rise v _ (fun p hp => (pr_unit g b ⟨[], rfl⟩ p ((sparts_perm v b).mem_iff.mp hp)).2.2.2) ((sparts_pw v b).imp fun h => ?_)
  unfold le3 at h
  simp only [decide_eq_true_eq] at h
  omega
/-! ### finding the parts again -/
/-- what is left, part by part -/
structure Left (v : List Int) (L : List T3) (s : List Nat) : Prop where
  perm : L.Perm (pr v s)
  pw : L.Pairwise fun p q => le3 p q = true
theorem pr_cons (v : List Int) (x : Nat) (s : List Nat) : ∃ e, pr v (x :: s) = (v.getD x 0, x, e) :: pr v s ∧ (s = [] → e = v.length) ∧ ∀ y r, s = y :: r → e = y := by
  cases s with
  | nil => exact ⟨v.length, rfl, fun _ => rfl, fun _ _ h => nomatch h⟩
  | cons y r => exact ⟨y, rfl, (fun h => nomatch h), fun y' r' h => by cases h; rfl⟩
theorem left_step {v : List Int} {b : List Nat} (g : Good v b) {L : List T3} {x : Nat} {s : List Nat} (hs : ∃ pre, b = pre ++ x :: s) (h : Left v L (x :: s)) :
    ∃ (e : Nat) (A C : List T3), pr v (x :: s) = (v.getD x 0, x, e) :: pr v s ∧ L = A ++ (v.getD x 0, x, e) :: C ∧ (∀ a ∈ A, a.1 ≠ v.getD x 0 ∧ Unit (slice v a) a.1) ∧ Left v (A ++ C) s ∧ Unit (slice v (v.getD x 0, x, e)) (v.getD x 0) ∧ x < e ∧ e ≤ v.length ∧ (s = [] → e = v.length) ∧ (∀ y r, s = y :: r → e = y) ∧ ∀ c ∈ C, Unit (slice v c) c.1 := by
  obtain ⟨e, he, he1, he2⟩ := pr_cons v x s
  have hm : (v.getD x 0, x, e) ∈ L := h.perm.mem_iff.mpr (by rw [he]; exact List.mem_cons_self)
  obtain ⟨A, C, hL⟩ := List.append_of_mem hm
  obtain ⟨pre, hb⟩ := hs
  have hasc : (x :: s).Pairwise (· < ·) := by
    have := g.asc
    rw [hb] at this
    exact (List.pairwise_append.mp this).2.1
  have hun := pr_unit g (x :: s) ⟨pre, hb⟩
  have hfir : ∀ q ∈ pr v s, x < q.2.1 := fun q hq => by
    have : q.2.1 ∈ s := by
      rw [← pr_firsts v s]
      exact List.mem_map.mpr ⟨q, hq, rfl⟩
    exact (List.pairwise_cons.mp hasc).1 _ this
  have hperm : (A ++ C).Perm (pr v s) := by
    have h1 := h.perm
    rw [hL, he] at h1
    exact (List.perm_middle.symm.trans h1).cons_inv
  have hpw := h.pw
  rw [hL] at hpw
  have hall : ∀ q ∈ L, Unit (slice v q) q.1 := fun q hq => (hun q (h.perm.mem_iff.mp hq)).2.2.2
  refine ⟨e, A, C, he, hL, fun a ha => ?_, ⟨hperm, ?_⟩, ?_, ?_, ?_, he1, he2, ?_⟩
  · have h1 := (List.pairwise_append.mp hpw).2.2 a ha _ List.mem_cons_self
    have h2 := hfir a (hperm.mem_iff.mp (List.mem_append_left _ ha))
    unfold le3 at h1
    simp only [decide_eq_true_eq] at h1
    refine ⟨by omega, hall a (by rw [hL]; exact List.mem_append_left _ ha)⟩
  · obtain ⟨w1, w2, w3⟩ := List.pairwise_append.mp hpw
    exact List.pairwise_append.mpr ⟨w1, (List.pairwise_cons.mp w2).2, fun a ha c hc => w3 a ha c (List.mem_cons_of_mem _ hc)⟩
  · exact (hun _ (by rw [he]; exact List.mem_cons_self)).2.2.2
  · exact (hun _ (by rw [he]; exact List.mem_cons_self)).2.1
  · exact (hun _ (by rw [he]; exact List.mem_cons_self)).2.2.1
  · exact fun c hc => hall c (by rw [hL]; exact List.mem_append_right _ (List.mem_cons_of_mem _ hc))
end K45

namespace K45
open PySem PySem.Spec PyProof.Rows L2 Mini
def topS (i : Nat) : Stmt := PySem.Challenge.pw_mergeunits_k45_whole_results_are_closed.main.body.getD i (.Pass ⟨0, 0, 0, 0⟩)
/-! ### is_whole -/
abbrev s_is_whole : Stmt := topS 4
abbrev N_is_whole : List Str := ["thing"]
abbrev P_is_whole : List Str := ["thing"]
theorem sc_is_whole : FnScope N_is_whole P_is_whole (defScope s_is_whole) := ⟨rfl, rfl, rfl, by decide +kernel, rfl, by decide +kernel, by decide +kernel⟩
noncomputable def den_is_whole : Ds := (retS (andF (isiF "int" (slotF 0)) (notF (isiF "bool" (slotF 0)))))
noncomputable def run_is_whole : List W → Bs → Out W := fnF 1 den_is_whole
theorem m_is_whole {P : Program} {w : World} {K : PySem.W.Frag} {mg : Str → Option Value} {base : Heap} {fa : Addr} {fd : FuncData} (F : Fun K "is_whole" "is_whole" s_is_whole fa fd) (g : mg "is_whole" = some (.ref fa)) (b : Binds K fd P_is_whole [])
    (z_bool : mg "bool" = none)
    (z_int : mg "int" = none)
    (z_isinstance : mg "isinstance" = none) :
    FnM P w K mg base 1 "is_whole" 1 run_is_whole :=
  fn_mini F sc_is_whole g b fun cdv A outer s H E hr => by
  have nd := sc_is_whole.nd
  have hu : (A.deeper (envOfC "is_whole" (defScope s_is_whole) s.heap.objs.size fa cdv)).units + 65 < cLine := by
    have := hr.un
    omega
  exact (ss_one (s_ret (e_and (e_isi (T := "int") (by rfl) z_isinstance (e_slot 0) (pe_bltn (by rfl) z_int (by decide +kernel) rfl)) (e_one (e_not (e_isi (T := "bool") (by rfl) z_isinstance (e_slot 0) (pe_bltn (by rfl) z_bool (by decide +kernel) rfl)))))))
/-! ### check_list -/
abbrev s_check_list : Stmt := topS 5
abbrev N_check_list : List Str := ["values", "place", "value"]
abbrev P_check_list : List Str := ["values"]
theorem sc_check_list : FnScope N_check_list P_check_list (defScope s_check_list) := ⟨rfl, rfl, rfl, by decide +kernel, rfl, by decide +kernel, by decide +kernel⟩
noncomputable def lb_check_list_1 : Ds := (ifS (notT (truthF (callF 1 run_is_whole (consF (slotF 2) nilF)))) badS nxS)
noncomputable def den_check_list : Ds := (seqS (ifS (notT (truthF (isiF "list" (slotF 0)))) badS nxS) (forS (enumF (slotF 0)) (tgTup [1, 2]) lb_check_list_1))
noncomputable def run_check_list : List W → Bs → Out W := fnF 3 den_check_list
theorem m_check_list {P : Program} {w : World} {K : PySem.W.Frag} {mg : Str → Option Value} {base : Heap} {fa : Addr} {fd : FuncData} (F : Fun K "check_list" "check_list" s_check_list fa fd) (g : mg "check_list" = some (.ref fa)) (b : Binds K fd P_check_list [])
    (z_enumerate : mg "enumerate" = none)
    (z_isinstance : mg "isinstance" = none)
    (z_list : mg "list" = none)
    (G_is_whole : FnM P w K mg base 1 "is_whole" 1 run_is_whole) :
    FnM P w K mg base 2 "check_list" 1 run_check_list :=
  fn_mini F sc_check_list g b fun cdv A outer s H E hr => by
  have nd := sc_check_list.nd
  have hu : (A.deeper (envOfC "check_list" (defScope s_check_list) s.heap.objs.size fa cdv)).units + 65 < cLine := by
    have := hr.un
    omega
  exact (ss_cons (s_if (t_not (t_truth (e_isi (T := "list") (by rfl) z_isinstance (e_slot 0) (pe_bltn (by rfl) z_list (by decide +kernel) rfl)))) (ss_one s_never) ss_nil)
  (ss_one (s_for PassesOwn.never rfl (i_enum (by rfl) z_enumerate (e_slot 0)) (pg_tup rfl (pgs_cons (pg_name (i := 1) nd rfl (by first | exact Or.inl rfl | exact Or.inr rfl)) (pgs_cons (pg_name (i := 2) nd rfl (by first | exact Or.inl rfl | exact Or.inr rfl)) pgs_nil))) (tg_tup _ [1, 2]) (ss_one (s_if (t_not (t_truth (e_call (G_is_whole.mono (by decide)) hr (by rfl) (a_cons (e_slot 2) a_nil)))) (ss_one s_never) ss_nil)))))
/-! ### units_of -/
abbrev s_units_of : Stmt := topS 6
abbrev N_units_of : List Str := ["values", "told", "value"]
abbrev P_units_of : List Str := ["values"]
theorem sc_units_of : FnScope N_units_of P_units_of (defScope s_units_of) := ⟨rfl, rfl, rfl, by decide +kernel, rfl, by decide +kernel, by decide +kernel⟩
noncomputable def lb_units_of_1 : Ds := (ifS (orT (boolF (bin2 pEq (slotF 1) (lstF nilF))) (boolF (bin2 pGe (slotF 2) (bin2 pIx (bin2 pIx (slotF 1) (negF (constF (.int 1)))) (constF (.int 0)))))) (asgF (bin2 pAdd (slotF 1) (lstF (consF (lstF (consF (slotF 2) nilF)) nilF))) 1) (asgF (bin2 pAdd (slF (slotF 1) noO (someO (negF (constF (.int 1))))) (lstF (consF (bin2 pAdd (bin2 pIx (slotF 1) (negF (constF (.int 1)))) (lstF (consF (slotF 2) nilF))) nilF))) 1))
noncomputable def den_units_of : Ds := (seqS (asgF (lstF nilF) 1) (seqS (forS (itemsF (slotF 0)) (tgName 2) lb_units_of_1) (retS (slotF 1))))
noncomputable def run_units_of : List W → Bs → Out W := fnF 3 den_units_of
theorem m_units_of {P : Program} {w : World} {K : PySem.W.Frag} {mg : Str → Option Value} {base : Heap} {fa : Addr} {fd : FuncData} (F : Fun K "units_of" "units_of" s_units_of fa fd) (g : mg "units_of" = some (.ref fa)) (b : Binds K fd P_units_of []) :
    FnM P w K mg base 1 "units_of" 1 run_units_of :=
  fn_mini F sc_units_of g b fun cdv A outer s H E hr => by
  have nd := sc_units_of.nd
  have hu : (A.deeper (envOfC "units_of" (defScope s_units_of) s.heap.objs.size fa cdv)).units + 65 < cLine := by
    have := hr.un
    omega
  exact (ss_cons (s_set (i := 1) nd rfl (by first | exact Or.inl rfl | exact Or.inr rfl) (e_lst a_nil))
  (ss_cons (s_for PassesOwn.never rfl (i_items (e_slot 0)) (pg_name (i := 2) nd rfl (by first | exact Or.inl rfl | exact Or.inr rfl)) (tg_name _ 2) (ss_one (s_if (PW.pt (w_or (t_eq (e_slot 1) (e_lst a_nil) hu) (w_or1 (t_ge (e_slot 2) (e_ix (e_ix (e_slot 1) (e_neg e_int)) e_int))))) (ss_one (s_set (i := 1) nd rfl (by first | exact Or.inl rfl | exact Or.inr rfl) (e_add (e_slot 1) (e_lst (a_cons (e_lst (a_cons (e_slot 2) a_nil)) a_nil))))) (ss_one (s_set (i := 1) nd rfl (by first | exact Or.inl rfl | exact Or.inr rfl) (e_add (e_sl (e_slot 1) o_no (o_some (e_neg e_int))) (e_lst (a_cons (e_add (e_ix (e_slot 1) (e_neg e_int)) (e_lst (a_cons (e_slot 2) a_nil))) a_nil))))))))
  (ss_one (s_ret (e_slot 1)))))
noncomputable def lbB_units_of_1 : Ds := (ifS (orT (boolF (bin2 pEq (slotF 1) (lstF nilF))) (boolF (bin2 pGe (slotF 2) (bin2 pIx (ixbF (slotF 1) (negF (constF (.int 1)))) (constF (.int 0)))))) (asgF (addbF (slotF 1) (lstF (consF (lstF (consF (slotF 2) nilF)) nilF))) 1) (asgF (addbF (slF (slotF 1) noO (someO (negF (constF (.int 1))))) (lstF (consF (bin2 pAdd (ixbF (slotF 1) (negF (constF (.int 1)))) (lstF (consF (slotF 2) nilF))) nilF))) 1))
noncomputable def den_units_ofB : Ds := (seqS (asgF (boxF nilF) 1) (seqS (forS (itemsF (slotF 0)) (tgName 2) lbB_units_of_1) (retS (slotF 1))))
noncomputable def run_units_ofB : List W → Bs → Out W := fnF 3 den_units_ofB
theorem m_units_ofB {P : Program} {w : World} {K : PySem.W.Frag} {mg : Str → Option Value} {base : Heap} {fa : Addr} {fd : FuncData} (F : Fun K "units_of" "units_of" s_units_of fa fd) (g : mg "units_of" = some (.ref fa)) (b : Binds K fd P_units_of []) :
    FnM P w K mg base 1 "units_of" 1 run_units_ofB :=
  fn_mini F sc_units_of g b fun cdv A outer s H E hr => by
  have nd := sc_units_of.nd
  have hu : (A.deeper (envOfC "units_of" (defScope s_units_of) s.heap.objs.size fa cdv)).units + 65 < cLine := by
    have := hr.un
    omega
  exact (ss_cons (s_set (i := 1) nd rfl (by first | exact Or.inl rfl | exact Or.inr rfl) (e_box a_nil))
  (ss_cons (s_for PassesOwn.never rfl (i_items (e_slot 0)) (pg_name (i := 2) nd rfl (by first | exact Or.inl rfl | exact Or.inr rfl)) (tg_name _ 2) (ss_one (s_if (PW.pt (w_or (t_eq (e_slot 1) (e_lst a_nil) hu) (w_or1 (t_ge (e_slot 2) (e_ix (e_ixb (e_slot 1) (e_neg e_int)) e_int))))) (ss_one (s_set (i := 1) nd rfl (by first | exact Or.inl rfl | exact Or.inr rfl) (e_addb (e_slot 1) (e_lst (a_cons (e_lst (a_cons (e_slot 2) a_nil)) a_nil))))) (ss_one (s_set (i := 1) nd rfl (by first | exact Or.inl rfl | exact Or.inr rfl) (e_addb (e_sl (e_slot 1) o_no (o_some (e_neg e_int))) (e_lst (a_cons (e_add (e_ixb (e_slot 1) (e_neg e_int)) (e_lst (a_cons (e_slot 2) a_nil))) a_nil))))))))
  (ss_one (s_ret (e_slot 1)))))
/-! ### check_places -/
abbrev s_check_places : Stmt := topS 8
abbrev N_check_places : List Str := ["values", "places", "place"]
abbrev P_check_places : List Str := ["values", "places"]
theorem sc_check_places : FnScope N_check_places P_check_places (defScope s_check_places) := ⟨rfl, rfl, rfl, by decide +kernel, rfl, by decide +kernel, by decide +kernel⟩
noncomputable def lb_check_places_1 : Ds := (ifS (orT (notT (truthF (callF 1 run_is_whole (consF (slotF 2) nilF)))) (notT (boolF (chainF pLe pLt (constF (.int 0)) (slotF 2) (lenF (slotF 0)))))) badS nxS)
noncomputable def den_check_places : Ds := (seqS (ifS (notT (truthF (isiF "list" (slotF 1)))) badS nxS) (forS (itemsF (slotF 1)) (tgName 2) lb_check_places_1))
noncomputable def run_check_places : List W → Bs → Out W := fnF 3 den_check_places
theorem m_check_places {P : Program} {w : World} {K : PySem.W.Frag} {mg : Str → Option Value} {base : Heap} {fa : Addr} {fd : FuncData} (F : Fun K "check_places" "check_places" s_check_places fa fd) (g : mg "check_places" = some (.ref fa)) (b : Binds K fd P_check_places [])
    (z_isinstance : mg "isinstance" = none)
    (z_len : mg "len" = none)
    (z_list : mg "list" = none)
    (G_is_whole : FnM P w K mg base 1 "is_whole" 1 run_is_whole) :
    FnM P w K mg base 2 "check_places" 2 run_check_places :=
  fn_mini F sc_check_places g b fun cdv A outer s H E hr => by
  have nd := sc_check_places.nd
  have hu : (A.deeper (envOfC "check_places" (defScope s_check_places) s.heap.objs.size fa cdv)).units + 65 < cLine := by
    have := hr.un
    omega
  exact (ss_cons (s_if (t_not (t_truth (e_isi (T := "list") (by rfl) z_isinstance (e_slot 1) (pe_bltn (by rfl) z_list (by decide +kernel) rfl)))) (ss_one s_never) ss_nil)
  (ss_one (s_for PassesOwn.never rfl (i_items (e_slot 1)) (pg_name (i := 2) nd rfl (by first | exact Or.inl rfl | exact Or.inr rfl)) (tg_name _ 2) (ss_one (s_if (PW.pt (w_or (t_not (t_truth (e_call (G_is_whole.mono (by decide)) hr (by rfl) (a_cons (e_slot 2) a_nil)))) (w_or1 (t_not (t_chain op_le op_lt op2_B op2_B e_int (e_slot 2) (e_len (by rfl) z_len (e_slot 0))))))) (ss_one s_never) ss_nil)))))
/-! ### check_cut -/
abbrev s_check_cut : Stmt := topS 9
abbrev N_check_cut : List Str := ["values", "places"]
abbrev P_check_cut : List Str := ["values", "places"]
theorem sc_check_cut : FnScope N_check_cut P_check_cut (defScope s_check_cut) := ⟨rfl, rfl, rfl, by decide +kernel, rfl, by decide +kernel, by decide +kernel⟩
noncomputable def den_check_cut : Ds := (seqS (dropS (callF 1 run_check_list (consF (slotF 0) nilF))) (dropS (callF 2 run_check_places (consF (slotF 0) (consF (slotF 1) nilF)))))
noncomputable def run_check_cut : List W → Bs → Out W := fnF 2 den_check_cut
theorem m_check_cut {P : Program} {w : World} {K : PySem.W.Frag} {mg : Str → Option Value} {base : Heap} {fa : Addr} {fd : FuncData} (F : Fun K "check_cut" "check_cut" s_check_cut fa fd) (g : mg "check_cut" = some (.ref fa)) (b : Binds K fd P_check_cut [])
    (G_check_list : FnM P w K mg base 2 "check_list" 1 run_check_list)
    (G_check_places : FnM P w K mg base 2 "check_places" 2 run_check_places) :
    FnM P w K mg base 3 "check_cut" 2 run_check_cut :=
  fn_mini F sc_check_cut g b fun cdv A outer s H E hr => by
  have nd := sc_check_cut.nd
  have hu : (A.deeper (envOfC "check_cut" (defScope s_check_cut) s.heap.objs.size fa cdv)).units + 65 < cLine := by
    have := hr.un
    omega
  exact (ss_cons (s_expr (e_call (G_check_list.mono (by decide)) hr (by rfl) (a_cons (e_slot 0) a_nil)))
  (ss_one (s_expr (e_call (G_check_places.mono (by decide)) hr (by rfl) (a_cons (e_slot 0) (a_cons (e_slot 1) a_nil))))))
/-! ### marked -/
abbrev s_marked : Stmt := topS 10
abbrev N_marked : List Str := ["values", "places", "told", "first", "last", "unit"]
abbrev P_marked : List Str := ["values", "places"]
theorem sc_marked : FnScope N_marked P_marked (defScope s_marked) := ⟨rfl, rfl, rfl, by decide +kernel, rfl, by decide +kernel, by decide +kernel⟩
noncomputable def lb_marked_1 : Ds := (seqS (dropS (appF (slotF 2) (slotF 3))) (augS (· + ·) 3 (lenF (slotF 5))))
noncomputable def lb_marked_2 : Ds := (forS (itemsF (callF 1 run_units_of (consF (slF (slotF 0) (someO (slotF 3)) (someO (slotF 4))) nilF))) (tgName 5) lb_marked_1)
noncomputable def den_marked : Ds := (seqS (asgF (boxF nilF) 2) (seqS (asgF (constF (.int 0)) 3) (seqS (forS (itemsF (sortsetF (bin2 pAdd (slotF 1) (lstF (consF (lenF (slotF 0)) nilF))))) (tgName 4) lb_marked_2) (retS (frzF (slotF 2))))))
noncomputable def run_marked : List W → Bs → Out W := fnF 6 den_marked
theorem m_marked {P : Program} {w : World} {K : PySem.W.Frag} {mg : Str → Option Value} {base : Heap} {fa : Addr} {fd : FuncData} (F : Fun K "marked" "marked" s_marked fa fd) (g : mg "marked" = some (.ref fa)) (b : Binds K fd P_marked [])
    (z_len : mg "len" = none)
    (z_set : mg "set" = none)
    (z_sorted : mg "sorted" = none)
    (G_units_of : FnM P w K mg base 1 "units_of" 1 run_units_of) :
    FnM P w K mg base 2 "marked" 2 run_marked :=
  fn_mini F sc_marked g b fun cdv A outer s H E hr => by
  have nd := sc_marked.nd
  have hu : (A.deeper (envOfC "marked" (defScope s_marked) s.heap.objs.size fa cdv)).units + 65 < cLine := by
    have := hr.un
    omega
  exact (ss_cons (s_set (i := 2) nd rfl (by first | exact Or.inl rfl | exact Or.inr rfl) (e_box a_nil))
  (ss_cons (s_set (i := 3) nd rfl (by first | exact Or.inl rfl | exact Or.inr rfl) e_int)
  (ss_cons (s_for PassesOwn.never rfl (i_items (e_sortset rfl (by rfl) z_sorted (by rfl) z_set (e_add (e_slot 1) (e_lst (a_cons (e_len (by rfl) z_len (e_slot 0)) a_nil))))) (pg_name (i := 4) nd rfl (by first | exact Or.inl rfl | exact Or.inr rfl)) (tg_name _ 4) (ss_one (s_for PassesOwn.never rfl (i_items (e_call (G_units_of.mono (by decide)) hr (by rfl) (a_cons (e_sl (e_slot 0) (o_some (e_slot 3)) (o_some (e_slot 4))) a_nil))) (pg_name (i := 5) nd rfl (by first | exact Or.inl rfl | exact Or.inr rfl)) (tg_name _ 5) (ss_cons (s_expr (e_append (e_slot 2) (e_slot 3)))
  (ss_one (s_augAdd (i := 3) nd rfl (by first | exact Or.inl rfl | exact Or.inr rfl) (e_len (by rfl) z_len (e_slot 5))))))))
  (ss_one (s_ret (e_frz (e_slot 2)))))))
/-! ### joined -/
abbrev s_joined : Stmt := topS 11
abbrev N_joined : List Str := ["values", "bounds", "ends", "parts", "first", "last", "leader", "value"]
abbrev P_joined : List Str := ["values", "bounds"]
theorem sc_joined : FnScope N_joined P_joined (defScope s_joined) := ⟨rfl, rfl, rfl, by decide +kernel, rfl, by decide +kernel, by decide +kernel⟩
noncomputable def den_joined : Ds := (seqS (asgF (bin2 pAdd (slF (slotF 1) (someO (constF (.int 1))) noO) (lstF (consF (lenF (slotF 0)) nilF))) 2) (seqS (asgF (sortF (lcF (zipF (slotF 1) (slotF 2)) [4, 5] (tgTup [4, 5]) yesT (tupF (consF (bin2 pIx (slotF 0) (slotF 4)) (consF (slotF 4) (consF (slotF 5) nilF)))))) 3) (retS (lc2F (itemsF (slotF 3)) [6, 4, 5, 7] (tgTup [6, 4, 5]) yesT (itemsF (slF (slotF 0) (someO (slotF 4)) (someO (slotF 5)))) [7] (tgName 7) yesT (slotF 7)))))
noncomputable def run_joined : List W → Bs → Out W := fnF 8 den_joined
theorem m_joined {P : Program} {w : World} {K : PySem.W.Frag} {mg : Str → Option Value} {base : Heap} {fa : Addr} {fd : FuncData} (F : Fun K "joined" "joined" s_joined fa fd) (g : mg "joined" = some (.ref fa)) (b : Binds K fd P_joined [])
    (z_len : mg "len" = none)
    (z_sorted : mg "sorted" = none)
    (z_zip : mg "zip" = none) :
    FnM P w K mg base 1 "joined" 2 run_joined :=
  fn_mini F sc_joined g b fun cdv A outer s H E hr => by
  have nd := sc_joined.nd
  have hu : (A.deeper (envOfC "joined" (defScope s_joined) s.heap.objs.size fa cdv)).units + 65 < cLine := by
    have := hr.un
    omega
  exact (ss_cons (s_set (i := 2) nd rfl (by first | exact Or.inl rfl | exact Or.inr rfl) (e_add (e_sl (e_slot 1) (o_some e_int) o_no) (e_lst (a_cons (e_len (by rfl) z_len (e_slot 0)) a_nil))))
  (ss_cons (s_set (i := 3) nd rfl (by first | exact Or.inl rfl | exact Or.inr rfl) (e_sorted hu (by rfl) z_sorted (e_lc (own := [("first", 4), ("last", 5)]) (js := [4, 5]) rfl nd (i_zip (by rfl) z_zip (e_slot 1) (e_slot 2)) (blkOk_by (own := [("first", 4), ("last", 5)]) (N := N_joined) (sc := defScope s_joined) (by decide +kernel)) (tg_tup _ [4, 5]) (by decide) (fun _ _ _ _ _ => (pg_tup rfl (pgs_cons (pg_name (i := 4) nd rfl (by first | exact Or.inl rfl | exact Or.inr rfl)) (pgs_cons (pg_name (i := 5) nd rfl (by first | exact Or.inl rfl | exact Or.inr rfl)) pgs_nil)))) (fun _ _ _ _ _ => ts_nil) (fun _ _ _ _ _ => (e_tup (a_cons (e_ix (e_slot 0) (e_slot 4)) (a_cons (e_slot 4) (a_cons (e_slot 5) a_nil))))))))
  (ss_one (s_ret (e_lc2 (own := [("leader", 6), ("first", 4), ("last", 5), ("value", 7)]) (vs1 := [7]) (js := [6, 4, 5]) (js1 := [7]) rfl nd (i_items (e_slot 3)) (blkOk_by (own := [("leader", 6), ("first", 4), ("last", 5), ("value", 7)]) (N := N_joined) (sc := defScope s_joined) (by decide +kernel)) (tg_tup _ [6, 4, 5]) (by decide) (tg_name _ 7) (by decide) (by decide) (fun _ _ _ _ _ => (pg_tup rfl (pgs_cons (pg_name (i := 6) nd rfl (by first | exact Or.inl rfl | exact Or.inr rfl)) (pgs_cons (pg_name (i := 4) nd rfl (by first | exact Or.inl rfl | exact Or.inr rfl)) (pgs_cons (pg_name (i := 5) nd rfl (by first | exact Or.inl rfl | exact Or.inr rfl)) pgs_nil))))) (fun _ _ _ _ _ => ts_nil) (fun _ _ _ _ _ => (i_items (e_sl (e_slot 0) (o_some (e_slot 4)) (o_some (e_slot 5))))) (fun _ _ _ _ _ => (pg_name (i := 7) nd rfl (by first | exact Or.inl rfl | exact Or.inr rfl))) (fun _ _ _ _ _ => ts_nil) (fun _ _ _ _ _ => (e_slot 7)))))))
/-! ### cut -/
abbrev s_cut : Stmt := topS 12
abbrev N_cut : List Str := ["values", "places"]
abbrev P_cut : List Str := ["values", "places"]
theorem sc_cut : FnScope N_cut P_cut (defScope s_cut) := ⟨rfl, rfl, rfl, by decide +kernel, rfl, by decide +kernel, by decide +kernel⟩
noncomputable def den_cut : Ds := (seqS (dropS (callF 2 run_check_cut (consF (slotF 0) (consF (slotF 1) nilF)))) (retS (callF 2 run_joined (consF (slotF 0) (consF (callF 2 run_marked (consF (slotF 0) (consF (slotF 1) nilF))) nilF)))))
noncomputable def run_cut : List W → Bs → Out W := fnF 2 den_cut
theorem m_cut {P : Program} {w : World} {K : PySem.W.Frag} {mg : Str → Option Value} {base : Heap} {fa : Addr} {fd : FuncData} (F : Fun K "cut" "cut" s_cut fa fd) (g : mg "cut" = some (.ref fa)) (b : Binds K fd P_cut [])
    (G_check_cut : FnM P w K mg base 3 "check_cut" 2 run_check_cut)
    (G_joined : FnM P w K mg base 1 "joined" 2 run_joined)
    (G_marked : FnM P w K mg base 2 "marked" 2 run_marked) :
    FnM P w K mg base 4 "cut" 2 run_cut :=
  fn_mini F sc_cut g b fun cdv A outer s H E hr => by
  have nd := sc_cut.nd
  have hu : (A.deeper (envOfC "cut" (defScope s_cut) s.heap.objs.size fa cdv)).units + 65 < cLine := by
    have := hr.un
    omega
  exact (ss_cons (s_expr (e_call (G_check_cut.mono (by decide)) hr (by rfl) (a_cons (e_slot 0) (a_cons (e_slot 1) a_nil))))
  (ss_one (s_ret (e_call (G_joined.mono (by decide)) hr (by rfl) (a_cons (e_slot 0) (a_cons (e_call (G_marked.mono (by decide)) hr (by rfl) (a_cons (e_slot 0) (a_cons (e_slot 1) a_nil))) a_nil))))))
/-! ### boundaries -/
abbrev s_boundaries : Stmt := topS 13
abbrev N_boundaries : List Str := ["values", "places"]
abbrev P_boundaries : List Str := ["values", "places"]
theorem sc_boundaries : FnScope N_boundaries P_boundaries (defScope s_boundaries) := ⟨rfl, rfl, rfl, by decide +kernel, rfl, by decide +kernel, by decide +kernel⟩
noncomputable def den_boundaries : Ds := (seqS (dropS (callF 2 run_check_cut (consF (slotF 0) (consF (slotF 1) nilF)))) (retS (callF 2 run_marked (consF (slotF 0) (consF (slotF 1) nilF)))))
noncomputable def run_boundaries : List W → Bs → Out W := fnF 2 den_boundaries
theorem m_boundaries {P : Program} {w : World} {K : PySem.W.Frag} {mg : Str → Option Value} {base : Heap} {fa : Addr} {fd : FuncData} (F : Fun K "boundaries" "boundaries" s_boundaries fa fd) (g : mg "boundaries" = some (.ref fa)) (b : Binds K fd P_boundaries [])
    (G_check_cut : FnM P w K mg base 3 "check_cut" 2 run_check_cut)
    (G_marked : FnM P w K mg base 2 "marked" 2 run_marked) :
    FnM P w K mg base 4 "boundaries" 2 run_boundaries :=
  fn_mini F sc_boundaries g b fun cdv A outer s H E hr => by
  have nd := sc_boundaries.nd
  have hu : (A.deeper (envOfC "boundaries" (defScope s_boundaries) s.heap.objs.size fa cdv)).units + 65 < cLine := by
    have := hr.un
    omega
  exact (ss_cons (s_expr (e_call (G_check_cut.mono (by decide)) hr (by rfl) (a_cons (e_slot 0) (a_cons (e_slot 1) a_nil))))
  (ss_one (s_ret (e_call (G_marked.mono (by decide)) hr (by rfl) (a_cons (e_slot 0) (a_cons (e_slot 1) a_nil))))))
/-! ### parent_of -/
abbrev s_parent_of : Stmt := topS 14
abbrev N_parent_of : List Str := ["values", "place", "other"]
abbrev P_parent_of : List Str := ["values", "place"]
theorem sc_parent_of : FnScope N_parent_of P_parent_of (defScope s_parent_of) := ⟨rfl, rfl, rfl, by decide +kernel, rfl, by decide +kernel, by decide +kernel⟩
noncomputable def lb_parent_of_1 : Ds := (ifS (boolF (bin2 pGe (bin2 pIx (slotF 0) (slotF 2)) (bin2 pIx (slotF 0) (slotF 1)))) (retS (slotF 2)) nxS)
noncomputable def den_parent_of : Ds := (seqS (forS (range2F (bin2 pAdd (slotF 1) (constF (.int 1))) (lenF (slotF 0))) (tgName 2) lb_parent_of_1) (retS (constF .none)))
noncomputable def run_parent_of : List W → Bs → Out W := fnF 3 den_parent_of
theorem m_parent_of {P : Program} {w : World} {K : PySem.W.Frag} {mg : Str → Option Value} {base : Heap} {fa : Addr} {fd : FuncData} (F : Fun K "parent_of" "parent_of" s_parent_of fa fd) (g : mg "parent_of" = some (.ref fa)) (b : Binds K fd P_parent_of [])
    (z_len : mg "len" = none)
    (z_range : mg "range" = none) :
    FnM P w K mg base 1 "parent_of" 2 run_parent_of :=
  fn_mini F sc_parent_of g b fun cdv A outer s H E hr => by
  have nd := sc_parent_of.nd
  have hu : (A.deeper (envOfC "parent_of" (defScope s_parent_of) s.heap.objs.size fa cdv)).units + 65 < cLine := by
    have := hr.un
    omega
  exact (ss_cons (s_for PassesOwn.never rfl (i_range2 (by rfl) z_range (e_add (e_slot 1) e_int) (e_len (by rfl) z_len (e_slot 0))) (pg_name (i := 2) nd rfl (by first | exact Or.inl rfl | exact Or.inr rfl)) (tg_name _ 2) (ss_one (s_if (t_ge (e_ix (e_slot 0) (e_slot 2)) (e_ix (e_slot 0) (e_slot 1))) (ss_one (s_ret (e_slot 2))) ss_nil)))
  (ss_one (s_ret e_non)))
/-! ### parents_of -/
abbrev s_parents_of : Stmt := topS 15
abbrev N_parents_of : List Str := ["values", "place"]
abbrev P_parents_of : List Str := ["values"]
theorem sc_parents_of : FnScope N_parents_of P_parents_of (defScope s_parents_of) := ⟨rfl, rfl, rfl, by decide +kernel, rfl, by decide +kernel, by decide +kernel⟩
noncomputable def den_parents_of : Ds := (retS (lcF (range1F (lenF (slotF 0))) [1] (tgName 1) yesT (callF 2 run_parent_of (consF (slotF 0) (consF (slotF 1) nilF)))))
noncomputable def run_parents_of : List W → Bs → Out W := fnF 2 den_parents_of
theorem m_parents_of {P : Program} {w : World} {K : PySem.W.Frag} {mg : Str → Option Value} {base : Heap} {fa : Addr} {fd : FuncData} (F : Fun K "parents_of" "parents_of" s_parents_of fa fd) (g : mg "parents_of" = some (.ref fa)) (b : Binds K fd P_parents_of [])
    (z_len : mg "len" = none)
    (z_range : mg "range" = none)
    (G_parent_of : FnM P w K mg base 1 "parent_of" 2 run_parent_of) :
    FnM P w K mg base 2 "parents_of" 1 run_parents_of :=
  fn_mini F sc_parents_of g b fun cdv A outer s H E hr => by
  have nd := sc_parents_of.nd
  have hu : (A.deeper (envOfC "parents_of" (defScope s_parents_of) s.heap.objs.size fa cdv)).units + 65 < cLine := by
    have := hr.un
    omega
  exact (ss_one (s_ret (e_lc (own := [("place", 1)]) (js := [1]) rfl nd (i_range1 (by rfl) z_range (e_len (by rfl) z_len (e_slot 0))) (blkOk_by (own := [("place", 1)]) (N := N_parents_of) (sc := defScope s_parents_of) (by decide +kernel)) (tg_name _ 1) (by decide) (fun _ _ _ _ _ => (pg_name (i := 1) nd rfl (by first | exact Or.inl rfl | exact Or.inr rfl))) (fun _ _ _ _ _ => ts_nil) (fun _ _ _ _ _ => (e_call (G_parent_of.mono (by decide)) hr (by rfl) (a_cons (e_slot 0) (a_cons (e_slot 1) a_nil)))))))
/-! ### parents -/
abbrev s_parents : Stmt := topS 16
abbrev N_parents : List Str := ["values"]
abbrev P_parents : List Str := ["values"]
theorem sc_parents : FnScope N_parents P_parents (defScope s_parents) := ⟨rfl, rfl, rfl, by decide +kernel, rfl, by decide +kernel, by decide +kernel⟩
noncomputable def den_parents : Ds := (seqS (dropS (callF 1 run_check_list (consF (slotF 0) nilF))) (retS (callF 1 run_parents_of (consF (slotF 0) nilF))))
noncomputable def run_parents : List W → Bs → Out W := fnF 1 den_parents
theorem m_parents {P : Program} {w : World} {K : PySem.W.Frag} {mg : Str → Option Value} {base : Heap} {fa : Addr} {fd : FuncData} (F : Fun K "parents" "parents" s_parents fa fd) (g : mg "parents" = some (.ref fa)) (b : Binds K fd P_parents [])
    (G_check_list : FnM P w K mg base 2 "check_list" 1 run_check_list)
    (G_parents_of : FnM P w K mg base 2 "parents_of" 1 run_parents_of) :
    FnM P w K mg base 3 "parents" 1 run_parents :=
  fn_mini F sc_parents g b fun cdv A outer s H E hr => by
  have nd := sc_parents.nd
  have hu : (A.deeper (envOfC "parents" (defScope s_parents) s.heap.objs.size fa cdv)).units + 65 < cLine := by
    have := hr.un
    omega
  exact (ss_cons (s_expr (e_call (G_check_list.mono (by decide)) hr (by rfl) (a_cons (e_slot 0) a_nil)))
  (ss_one (s_ret (e_call (G_parents_of.mono (by decide)) hr (by rfl) (a_cons (e_slot 0) a_nil)))))
/-! ### least_of -/
abbrev s_least_of : Stmt := topS 17
abbrev N_least_of : List Str := ["values", "bounds", "before", "place"]
abbrev P_least_of : List Str := ["values", "bounds"]
theorem sc_least_of : FnScope N_least_of P_least_of (defScope s_least_of) := ⟨rfl, rfl, rfl, by decide +kernel, rfl, by decide +kernel, by decide +kernel⟩
noncomputable def den_least_of : Ds := (retS (lcF (zipF (slotF 1) (slF (slotF 1) (someO (constF (.int 1))) noO)) [2, 3] (tgTup [2, 3]) (boolF (bin2 pLt (bin2 pIx (slotF 0) (slotF 3)) (bin2 pIx (slotF 0) (slotF 2)))) (slotF 3)))
noncomputable def run_least_of : List W → Bs → Out W := fnF 4 den_least_of
theorem m_least_of {P : Program} {w : World} {K : PySem.W.Frag} {mg : Str → Option Value} {base : Heap} {fa : Addr} {fd : FuncData} (F : Fun K "least_of" "least_of" s_least_of fa fd) (g : mg "least_of" = some (.ref fa)) (b : Binds K fd P_least_of [])
    (z_zip : mg "zip" = none) :
    FnM P w K mg base 1 "least_of" 2 run_least_of :=
  fn_mini F sc_least_of g b fun cdv A outer s H E hr => by
  have nd := sc_least_of.nd
  have hu : (A.deeper (envOfC "least_of" (defScope s_least_of) s.heap.objs.size fa cdv)).units + 65 < cLine := by
    have := hr.un
    omega
  exact (ss_one (s_ret (e_lc (own := [("before", 2), ("place", 3)]) (js := [2, 3]) rfl nd (i_zip (by rfl) z_zip (e_slot 1) (e_sl (e_slot 1) (o_some e_int) o_no)) (blkOk_by (own := [("before", 2), ("place", 3)]) (N := N_least_of) (sc := defScope s_least_of) (by decide +kernel)) (tg_tup _ [2, 3]) (by decide) (fun _ _ _ _ _ => (pg_tup rfl (pgs_cons (pg_name (i := 2) nd rfl (by first | exact Or.inl rfl | exact Or.inr rfl)) (pgs_cons (pg_name (i := 3) nd rfl (by first | exact Or.inl rfl | exact Or.inr rfl)) pgs_nil)))) (fun _ _ _ _ _ => (ts_one (t_lt (e_ix (e_slot 0) (e_slot 3)) (e_ix (e_slot 0) (e_slot 2))))) (fun _ _ _ _ _ => (e_slot 3)))))
/-! ### least_places -/
abbrev s_least_places : Stmt := topS 18
abbrev N_least_places : List Str := ["values", "places"]
abbrev P_least_places : List Str := ["values", "places"]
theorem sc_least_places : FnScope N_least_places P_least_places (defScope s_least_places) := ⟨rfl, rfl, rfl, by decide +kernel, rfl, by decide +kernel, by decide +kernel⟩
noncomputable def den_least_places : Ds := (seqS (dropS (callF 2 run_check_cut (consF (slotF 0) (consF (slotF 1) nilF)))) (retS (callF 2 run_least_of (consF (slotF 0) (consF (callF 2 run_marked (consF (slotF 0) (consF (slotF 1) nilF))) nilF)))))
noncomputable def run_least_places : List W → Bs → Out W := fnF 2 den_least_places
theorem m_least_places {P : Program} {w : World} {K : PySem.W.Frag} {mg : Str → Option Value} {base : Heap} {fa : Addr} {fd : FuncData} (F : Fun K "least_places" "least_places" s_least_places fa fd) (g : mg "least_places" = some (.ref fa)) (b : Binds K fd P_least_places [])
    (G_check_cut : FnM P w K mg base 3 "check_cut" 2 run_check_cut)
    (G_least_of : FnM P w K mg base 1 "least_of" 2 run_least_of)
    (G_marked : FnM P w K mg base 2 "marked" 2 run_marked) :
    FnM P w K mg base 4 "least_places" 2 run_least_places :=
  fn_mini F sc_least_places g b fun cdv A outer s H E hr => by
  have nd := sc_least_places.nd
  have hu : (A.deeper (envOfC "least_places" (defScope s_least_places) s.heap.objs.size fa cdv)).units + 65 < cLine := by
    have := hr.un
    omega
  exact (ss_cons (s_expr (e_call (G_check_cut.mono (by decide)) hr (by rfl) (a_cons (e_slot 0) (a_cons (e_slot 1) a_nil))))
  (ss_one (s_ret (e_call (G_least_of.mono (by decide)) hr (by rfl) (a_cons (e_slot 0) (a_cons (e_call (G_marked.mono (by decide)) hr (by rfl) (a_cons (e_slot 0) (a_cons (e_slot 1) a_nil))) a_nil))))))
/-! ### found_back -/
abbrev s_found_back : Stmt := topS 19
abbrev N_found_back : List Str := ["values", "goal", "left", "told", "place", "fitting", "unit"]
abbrev P_found_back : List Str := ["values", "goal"]
theorem sc_found_back : FnScope N_found_back P_found_back (defScope s_found_back) := ⟨rfl, rfl, rfl, by decide +kernel, rfl, by decide +kernel, by decide +kernel⟩
noncomputable def lb_found_back_1 : Ds := (seqS (asgF (lcwF (slotF 2) [6] (tgName 6) (boolF (bin2 pEq (bin2 pIx (slotF 6) (constF (.int 0))) (bin2 pIx (slotF 0) (slotF 4)))) (slotF 6)) 5) (seqS (ifS (orT (boolF (bin2 pEq (slotF 5) (lstF nilF))) (boolF (bin2 pNe (slF (slotF 0) (someO (slotF 4)) (someO (bin2 pAdd (slotF 4) (lenF (bin2 pIx (slotF 5) (constF (.int 0))))))) (bin2 pIx (slotF 5) (constF (.int 0)))))) (retS (slotF 4)) nxS) (seqS (dropS (remF (slotF 2) (bin2 pIx (slotF 5) (constF (.int 0))))) (seqS (dropS (appF (slotF 3) (slotF 4))) (augS (· + ·) 4 (lenF (bin2 pIx (slotF 5) (constF (.int 0)))))))))
noncomputable def den_found_back : Ds := (seqS (asgF (callF 1 run_units_ofB (consF (slotF 1) nilF)) 2) (seqS (asgF (boxF nilF) 3) (seqS (asgF (constF (.int 0)) 4) (seqS (whS 100 (boolF (bin2 pLt (slotF 4) (lenF (slotF 0)))) lb_found_back_1) (retS (ifF (truthF (slotF 2)) (slotF 4) (frzF (slotF 3))))))))
noncomputable def run_found_back : List W → Bs → Out W := fnF 7 den_found_back
theorem m_found_back {P : Program} {w : World} {K : PySem.W.Frag} {mg : Str → Option Value} {base : Heap} {fa : Addr} {fd : FuncData} (F : Fun K "found_back" "found_back" s_found_back fa fd) (g : mg "found_back" = some (.ref fa)) (b : Binds K fd P_found_back [])
    (z_len : mg "len" = none)
    (G_units_ofB : FnM P w K mg base 1 "units_of" 1 run_units_ofB) :
    FnM P w K mg base 2 "found_back" 2 run_found_back :=
  fn_mini F sc_found_back g b fun cdv A outer s H E hr => by
  have nd := sc_found_back.nd
  have hu : (A.deeper (envOfC "found_back" (defScope s_found_back) s.heap.objs.size fa cdv)).units + 65 < cLine := by
    have := hr.un
    omega
  exact (ss_cons (s_set (i := 2) nd rfl (by first | exact Or.inl rfl | exact Or.inr rfl) (e_call (G_units_ofB.mono (by decide)) hr (by rfl) (a_cons (e_slot 1) a_nil)))
  (ss_cons (s_set (i := 3) nd rfl (by first | exact Or.inl rfl | exact Or.inr rfl) (e_box a_nil))
  (ss_cons (s_set (i := 4) nd rfl (by first | exact Or.inl rfl | exact Or.inr rfl) e_int)
  (ss_cons (s_while 100 PassesOwn.never (t_lt (e_slot 4) (e_len (by rfl) z_len (e_slot 0))) (ss_cons (s_setLcw (i := 5) (own := [("unit", 6)]) (js := [6]) rfl nd rfl rfl (sw_true rfl rfl rfl (by decide +kernel)) (e_slot 2) (blkOk_by (own := [("unit", 6)]) (N := N_found_back) (sc := defScope s_found_back) (by decide +kernel)) (tg_name _ 6) (by decide) (fun _ _ _ _ _ => (pg_name (i := 6) nd rfl (by first | exact Or.inl rfl | exact Or.inr rfl))) (fun _ _ _ _ _ => (ts_one (t_eq (e_ix (e_slot 6) e_int) (e_ix (e_slot 0) (e_slot 4)) hu))) (fun _ _ _ _ _ => (e_slot 6)))
  (ss_cons (s_if (PW.pt (w_or (t_eq (e_slot 5) (e_lst a_nil) hu) (w_or1 (t_ne (e_sl (e_slot 0) (o_some (e_slot 4)) (o_some (e_add (e_slot 4) (e_len (by rfl) z_len (e_ix (e_slot 5) e_int))))) (e_ix (e_slot 5) e_int) hu)))) (ss_one (s_ret (e_slot 4))) ss_nil)
  (ss_cons (s_expr (e_remove hu (e_slot 2) (e_ix (e_slot 5) e_int)))
  (ss_cons (s_expr (e_append (e_slot 3) (e_slot 4)))
  (ss_one (s_augAdd (i := 4) nd rfl (by first | exact Or.inl rfl | exact Or.inr rfl) (e_len (by rfl) z_len (e_ix (e_slot 5) e_int)))))))))
  (ss_one (s_ret (e_if (t_truth (e_slot 2)) (e_slot 4) (e_frz (e_slot 3)))))))))
/-! ### read_back -/
abbrev s_read_back : Stmt := topS 20
abbrev N_read_back : List Str := ["values", "goal", "told"]
abbrev P_read_back : List Str := ["values", "goal"]
theorem sc_read_back : FnScope N_read_back P_read_back (defScope s_read_back) := ⟨rfl, rfl, rfl, by decide +kernel, rfl, by decide +kernel, by decide +kernel⟩
noncomputable def den_read_back : Ds := (seqS (dropS (callF 1 run_check_list (consF (slotF 0) nilF))) (seqS (dropS (callF 1 run_check_list (consF (slotF 1) nilF))) (seqS (asgF (callF 2 run_found_back (consF (slotF 0) (consF (slotF 1) nilF))) 2) (retS (ifF (truthF (isiF "list" (slotF 2))) (tupF (consF (constF (.str "cut")) (consF (slotF 2) nilF))) (tupF (consF (constF (.str "place")) (consF (slotF 2) nilF))))))))
noncomputable def run_read_back : List W → Bs → Out W := fnF 3 den_read_back
theorem m_read_back {P : Program} {w : World} {K : PySem.W.Frag} {mg : Str → Option Value} {base : Heap} {fa : Addr} {fd : FuncData} (F : Fun K "read_back" "read_back" s_read_back fa fd) (g : mg "read_back" = some (.ref fa)) (b : Binds K fd P_read_back [])
    (z_isinstance : mg "isinstance" = none)
    (z_list : mg "list" = none)
    (G_check_list : FnM P w K mg base 2 "check_list" 1 run_check_list)
    (G_found_back : FnM P w K mg base 2 "found_back" 2 run_found_back) :
    FnM P w K mg base 3 "read_back" 2 run_read_back :=
  fn_mini F sc_read_back g b fun cdv A outer s H E hr => by
  have nd := sc_read_back.nd
  have hu : (A.deeper (envOfC "read_back" (defScope s_read_back) s.heap.objs.size fa cdv)).units + 65 < cLine := by
    have := hr.un
    omega
  exact (ss_cons (s_expr (e_call (G_check_list.mono (by decide)) hr (by rfl) (a_cons (e_slot 0) a_nil)))
  (ss_cons (s_expr (e_call (G_check_list.mono (by decide)) hr (by rfl) (a_cons (e_slot 1) a_nil)))
  (ss_cons (s_set (i := 2) nd rfl (by first | exact Or.inl rfl | exact Or.inr rfl) (e_call (G_found_back.mono (by decide)) hr (by rfl) (a_cons (e_slot 0) (a_cons (e_slot 1) a_nil))))
  (ss_one (s_ret (e_if (t_truth (e_isi (T := "list") (by rfl) z_isinstance (e_slot 2) (pe_bltn (by rfl) z_list (by decide +kernel) rfl))) (e_tup (a_cons e_str (a_cons (e_slot 2) a_nil))) (e_tup (a_cons e_str (a_cons (e_slot 2) a_nil)))))))))
/-! ### bounds_of -/
abbrev s_bounds_of : Stmt := topS 21
abbrev N_bounds_of : List Str := ["values", "goal", "told"]
abbrev P_bounds_of : List Str := ["values", "goal"]
theorem sc_bounds_of : FnScope N_bounds_of P_bounds_of (defScope s_bounds_of) := ⟨rfl, rfl, rfl, by decide +kernel, rfl, by decide +kernel, by decide +kernel⟩
noncomputable def den_bounds_of : Ds := (seqS (dropS (callF 1 run_check_list (consF (slotF 1) nilF))) (seqS (asgF (callF 2 run_found_back (consF (slotF 0) (consF (slotF 1) nilF))) 2) (seqS (ifS (notT (truthF (isiF "list" (slotF 2)))) badS nxS) (retS (slotF 2)))))
noncomputable def run_bounds_of : List W → Bs → Out W := fnF 3 den_bounds_of
theorem m_bounds_of {P : Program} {w : World} {K : PySem.W.Frag} {mg : Str → Option Value} {base : Heap} {fa : Addr} {fd : FuncData} (F : Fun K "bounds_of" "bounds_of" s_bounds_of fa fd) (g : mg "bounds_of" = some (.ref fa)) (b : Binds K fd P_bounds_of [])
    (z_isinstance : mg "isinstance" = none)
    (z_list : mg "list" = none)
    (G_check_list : FnM P w K mg base 2 "check_list" 1 run_check_list)
    (G_found_back : FnM P w K mg base 2 "found_back" 2 run_found_back) :
    FnM P w K mg base 3 "bounds_of" 2 run_bounds_of :=
  fn_mini F sc_bounds_of g b fun cdv A outer s H E hr => by
  have nd := sc_bounds_of.nd
  have hu : (A.deeper (envOfC "bounds_of" (defScope s_bounds_of) s.heap.objs.size fa cdv)).units + 65 < cLine := by
    have := hr.un
    omega
  exact (ss_cons (s_expr (e_call (G_check_list.mono (by decide)) hr (by rfl) (a_cons (e_slot 1) a_nil)))
  (ss_cons (s_set (i := 2) nd rfl (by first | exact Or.inl rfl | exact Or.inr rfl) (e_call (G_found_back.mono (by decide)) hr (by rfl) (a_cons (e_slot 0) (a_cons (e_slot 1) a_nil))))
  (ss_cons (s_if (t_not (t_truth (e_isi (T := "list") (by rfl) z_isinstance (e_slot 2) (pe_bltn (by rfl) z_list (by decide +kernel) rfl)))) (ss_one s_never) ss_nil)
  (ss_one (s_ret (e_slot 2))))))
/-! ### both -/
abbrev s_both : Stmt := topS 22
abbrev N_both : List Str := ["values", "one", "other", "first", "second", "place"]
abbrev P_both : List Str := ["values", "one", "other"]
theorem sc_both : FnScope N_both P_both (defScope s_both) := ⟨rfl, rfl, rfl, by decide +kernel, rfl, by decide +kernel, by decide +kernel⟩
noncomputable def den_both : Ds := (seqS (dropS (callF 1 run_check_list (consF (slotF 0) nilF))) (seqS (asgF (callF 2 run_bounds_of (consF (slotF 0) (consF (slotF 1) nilF))) 3) (seqS (asgF (callF 2 run_bounds_of (consF (slotF 0) (consF (slotF 2) nilF))) 4) (retS (callF 2 run_joined (consF (slotF 0) (consF (lcF (itemsF (slotF 3)) [5] (tgName 5) (boolF (bin2 pIn (slotF 5) (slotF 4))) (slotF 5)) nilF)))))))
noncomputable def run_both : List W → Bs → Out W := fnF 6 den_both
theorem m_both {P : Program} {w : World} {K : PySem.W.Frag} {mg : Str → Option Value} {base : Heap} {fa : Addr} {fd : FuncData} (F : Fun K "both" "both" s_both fa fd) (g : mg "both" = some (.ref fa)) (b : Binds K fd P_both [])
    (G_bounds_of : FnM P w K mg base 3 "bounds_of" 2 run_bounds_of)
    (G_check_list : FnM P w K mg base 2 "check_list" 1 run_check_list)
    (G_joined : FnM P w K mg base 1 "joined" 2 run_joined) :
    FnM P w K mg base 4 "both" 3 run_both :=
  fn_mini F sc_both g b fun cdv A outer s H E hr => by
  have nd := sc_both.nd
  have hu : (A.deeper (envOfC "both" (defScope s_both) s.heap.objs.size fa cdv)).units + 65 < cLine := by
    have := hr.un
    omega
  exact (ss_cons (s_expr (e_call (G_check_list.mono (by decide)) hr (by rfl) (a_cons (e_slot 0) a_nil)))
  (ss_cons (s_set (i := 3) nd rfl (by first | exact Or.inl rfl | exact Or.inr rfl) (e_call (G_bounds_of.mono (by decide)) hr (by rfl) (a_cons (e_slot 0) (a_cons (e_slot 1) a_nil))))
  (ss_cons (s_set (i := 4) nd rfl (by first | exact Or.inl rfl | exact Or.inr rfl) (e_call (G_bounds_of.mono (by decide)) hr (by rfl) (a_cons (e_slot 0) (a_cons (e_slot 2) a_nil))))
  (ss_one (s_ret (e_call (G_joined.mono (by decide)) hr (by rfl) (a_cons (e_slot 0) (a_cons (e_lc (own := [("place", 5)]) (js := [5]) rfl nd (i_items (e_slot 3)) (blkOk_by (own := [("place", 5)]) (N := N_both) (sc := defScope s_both) (by decide +kernel)) (tg_name _ 5) (by decide) (fun _ _ _ _ _ => (pg_name (i := 5) nd rfl (by first | exact Or.inl rfl | exact Or.inr rfl))) (fun _ _ _ _ _ => (ts_one (t_in (e_slot 5) (e_slot 4) hu))) (fun _ _ _ _ _ => (e_slot 5))) a_nil))))))))
/-! ### either -/
abbrev s_either : Stmt := topS 23
abbrev N_either : List Str := ["values", "one", "other", "first", "second"]
abbrev P_either : List Str := ["values", "one", "other"]
theorem sc_either : FnScope N_either P_either (defScope s_either) := ⟨rfl, rfl, rfl, by decide +kernel, rfl, by decide +kernel, by decide +kernel⟩
noncomputable def den_either : Ds := (seqS (dropS (callF 1 run_check_list (consF (slotF 0) nilF))) (seqS (asgF (callF 2 run_bounds_of (consF (slotF 0) (consF (slotF 1) nilF))) 3) (seqS (asgF (callF 2 run_bounds_of (consF (slotF 0) (consF (slotF 2) nilF))) 4) (retS (callF 2 run_joined (consF (slotF 0) (consF (sortsetF (bin2 pAdd (slotF 3) (slotF 4))) nilF)))))))
noncomputable def run_either : List W → Bs → Out W := fnF 5 den_either
theorem m_either {P : Program} {w : World} {K : PySem.W.Frag} {mg : Str → Option Value} {base : Heap} {fa : Addr} {fd : FuncData} (F : Fun K "either" "either" s_either fa fd) (g : mg "either" = some (.ref fa)) (b : Binds K fd P_either [])
    (z_set : mg "set" = none)
    (z_sorted : mg "sorted" = none)
    (G_bounds_of : FnM P w K mg base 3 "bounds_of" 2 run_bounds_of)
    (G_check_list : FnM P w K mg base 2 "check_list" 1 run_check_list)
    (G_joined : FnM P w K mg base 1 "joined" 2 run_joined) :
    FnM P w K mg base 4 "either" 3 run_either :=
  fn_mini F sc_either g b fun cdv A outer s H E hr => by
  have nd := sc_either.nd
  have hu : (A.deeper (envOfC "either" (defScope s_either) s.heap.objs.size fa cdv)).units + 65 < cLine := by
    have := hr.un
    omega
  exact (ss_cons (s_expr (e_call (G_check_list.mono (by decide)) hr (by rfl) (a_cons (e_slot 0) a_nil)))
  (ss_cons (s_set (i := 3) nd rfl (by first | exact Or.inl rfl | exact Or.inr rfl) (e_call (G_bounds_of.mono (by decide)) hr (by rfl) (a_cons (e_slot 0) (a_cons (e_slot 1) a_nil))))
  (ss_cons (s_set (i := 4) nd rfl (by first | exact Or.inl rfl | exact Or.inr rfl) (e_call (G_bounds_of.mono (by decide)) hr (by rfl) (a_cons (e_slot 0) (a_cons (e_slot 2) a_nil))))
  (ss_one (s_ret (e_call (G_joined.mono (by decide)) hr (by rfl) (a_cons (e_slot 0) (a_cons (e_sortset rfl (by rfl) z_sorted (by rfl) z_set (e_add (e_slot 3) (e_slot 4))) a_nil))))))))
/-! ### _law_draws -/
abbrev s_f_law_draws : Stmt := topS 25
abbrev N_f_law_draws : List Str := ["_law_cell"]
abbrev P_f_law_draws : List Str := ["_law_cell"]
theorem sc_f_law_draws : FnScope N_f_law_draws P_f_law_draws (defScope s_f_law_draws) := ⟨rfl, rfl, rfl, by decide +kernel, rfl, by decide +kernel, by decide +kernel⟩
noncomputable def den_f_law_draws : Ds := (retS (boxF (consF (bin2 pMod (intF (slotF 0)) (bin2 pPow (bin2 pPow (bin2 pPow (constF (.int 10)) (constF (.int 60))) (constF (.int 60))) (constF (.int 4)))) (consF (constF (.int 0)) (consF (bin2 pGe (slotF 0) (bin2 pPow (constF (.int 10)) (constF (.int 18)))) nilF)))))
noncomputable def run_f_law_draws : List W → Bs → Out W := fnF 1 den_f_law_draws
theorem m_f_law_draws {P : Program} {w : World} {K : PySem.W.Frag} {mg : Str → Option Value} {base : Heap} {fa : Addr} {fd : FuncData} (F : Fun K "_law_draws" "_law_draws" s_f_law_draws fa fd) (g : mg "_law_draws" = some (.ref fa)) (b : Binds K fd P_f_law_draws [])
    (z_int : mg "int" = none) :
    FnM P w K mg base 1 "_law_draws" 1 run_f_law_draws :=
  fn_mini F sc_f_law_draws g b fun cdv A outer s H E hr => by
  have nd := sc_f_law_draws.nd
  have hu : (A.deeper (envOfC "_law_draws" (defScope s_f_law_draws) s.heap.objs.size fa cdv)).units + 65 < cLine := by
    have := hr.un
    omega
  exact (ss_one (s_ret (e_box (a_cons (e_mod (e_intOf (by rfl) z_int (e_slot 0)) (e_pow (e_pow (e_pow e_int e_int) e_int) e_int)) (a_cons e_int (a_cons (e_ge (e_slot 0) (e_pow e_int e_int)) a_nil))))))
/-! ### _law_next -/
abbrev s_f_law_next : Stmt := topS 26
abbrev N_f_law_next : List Str := ["_law_draws_here", "_law_k", "_law_number"]
abbrev P_f_law_next : List Str := ["_law_draws_here"]
theorem sc_f_law_next : FnScope N_f_law_next P_f_law_next (defScope s_f_law_next) := ⟨rfl, rfl, rfl, by decide +kernel, rfl, by decide +kernel, by decide +kernel⟩
noncomputable def den_f_law_next : Ds := (seqS (setS (slotF 0) (constF (.int 1)) (bin2 pAdd (ixbF (slotF 0) (constF (.int 1))) (constF (.int 1)))) (seqS (asgF (ixbF (slotF 0) (constF (.int 1))) 1) (seqS (ifS (truthF (ixbF (slotF 0) (constF (.int 2)))) (seqS (asgF (bin2 pMod (intF (ixbF (slotF 0) (constF (.int 0)))) (bin2 pPow (constF (.int 10)) (constF (.int 6)))) 2) (seqS (setS (slotF 0) (constF (.int 0)) (bin2 pFdiv (ixbF (slotF 0) (constF (.int 0))) (bin2 pPow (constF (.int 10)) (constF (.int 6))))) (retS (slotF 2)))) nxS) (seqS (asgF (bin2 pMod (intF (bin2 pMulI (bin2 pAdd (bin2 pAdd (bin2 pMod (intF (ixbF (slotF 0) (constF (.int 0)))) (constF (.int 1000003))) (bin2 pMulI (bin2 pMulI (slotF 1) (slotF 1)) (constF (.int 7919)))) (slotF 1)) (constF (.int 48271)))) (constF (.int 2147483629))) 2) (seqS (asgF (bin2 pMod (intF (bin2 pMulI (slotF 2) (slotF 2))) (constF (.int 2147483587))) 2) (retS (bin2 pFdiv (bin2 pMod (intF (bin2 pMulI (slotF 2) (bin2 pAdd (slotF 2) (constF (.int 2))))) (constF (.int 2147483579))) (constF (.int 7)))))))))
noncomputable def run_f_law_next : List W → Bs → Out W := fnF 3 den_f_law_next
theorem m_f_law_next {P : Program} {w : World} {K : PySem.W.Frag} {mg : Str → Option Value} {base : Heap} {fa : Addr} {fd : FuncData} (F : Fun K "_law_next" "_law_next" s_f_law_next fa fd) (g : mg "_law_next" = some (.ref fa)) (b : Binds K fd P_f_law_next [])
    (z_int : mg "int" = none) :
    FnM P w K mg base 1 "_law_next" 1 run_f_law_next :=
  fn_mini F sc_f_law_next g b fun cdv A outer s H E hr => by
  have nd := sc_f_law_next.nd
  have hu : (A.deeper (envOfC "_law_next" (defScope s_f_law_next) s.heap.objs.size fa cdv)).units + 65 < cLine := by
    have := hr.un
    omega
  exact (ss_cons (s_setIx (e_add (e_ixb (e_slot 0) e_int) e_int) (e_slot 0) e_int)
  (ss_cons (s_set (i := 1) nd rfl (by first | exact Or.inl rfl | exact Or.inr rfl) (e_ixb (e_slot 0) e_int))
  (ss_cons (s_if (t_truth (e_ixb (e_slot 0) e_int)) (ss_cons (s_set (i := 2) nd rfl (by first | exact Or.inl rfl | exact Or.inr rfl) (e_mod (e_intOf (by rfl) z_int (e_ixb (e_slot 0) e_int)) (e_pow e_int e_int)))
  (ss_cons (s_setIx (e_fdiv (e_ixb (e_slot 0) e_int) (e_pow e_int e_int)) (e_slot 0) e_int)
  (ss_one (s_ret (e_slot 2))))) ss_nil)
  (ss_cons (s_set (i := 2) nd rfl (by first | exact Or.inl rfl | exact Or.inr rfl) (e_mod (e_intOf (by rfl) z_int (e_mul (e_add (e_add (e_mod (e_intOf (by rfl) z_int (e_ixb (e_slot 0) e_int)) e_int) (e_mul (e_mul (e_slot 1) (e_slot 1)) e_int)) (e_slot 1)) e_int)) e_int))
  (ss_cons (s_set (i := 2) nd rfl (by first | exact Or.inl rfl | exact Or.inr rfl) (e_mod (e_intOf (by rfl) z_int (e_mul (e_slot 2) (e_slot 2))) e_int))
  (ss_one (s_ret (e_fdiv (e_mod (e_intOf (by rfl) z_int (e_mul (e_slot 2) (e_add (e_slot 2) e_int))) e_int) e_int))))))))
/-! ### _law_list -/
abbrev s_f_law_list : Stmt := topS 27
abbrev N_f_law_list : List Str := ["_law_draws_here", "_law_most", "_law_many", "_law_wide", "_law_told", "_law_k", "_law_value"]
abbrev P_f_law_list : List Str := ["_law_draws_here", "_law_most"]
theorem sc_f_law_list : FnScope N_f_law_list P_f_law_list (defScope s_f_law_list) := ⟨rfl, rfl, rfl, by decide +kernel, rfl, by decide +kernel, by decide +kernel⟩
noncomputable def den_f_law_list : Ds := (seqS (asgF (bin2 pMod (intF (callF 1 run_f_law_next (consF (slotF 0) nilF))) (bin2 pAdd (slotF 1) (constF (.int 1)))) 2) (seqS (asgF (bin2 pIx (lstF (consF (constF (.int 2)) (consF (constF (.int 3)) (consF (bin2 pAdd (slotF 2) (constF (.int 1))) (consF (bin2 pAdd (bin2 pMulI (constF (.int 4)) (slotF 2)) (constF (.int 1))) nilF))))) (bin2 pMod (intF (callF 1 run_f_law_next (consF (slotF 0) nilF))) (constF (.int 4)))) 3) (seqS (asgF (lcF (range1F (slotF 2)) [5] (tgName 5) yesT (bin2 pSubI (bin2 pMod (intF (callF 1 run_f_law_next (consF (slotF 0) nilF))) (slotF 3)) (bin2 pFdiv (slotF 3) (constF (.int 3))))) 4) (retS (ifF (boolF (bin2 pEq (bin2 pMod (intF (callF 1 run_f_law_next (consF (slotF 0) nilF))) (constF (.int 8))) (constF (.int 0)))) (lcF (itemsF (slotF 4)) [6] (tgName 6) yesT (bin2 pMulI (slotF 6) (bin2 pFdiv (bin2 pPow (constF (.int 10)) (constF (.int 20))) (bin2 pAdd (slotF 3) (constF (.int 1)))))) (slotF 4))))))
noncomputable def run_f_law_list : List W → Bs → Out W := fnF 7 den_f_law_list
theorem m_f_law_list {P : Program} {w : World} {K : PySem.W.Frag} {mg : Str → Option Value} {base : Heap} {fa : Addr} {fd : FuncData} (F : Fun K "_law_list" "_law_list" s_f_law_list fa fd) (g : mg "_law_list" = some (.ref fa)) (b : Binds K fd P_f_law_list [])
    (z_int : mg "int" = none)
    (z_range : mg "range" = none)
    (G_f_law_next : FnM P w K mg base 1 "_law_next" 1 run_f_law_next) :
    FnM P w K mg base 2 "_law_list" 2 run_f_law_list :=
  fn_mini F sc_f_law_list g b fun cdv A outer s H E hr => by
  have nd := sc_f_law_list.nd
  have hu : (A.deeper (envOfC "_law_list" (defScope s_f_law_list) s.heap.objs.size fa cdv)).units + 65 < cLine := by
    have := hr.un
    omega
  exact (ss_cons (s_set (i := 2) nd rfl (by first | exact Or.inl rfl | exact Or.inr rfl) (e_mod (e_intOf (by rfl) z_int (e_call (G_f_law_next.mono (by decide)) hr (by rfl) (a_cons (e_slot 0) a_nil))) (e_add (e_slot 1) e_int)))
  (ss_cons (s_set (i := 3) nd rfl (by first | exact Or.inl rfl | exact Or.inr rfl) (e_ix (e_lst (a_cons e_int (a_cons e_int (a_cons (e_add (e_slot 2) e_int) (a_cons (e_add (e_mul e_int (e_slot 2)) e_int) a_nil))))) (e_mod (e_intOf (by rfl) z_int (e_call (G_f_law_next.mono (by decide)) hr (by rfl) (a_cons (e_slot 0) a_nil))) e_int)))
  (ss_cons (s_setLc (i := 4) (own := [("_law_k", 5)]) (js := [5]) rfl nd rfl rfl (sw_true rfl rfl rfl (by decide +kernel)) (i_range1 (by rfl) z_range (e_slot 2)) (blkOk_by (own := [("_law_k", 5)]) (N := N_f_law_list) (sc := defScope s_f_law_list) (by decide +kernel)) (tg_name _ 5) (by decide) (fun _ _ _ _ _ => (pg_name (i := 5) nd rfl (by first | exact Or.inl rfl | exact Or.inr rfl))) (fun _ _ _ _ _ => ts_nil) (fun _ _ _ _ _ => (e_sub (e_mod (e_intOf (by rfl) z_int (e_call (G_f_law_next.mono (by decide)) hr (by rfl) (a_cons (e_slot 0) a_nil))) (e_slot 3)) (e_fdiv (e_slot 3) e_int))))
  (ss_one (s_ret (e_if (t_eq (e_mod (e_intOf (by rfl) z_int (e_call (G_f_law_next.mono (by decide)) hr (by rfl) (a_cons (e_slot 0) a_nil))) e_int) e_int hu) (e_lc (own := [("_law_value", 6)]) (js := [6]) rfl nd (i_items (e_slot 4)) (blkOk_by (own := [("_law_value", 6)]) (N := N_f_law_list) (sc := defScope s_f_law_list) (by decide +kernel)) (tg_name _ 6) (by decide) (fun _ _ _ _ _ => (pg_name (i := 6) nd rfl (by first | exact Or.inl rfl | exact Or.inr rfl))) (fun _ _ _ _ _ => ts_nil) (fun _ _ _ _ _ => (e_mul (e_slot 6) (e_fdiv (e_pow e_int e_int) (e_add (e_slot 3) e_int))))) (e_slot 4)))))))
/-! ### _law_upward -/
abbrev s_f_law_upward : Stmt := topS 28
abbrev N_f_law_upward : List Str := ["_law_above", "_law_some", "_law_told", "_law_place"]
abbrev P_f_law_upward : List Str := ["_law_above", "_law_some"]
theorem sc_f_law_upward : FnScope N_f_law_upward P_f_law_upward (defScope s_f_law_upward) := ⟨rfl, rfl, rfl, by decide +kernel, rfl, by decide +kernel, by decide +kernel⟩
noncomputable def lb_f_law_upward_1 : Ds := (seqS (dropS (appF (slotF 2) (slotF 3))) (asgF (bin2 pIx (slotF 0) (slotF 3)) 3))
noncomputable def lb_f_law_upward_2 : Ds := (whS 100 (andT (boolF (notnF (slotF 3))) (boolF (bin2 pNin (slotF 3) (slotF 2)))) lb_f_law_upward_1)
noncomputable def den_f_law_upward : Ds := (seqS (asgF (boxF nilF) 2) (seqS (forS (itemsF (slotF 1)) (tgName 3) lb_f_law_upward_2) (retS (sortF (slotF 2)))))
noncomputable def run_f_law_upward : List W → Bs → Out W := fnF 4 den_f_law_upward
theorem m_f_law_upward {P : Program} {w : World} {K : PySem.W.Frag} {mg : Str → Option Value} {base : Heap} {fa : Addr} {fd : FuncData} (F : Fun K "_law_upward" "_law_upward" s_f_law_upward fa fd) (g : mg "_law_upward" = some (.ref fa)) (b : Binds K fd P_f_law_upward [])
    (z_sorted : mg "sorted" = none) :
    FnM P w K mg base 1 "_law_upward" 2 run_f_law_upward :=
  fn_mini F sc_f_law_upward g b fun cdv A outer s H E hr => by
  have nd := sc_f_law_upward.nd
  have hu : (A.deeper (envOfC "_law_upward" (defScope s_f_law_upward) s.heap.objs.size fa cdv)).units + 65 < cLine := by
    have := hr.un
    omega
  exact (ss_cons (s_set (i := 2) nd rfl (by first | exact Or.inl rfl | exact Or.inr rfl) (e_box a_nil))
  (ss_cons (s_for PassesOwn.never rfl (i_items (e_slot 1)) (pg_name (i := 3) nd rfl (by first | exact Or.inl rfl | exact Or.inr rfl)) (tg_name _ 3) (ss_one (s_while 100 PassesOwn.never (PW.pt (w_and (t_notn (e_slot 3)) (w_and1 (t_nin (e_slot 3) (e_slot 2) hu)))) (ss_cons (s_expr (e_append (e_slot 2) (e_slot 3)))
  (ss_one (s_set (i := 3) nd rfl (by first | exact Or.inl rfl | exact Or.inr rfl) (e_ix (e_slot 0) (e_slot 3))))))))
  (ss_one (s_ret (e_sorted hu (by rfl) z_sorted (e_slot 2))))))
/-! ### _law_right -/
abbrev s_f_law_right : Stmt := topS 29
abbrev N_f_law_right : List Str := ["_law_draws_here", "_law_values", "_law_above", "_law_seen", "_law_k", "_law_places", "_law_place", "_law_bounds", "_law_goal", "_law_other", "_law_old"]
abbrev P_f_law_right : List Str := ["_law_draws_here"]
theorem sc_f_law_right : FnScope N_f_law_right P_f_law_right (defScope s_f_law_right) := ⟨rfl, rfl, rfl, by decide +kernel, rfl, by decide +kernel, by decide +kernel⟩
noncomputable def lb_f_law_right_1 : Ds := (seqS (asgF (dixF (slotF 3) (slotF 9)) 10) (seqS (ifS (boolF (bin2 pNe (callF 3 run_both (consF (slotF 1) (consF (slotF 8) (consF (listF (slotF 9)) nilF)))) (callF 2 run_cut (consF (slotF 1) (consF (lcF (itemsF (slotF 7)) [6] (tgName 6) (boolF (bin2 pIn (slotF 6) (slotF 10))) (slotF 6)) nilF))))) (retS (constF (.bool false))) nxS) (ifS (boolF (bin2 pNe (callF 3 run_either (consF (slotF 1) (consF (listF (slotF 9)) (consF (slotF 8) nilF)))) (callF 2 run_cut (consF (slotF 1) (consF (sortsetF (bin2 pAdd (slotF 7) (slotF 10))) nilF))))) (retS (constF (.bool false))) nxS)))
noncomputable def lb_f_law_right_2 : Ds := (seqS (asgF (lcF (range1F (lenF (slotF 1))) [6] (tgName 6) (boolF (bin2 pEq (bin2 pMod (intF (callF 1 run_f_law_next (consF (slotF 0) nilF))) (constF (.int 4))) (constF (.int 0)))) (slotF 6)) 5) (seqS (asgF (callF 2 run_boundaries (consF (slotF 1) (consF (slotF 5) nilF))) 7) (seqS (asgF (callF 2 run_cut (consF (slotF 1) (consF (slotF 5) nilF))) 8) (seqS (ifS (orT (boolF (bin2 pNe (callF 2 run_f_law_upward (consF (slotF 2) (consF (bin2 pAdd (lstF (consF (constF (.int 0)) nilF)) (slotF 5)) nilF))) (slotF 7))) (boolF (bin2 pNe (callF 2 run_f_law_upward (consF (slotF 2) (consF (slotF 7) nilF))) (slotF 7)))) (retS (constF (.bool false))) nxS) (seqS (ifS (orT (boolF (bin2 pNe (callF 2 run_cut (consF (slotF 1) (consF (slotF 7) nilF))) (slotF 8))) (boolF (bin2 pNe (callF 2 run_boundaries (consF (slotF 1) (consF (slotF 7) nilF))) (slotF 7)))) (retS (constF (.bool false))) nxS) (seqS (ifS (orT (boolF (bin2 pNe (callF 2 run_read_back (consF (slotF 1) (consF (slotF 8) nilF))) (tupF (consF (constF (.str "cut")) (consF (slotF 7) nilF))))) (boolF (bin2 pNe (callF 2 run_cut (consF (slotF 1) (consF (callF 2 run_least_places (consF (slotF 1) (consF (slotF 5) nilF))) nilF))) (slotF 8)))) (retS (constF (.bool false))) nxS) (seqS (ifS (boolF (bin2 pNe (dgetF (slotF 3) (tupleF (slotF 8)) (slotF 7)) (slotF 7))) (retS (constF (.bool false))) nxS) (seqS (forKS 3 (tgName 9) lb_f_law_right_1) (dputS (slotF 3) (tupleF (slotF 8)) (slotF 7))))))))))
noncomputable def den_f_law_right : Ds := (seqS (asgF (callF 2 run_f_law_list (consF (slotF 0) (consF (constF (.int 40)) nilF))) 1) (seqS (ifS (boolF (bin2 pEq (slotF 1) (lstF nilF))) (retS (bin2 pEq (lstF (consF (callF 2 run_cut (consF (lstF nilF) (consF (lstF nilF) nilF))) (consF (callF 2 run_boundaries (consF (lstF nilF) (consF (lstF nilF) nilF))) (consF (callF 2 run_read_back (consF (lstF nilF) (consF (lstF nilF) nilF))) nilF)))) (lstF (consF (lstF nilF) (consF (lstF nilF) (consF (tupF (consF (constF (.str "cut")) (consF (lstF nilF) nilF))) nilF)))))) nxS) (seqS (asgF (callF 1 run_parents (consF (slotF 1) nilF)) 2) (seqS (asgF dictTF 3) (seqS (forS (range1F (constF (.int 6))) (tgName 4) lb_f_law_right_2) (retS (constF (.bool true))))))))
noncomputable def run_f_law_right : List W → Bs → Out W := fnF 11 den_f_law_right
theorem m_f_law_right {P : Program} {w : World} {K : PySem.W.Frag} {mg : Str → Option Value} {base : Heap} {fa : Addr} {fd : FuncData} (F : Fun K "_law_right" "_law_right" s_f_law_right fa fd) (g : mg "_law_right" = some (.ref fa)) (b : Binds K fd P_f_law_right [])
    (z_int : mg "int" = none)
    (z_len : mg "len" = none)
    (z_list : mg "list" = none)
    (z_range : mg "range" = none)
    (z_set : mg "set" = none)
    (z_sorted : mg "sorted" = none)
    (z_tuple : mg "tuple" = none)
    (G_f_law_list : FnM P w K mg base 2 "_law_list" 2 run_f_law_list)
    (G_f_law_next : FnM P w K mg base 1 "_law_next" 1 run_f_law_next)
    (G_f_law_upward : FnM P w K mg base 1 "_law_upward" 2 run_f_law_upward)
    (G_both : FnM P w K mg base 4 "both" 3 run_both)
    (G_boundaries : FnM P w K mg base 4 "boundaries" 2 run_boundaries)
    (G_cut : FnM P w K mg base 4 "cut" 2 run_cut)
    (G_either : FnM P w K mg base 4 "either" 3 run_either)
    (G_least_places : FnM P w K mg base 4 "least_places" 2 run_least_places)
    (G_parents : FnM P w K mg base 3 "parents" 1 run_parents)
    (G_read_back : FnM P w K mg base 3 "read_back" 2 run_read_back) :
    FnM P w K mg base 5 "_law_right" 1 run_f_law_right :=
  fn_mini F sc_f_law_right g b fun cdv A outer s H E hr => by
  have nd := sc_f_law_right.nd
  have hu : (A.deeper (envOfC "_law_right" (defScope s_f_law_right) s.heap.objs.size fa cdv)).units + 65 < cLine := by
    have := hr.un
    omega
  exact (ss_cons (s_set (i := 1) nd rfl (by first | exact Or.inl rfl | exact Or.inr rfl) (e_call (G_f_law_list.mono (by decide)) hr (by rfl) (a_cons (e_slot 0) (a_cons e_int a_nil))))
  (ss_cons (s_if (t_eq (e_slot 1) (e_lst a_nil) hu) (ss_one (s_ret (e_eq (e_lst (a_cons (e_call (G_cut.mono (by decide)) hr (by rfl) (a_cons (e_lst a_nil) (a_cons (e_lst a_nil) a_nil))) (a_cons (e_call (G_boundaries.mono (by decide)) hr (by rfl) (a_cons (e_lst a_nil) (a_cons (e_lst a_nil) a_nil))) (a_cons (e_call (G_read_back.mono (by decide)) hr (by rfl) (a_cons (e_lst a_nil) (a_cons (e_lst a_nil) a_nil))) a_nil)))) (e_lst (a_cons (e_lst a_nil) (a_cons (e_lst a_nil) (a_cons (e_tup (a_cons e_str (a_cons (e_lst a_nil) a_nil))) a_nil)))) hu))) ss_nil)
  (ss_cons (s_set (i := 2) nd rfl (by first | exact Or.inl rfl | exact Or.inr rfl) (e_call (G_parents.mono (by decide)) hr (by rfl) (a_cons (e_slot 1) a_nil)))
  (ss_cons (s_set (i := 3) nd rfl (by first | exact Or.inl rfl | exact Or.inr rfl) e_dictT)
  (ss_cons (s_for PassesOwn.never rfl (i_range1 (by rfl) z_range e_int) (pg_name (i := 4) nd rfl (by first | exact Or.inl rfl | exact Or.inr rfl)) (tg_name _ 4) (ss_cons (s_setLc (i := 5) (own := [("_law_place", 6)]) (js := [6]) rfl nd rfl rfl (sw_true rfl rfl rfl (by decide +kernel)) (i_range1 (by rfl) z_range (e_len (by rfl) z_len (e_slot 1))) (blkOk_by (own := [("_law_place", 6)]) (N := N_f_law_right) (sc := defScope s_f_law_right) (by decide +kernel)) (tg_name _ 6) (by decide) (fun _ _ _ _ _ => (pg_name (i := 6) nd rfl (by first | exact Or.inl rfl | exact Or.inr rfl))) (fun _ _ _ _ _ => (ts_one (t_eq (e_mod (e_intOf (by rfl) z_int (e_call (G_f_law_next.mono (by decide)) hr (by rfl) (a_cons (e_slot 0) a_nil))) e_int) e_int hu))) (fun _ _ _ _ _ => (e_slot 6)))
  (ss_cons (s_set (i := 7) nd rfl (by first | exact Or.inl rfl | exact Or.inr rfl) (e_call (G_boundaries.mono (by decide)) hr (by rfl) (a_cons (e_slot 1) (a_cons (e_slot 5) a_nil))))
  (ss_cons (s_set (i := 8) nd rfl (by first | exact Or.inl rfl | exact Or.inr rfl) (e_call (G_cut.mono (by decide)) hr (by rfl) (a_cons (e_slot 1) (a_cons (e_slot 5) a_nil))))
  (ss_cons (s_if (PW.pt (w_or (t_ne (e_call (G_f_law_upward.mono (by decide)) hr (by rfl) (a_cons (e_slot 2) (a_cons (e_add (e_lst (a_cons e_int a_nil)) (e_slot 5)) a_nil))) (e_slot 7) hu) (w_or1 (t_ne (e_call (G_f_law_upward.mono (by decide)) hr (by rfl) (a_cons (e_slot 2) (a_cons (e_slot 7) a_nil))) (e_slot 7) hu)))) (ss_one (s_ret e_bl)) ss_nil)
  (ss_cons (s_if (PW.pt (w_or (t_ne (e_call (G_cut.mono (by decide)) hr (by rfl) (a_cons (e_slot 1) (a_cons (e_slot 7) a_nil))) (e_slot 8) hu) (w_or1 (t_ne (e_call (G_boundaries.mono (by decide)) hr (by rfl) (a_cons (e_slot 1) (a_cons (e_slot 7) a_nil))) (e_slot 7) hu)))) (ss_one (s_ret e_bl)) ss_nil)
  (ss_cons (s_if (PW.pt (w_or (t_ne (e_call (G_read_back.mono (by decide)) hr (by rfl) (a_cons (e_slot 1) (a_cons (e_slot 8) a_nil))) (e_tup (a_cons e_str (a_cons (e_slot 7) a_nil))) hu) (w_or1 (t_ne (e_call (G_cut.mono (by decide)) hr (by rfl) (a_cons (e_slot 1) (a_cons (e_call (G_least_places.mono (by decide)) hr (by rfl) (a_cons (e_slot 1) (a_cons (e_slot 5) a_nil))) a_nil))) (e_slot 8) hu)))) (ss_one (s_ret e_bl)) ss_nil)
  (ss_cons (s_if (t_ne (e_dget2 hu (e_slot 3) (e_tuple (by rfl) z_tuple (e_slot 8)) (e_slot 7)) (e_slot 7) hu) (ss_one (s_ret e_bl)) ss_nil)
  (ss_cons (s_forK (i := 3) PassesOwn.never rfl rfl (by first | exact Or.inl rfl | exact Or.inr (Or.inl rfl) | exact Or.inr (Or.inr rfl)) (pg_name (i := 9) nd rfl (by first | exact Or.inl rfl | exact Or.inr rfl)) (tg_name _ 9) (ss_cons (s_set (i := 10) nd rfl (by first | exact Or.inl rfl | exact Or.inr rfl) (e_dix hu (e_slot 3) (e_slot 9)))
  (ss_cons (s_if (t_ne (e_call (G_both.mono (by decide)) hr (by rfl) (a_cons (e_slot 1) (a_cons (e_slot 8) (a_cons (e_list (by rfl) z_list (e_slot 9)) a_nil)))) (e_call (G_cut.mono (by decide)) hr (by rfl) (a_cons (e_slot 1) (a_cons (e_lc (own := [("_law_place", 6)]) (js := [6]) rfl nd (i_items (e_slot 7)) (blkOk_by (own := [("_law_place", 6)]) (N := N_f_law_right) (sc := defScope s_f_law_right) (by decide +kernel)) (tg_name _ 6) (by decide) (fun _ _ _ _ _ => (pg_name (i := 6) nd rfl (by first | exact Or.inl rfl | exact Or.inr rfl))) (fun _ _ _ _ _ => (ts_one (t_in (e_slot 6) (e_slot 10) hu))) (fun _ _ _ _ _ => (e_slot 6))) a_nil))) hu) (ss_one (s_ret e_bl)) ss_nil)
  (ss_one (s_if (t_ne (e_call (G_either.mono (by decide)) hr (by rfl) (a_cons (e_slot 1) (a_cons (e_list (by rfl) z_list (e_slot 9)) (a_cons (e_slot 8) a_nil)))) (e_call (G_cut.mono (by decide)) hr (by rfl) (a_cons (e_slot 1) (a_cons (e_sortset rfl (by rfl) z_sorted (by rfl) z_set (e_add (e_slot 7) (e_slot 10))) a_nil))) hu) (ss_one (s_ret e_bl)) ss_nil)))))
  (ss_one (s_dput hu (e_slot 7) (e_slot 3) (e_tuple (by rfl) z_tuple (e_slot 8)))))))))))))
  (ss_one (s_ret e_bl)))))))
/-! ### law -/
abbrev s_law : Stmt := topS 30
abbrev N_law : List Str := ["_law_script", "_law_cell", "_law_draws_here", "_law_turn"]
abbrev P_law : List Str := ["_law_script"]
theorem sc_law : FnScope N_law P_law (defScope s_law) := ⟨rfl, rfl, rfl, by decide +kernel, rfl, by decide +kernel, by decide +kernel⟩
noncomputable def lb_law_1 : Ds := (ifS (notT (truthF (callF 1 run_f_law_right (consF (slotF 2) nilF)))) (retS (constF (.bool false))) nxS)
noncomputable def lb_law_2 : Ds := (seqS (asgF (callF 1 run_f_law_draws (consF (slotF 1) nilF)) 2) (forS (range1F (constF (.int 2))) (tgName 3) lb_law_1))
noncomputable def den_law : Ds := (seqS (forS (itemsF (bin2 pAdd (slF (slotF 0) noO (someO (constF (.int 6)))) (lstF (consF (constF (.int 0)) nilF)))) (tgName 1) lb_law_2) (retS (constF (.bool true))))
noncomputable def run_law : List W → Bs → Out W := fnF 4 den_law
theorem m_law_ok {P : Program} {w : World} {K : PySem.W.Frag} {mg : Str → Option Value} {base : Heap} {fa : Addr} {fd : FuncData} (F : Fun K "law" "law" s_law fa fd)
    (z_range : mg "range" = none)
    (G_f_law_draws : FnM P w K mg base 1 "_law_draws" 1 run_f_law_draws)
    (G_f_law_right : FnM P w K mg base 5 "_law_right" 1 run_f_law_right) :
    FnOk P w K mg base CX0 6 fa fd P_law (spM K 1 run_law) :=
  fn_mini_ok F sc_law fun cdv A outer s H E hr => by
  have nd := sc_law.nd
  have hu : (A.deeper (envOfC "law" (defScope s_law) s.heap.objs.size fa cdv)).units + 65 < cLine := by
    have := hr.un
    omega
  exact (ss_cons (s_for PassesOwn.never rfl (i_items (e_add (e_sl (e_slot 0) o_no (o_some e_int)) (e_lst (a_cons e_int a_nil)))) (pg_name (i := 1) nd rfl (by first | exact Or.inl rfl | exact Or.inr rfl)) (tg_name _ 1) (ss_cons (s_set (i := 2) nd rfl (by first | exact Or.inl rfl | exact Or.inr rfl) (e_call (G_f_law_draws.mono (by decide)) hr (by rfl) (a_cons (e_slot 1) a_nil)))
  (ss_one (s_for PassesOwn.never rfl (i_range1 (by rfl) z_range e_int) (pg_name (i := 3) nd rfl (by first | exact Or.inl rfl | exact Or.inr rfl)) (tg_name _ 3) (ss_one (s_if (t_not (t_truth (e_call (G_f_law_right.mono (by decide)) hr (by rfl) (a_cons (e_slot 2) a_nil)))) (ss_one (s_ret e_bl)) ss_nil))))))
  (ss_one (s_ret e_bl)))

end K45

namespace K45
open PySem PySem.Spec PyProof.Rows L2 Mini
theorem r_is_whole (i : Int) (B : Bs) : run_is_whole [.d (.int i)] B = .ok (.d (.bool true)) B := by
  simp [run_is_whole, den_is_whole, fnF_eq]
theorem r_is_wholeN (i : Nat) (B : Bs) : run_is_whole [.d (nI i)] B = .ok (.d (.bool true)) B := r_is_whole i B
theorem b_check_list (w : Option W) (a : Option W) (d : Int) (B : Bs) : lb_check_list_1 [w, a, some (.d (.int d))] B = .ok (.nx, [w, a, some (.d (.int d))]) B := by
  simp [lb_check_list_1, r_is_whole]
theorem r_check_list (l : List Int) (B : Bs) : run_check_list [.d (iL l)] B = .ok (.d .none) B := by
  have loop : ∀ (ds : List Int) (k : Nat) (a b : Option W), ∃ a' b', forGo (tgTup [1, 2]) lb_check_list_1 ((ds.zipIdx k).map fun p => W.d (.tuple [.int (p.2 : Int), .int p.1])) [some (.d (iL l)), a, b] B = .ok (.nx, [some (.d (iL l)), a', b']) B := by
    intro ds
    induction ds with
    | nil => exact fun k a b => ⟨a, b, rfl⟩
    | cons d ds ih =>
      intro k a b
      obtain ⟨a', b', h⟩ := ih (k + 1) (some (.d (.int k))) (some (.d (.int d)))
      refine ⟨a', b', ?_⟩
      rw [List.zipIdx_cons, List.map_cons, forGo_cons]
      simp [b_check_list, h]
  obtain ⟨a', b', h⟩ := loop l 0 none none
  simp [run_check_list, den_check_list, fnF_eq, h]
/-! ### units_of -/
theorem pAdd_lit {α : Type} {enc : α → PyData} (l m : List α) (ds : List PyData) (e : ds = m.map enc) (h : l.length + m.length ≤ LN) : pAdd (eL enc l) (.list ds) = some (eL enc (l ++ m)) := by
  subst e
  exact pAdd_eL enc l m h
theorem b_units_of (l : List Int) (us : List (List Int)) (hne : ∀ u ∈ us, u ≠ []) (v : Int) (h : us.length + 1 ≤ LN) (h2 : ∀ u ∈ us, u.length + 1 ≤ LN) (B : Bs) :
    lb_units_of_1 [some (.d (iL l)), some (.d (iLL us)), some (.d (.int v))] B = .ok (.nx, [some (.d (iL l)), some (.d (iLL (ustep us v))), some (.d (.int v))]) B := by
  rcases List.eq_nil_or_concat us with rfl | ⟨r, u, rfl⟩
  · have e1 : pEq (iLL []) (.list []) = some (.bool true) := pEq_of (enc := iLL) (inj_eL (inj_eL inj_int)) sh_iLL [] []
    have e2 : pAdd (iLL []) (.list [.list [.int v]]) = some (iLL [[v]]) := pAdd_lit [] [[v]] _ rfl (by simp [LN])
    simp [lb_units_of_1, e1, e2, ustep_none, LN]
  · simp only [List.concat_eq_append] at *
    cases u with
    | nil => exact absurd rfl (hne [] (by simp))
    | cons x u =>
      have e1 : pEq (iLL (r ++ [x :: u])) (.list []) = some (.bool false) := by
        have := pEq_of (enc := iLL) (inj_eL (inj_eL inj_int)) sh_iLL (r ++ [x :: u]) []
        rw [decide_eq_false (by simp)] at this
        exact this
      have e3 : pAdd (iLL (r ++ [x :: u])) (.list [.list [.int v]]) = some (iLL (r ++ [x :: u] ++ [[v]])) := pAdd_lit _ [[v]] _ rfl (by simpa using h)
      have e4 : pAdd (iL (x :: u)) (.list [.int v]) = some (iL (x :: (u ++ [v]))) := pAdd_lit _ [v] _ rfl (by have := h2 (x :: u) (by simp); simpa using this)
      have e5 : pAdd (eL iL r) (.list [iL (x :: (u ++ [v]))]) = some (iLL (r ++ [x :: (u ++ [v])])) := pAdd_lit _ [x :: (u ++ [v])] _ rfl (by simp at h; simp; omega)
      by_cases hx : x ≤ v
      · have e6 : ustep (r ++ [x :: u]) v = r ++ [x :: u] ++ [[v]] := by rw [ustep_eq, if_pos hx]
        simp only [lb_units_of_1]
        simp [e1, e3, e6, LN, atI_neg1, atI_zero, hx]
      · have e6 : ustep (r ++ [x :: u]) v = r ++ [(x :: u) ++ [v]] := by rw [ustep_eq, if_neg hx]
        simp only [lb_units_of_1]
        simp [e1, e6, LN, atI_neg1, atI_zero, hx]
        simp [e4, e5, cutG_init]
/-- units stay small -/
structure Uok (us : List (List Int)) (k : Nat) : Prop where
  ne : ∀ u ∈ us, u ≠ []
  len : us.length ≤ k
  el : ∀ u ∈ us, u.length ≤ k
theorem Uok.step {us : List (List Int)} {k : Nat} (h : Uok us k) (v : Int) : Uok (ustep us v) (k + 1) := by
  rcases List.eq_nil_or_concat us with rfl | ⟨r, u, rfl⟩
  · exact ⟨by simp [ustep_none], by simp [ustep_none], by simp [ustep_none]⟩
  · simp only [List.concat_eq_append] at *
    obtain ⟨h1, h2, h3⟩ := h
    cases u with
    | nil => exact absurd rfl (h1 [] (by simp))
    | cons x u =>
      rw [ustep_eq]
      rw [List.length_append, List.length_singleton] at h2
      have hu := h3 (x :: u) (by simp)
      rw [List.length_cons] at hu
      split
      · refine ⟨fun w hw => ?_, by simp; omega, fun w hw => ?_⟩
        · rcases List.mem_append.mp hw with hw | hw
          · exact h1 w hw
          · rw [List.mem_singleton.mp hw]; simp
        · rcases List.mem_append.mp hw with hw | hw
          · have := h3 w hw; omega
          · rw [List.mem_singleton.mp hw]; simp
      · refine ⟨fun w hw => ?_, by simp; omega, fun w hw => ?_⟩
        · rcases List.mem_append.mp hw with hw | hw
          · exact h1 w (List.mem_append_left _ hw)
          · rw [List.mem_singleton.mp hw]; simp
        · rcases List.mem_append.mp hw with hw | hw
          · have := h3 w (List.mem_append_left _ hw); omega
          · rw [List.mem_singleton.mp hw]; simp; omega
theorem loop_units (l : List Int) (B : Bs) : ∀ (r : List Int) (us : List (List Int)) (k : Nat) (x : Option W), Uok us k → k + r.length ≤ 1000 → ∃ x', forGo (tgName 2) lb_units_of_1 (r.map fun a => W.d (.int a)) [some (.d (iL l)), some (.d (iLL us)), x] B = .ok (.nx, [some (.d (iL l)), some (.d (iLL (r.foldl ustep us))), x']) B
  | [], us, k, x, _, _ => ⟨x, rfl⟩
  | v :: r, us, k, x, h, hk => by
    rw [List.length_cons] at hk
    obtain ⟨x', e⟩ := loop_units l B r (ustep us v) (k + 1) (some (.d (.int v))) (h.step v) (by omega)
    refine ⟨x', ?_⟩
    have b := b_units_of l us h.ne v (by have := h.len; unfold LN; omega) (fun u hu => by have := h.el u hu; unfold LN; omega) B
    rw [List.map_cons, forGo_cons]
    simp only [tgName_eq, List.set_cons_succ, List.set_cons_zero, b, Out.bind_ok]
    exact e
theorem r_units_of (l : List Int) (hl : l.length ≤ 1000) (B : Bs) : run_units_of [.d (iL l)] B = .ok (.d (iLL (units l))) B := by
  obtain ⟨x', e⟩ := loop_units l B l [] 0 none ⟨by simp, by simp, by simp⟩ (by omega)
  have e0 : (PyData.list [] : PyData) = iLL [] := rfl
  simp [run_units_of, den_units_of, fnF_eq, LN, e0, e, units]
/-! the same, the result in a box of its own -/
theorem b_units_ofB (l : List Int) (us : List (List Int)) (hne : ∀ u ∈ us, u ≠ []) (v : Int) (h : us.length + 1 ≤ LN) (h2 : ∀ u ∈ us, u.length + 1 ≤ LN) (B : Bs) (m : Nat) (hm : B[m]? = some (some (.lst (us.map fun u => W.d (iL u))))) :
    lbB_units_of_1 [some (.d (iL l)), some (.box m), some (.d (.int v))] B = .ok (.nx, [some (.d (iL l)), some (.box B.length), some (.d (.int v))]) (B ++ [some (.lst ((ustep us v).map fun u => W.d (iL u)))]) := by
  have tv : tview B (.box m) = some (iLL us) := tview_boxE iL us B hm
  have lv : lstOf B (.box m) = some (us.map iL) := by
    unfold lstOf; rw [tv]; rfl
  rcases List.eq_nil_or_concat us with rfl | ⟨r, u, rfl⟩
  · have e1 : pEq (eL iL []) (.list []) = some (.bool true) := pEq_of (enc := iLL) (inj_eL (inj_eL inj_int)) sh_iLL [] []
    simp [lbB_units_of_1, tv, lv, e1, ustep_none, LN]
    rfl
  · simp only [List.concat_eq_append] at *
    cases u with
    | nil => exact absurd rfl (hne [] (by simp))
    | cons x u =>
      have e1 : pEq (eL iL (r ++ [x :: u])) (.list []) = some (.bool false) := by
        have := pEq_of (enc := iLL) (inj_eL (inj_eL inj_int)) sh_iLL (r ++ [x :: u]) []
        rw [decide_eq_false (by simp)] at this
        exact this
      have e4 : pAdd (iL (x :: u)) (.list [.int v]) = some (iL (x :: (u ++ [v]))) := pAdd_lit _ [v] _ rfl (by have := h2 (x :: u) (by simp); simpa using this)
      have hL : r.length + 1 + 1 ≤ 1000000 := by
        have : r.length + 1 + 1 ≤ LN := by simpa using h
        exact this
      have hL2 : r.length + 1 ≤ 1000000 := by omega
      by_cases hx : x ≤ v
      · have e6 : ustep (r ++ [x :: u]) v = r ++ [x :: u] ++ [[v]] := by rw [ustep_eq, if_pos hx]
        simp only [lbB_units_of_1]
        simp [hm, tv, lv, e1, e6, LN, atI_neg1, atI_zero, hx, hL]
        rfl
      · have e6 : ustep (r ++ [x :: u]) v = r ++ [(x :: u) ++ [v]] := by rw [ustep_eq, if_neg hx]
        simp only [lbB_units_of_1]
        simp [hm, tv, lv, e1, e6, LN, atI_neg1, atI_zero, hx, hL2, e4, cutG_init]
theorem loop_unitsB (l : List Int) : ∀ (r : List Int) (us : List (List Int)) (k : Nat) (x : Option W) (B : Bs) (m : Nat), Uok us k → k + r.length ≤ 1000 → B[m]? = some (some (.lst (us.map fun u => W.d (iL u)))) →
    ∃ x' C m', forGo (tgName 2) lbB_units_of_1 (r.map fun a => W.d (.int a)) [some (.d (iL l)), some (.box m), x] B = .ok (.nx, [some (.d (iL l)), some (.box m'), x']) (B ++ C) ∧ (B ++ C)[m']? = some (some (.lst ((r.foldl ustep us).map fun u => W.d (iL u)))) ∧ (B.length ≤ m' ∨ m' = m)
  | [], us, k, x, B, m, _, _, hm => ⟨x, [], m, by rw [List.append_nil]; rfl, by rw [List.append_nil]; exact hm, .inr rfl⟩
  | v :: r, us, k, x, B, m, h, hk, hm => by
    rw [List.length_cons] at hk
    obtain ⟨x', C, m', e, g1, g2⟩ := loop_unitsB l r (ustep us v) (k + 1) (some (.d (.int v))) (B ++ [some (.lst ((ustep us v).map fun u => W.d (iL u)))]) B.length (h.step v) (by omega) (by simp)
    refine ⟨x', some (.lst ((ustep us v).map fun u => W.d (iL u))) :: C, m', ?_, ?_, .inl ?_⟩
    · have b := b_units_ofB l us h.ne v (by have := h.len; unfold LN; omega) (fun u hu => by have := h.el u hu; unfold LN; omega) B m hm
      rw [List.map_cons, forGo_cons]
      simp only [tgName_eq, List.set_cons_succ, List.set_cons_zero, b, Out.bind_ok]
      rw [e]; simp
    · rw [List.foldl_cons, ← g1]; simp
    · rcases g2 with g2 | g2
      · rw [List.length_append] at g2; omega
      · omega
theorem r_units_ofB (l : List Int) (hl : l.length ≤ 1000) (B : Bs) : run_units_ofB [.d (iL l)] B = .ok (.box B.length) (B ++ [some (.lst ((units l).map fun u => W.d (iL u)))]) := by
  obtain ⟨x', C, m', e, g1, g2⟩ := loop_unitsB l l [] 0 none (B ++ [some (.lst [])]) B.length ⟨by simp, by simp, by simp⟩ (by omega) (by simp)
  have hok : bxOk B.length (.lst ((units l).map fun u => W.d (iL u))) = true := by
    show (((units l).map fun u => W.d (iL u)).all (wOk B.length)) = true
    rw [List.all_eq_true]
    intro w hw
    obtain ⟨u, _, rfl⟩ := List.mem_map.mp hw
    rfl
  have hgc : gc B (.box m') (B ++ [some (.lst [])] ++ C) = .ok (.box B.length) (B ++ [some (.lst ((units l).map fun u => W.d (iL u)))]) := by
    have hm : B.length ≤ m' := by
      rcases g2 with g2 | g2
      · rw [List.length_append] at g2; omega
      · omega
    obtain ⟨i, rfl⟩ : ∃ i, m' = B.length + i := ⟨m' - B.length, by omega⟩
    rw [List.append_assoc]
    refine gc_box ?_ hok
    rw [List.append_assoc, List.getElem?_append_right (by omega), Nat.add_sub_cancel_left] at g1
    exact g1
  simp only [run_units_ofB, den_units_ofB, fnF_eq]
  simp [LN]
  simp at e
  rw [e]
  simp
  simpa using hgc
end K45

namespace K45
open PySem PySem.Spec PyProof.Rows L2 Mini
/-! ### checks -/
theorem b_check_places (l : List Int) (w : Option W) (p : Nat) (hp : p < l.length) (B : Bs) : lb_check_places_1 [some (.d (iL l)), w, some (.d (nI p))] B = .ok (.nx, [some (.d (iL l)), w, some (.d (nI p))]) B := by
  have h1 : decide ((0 : Int) ≤ (p : Int)) = true := decide_eq_true (by omega)
  have h2 : decide ((p : Int) < (l.length : Int)) = true := decide_eq_true (by omega)
  simp [lb_check_places_1, r_is_wholeN]
  simp [nI, h1, h2, hp]
theorem loop_check_places (l : List Int) (w : Option W) (B : Bs) : ∀ (ps : List Nat) (x : Option W), (∀ p ∈ ps, p < l.length) → ∃ x', forGo (tgName 2) lb_check_places_1 (ps.map fun a => W.d (nI a)) [some (.d (iL l)), w, x] B = .ok (.nx, [some (.d (iL l)), w, x']) B
  | [], x, _ => ⟨x, rfl⟩
  | p :: ps, x, h => by
    obtain ⟨x', e⟩ := loop_check_places l w B ps (some (.d (nI p))) fun q hq => h q (List.mem_cons_of_mem _ hq)
    refine ⟨x', ?_⟩
    rw [List.map_cons, forGo_cons]
    simp only [tgName_eq, List.set_cons_succ, List.set_cons_zero, b_check_places l w p (h p List.mem_cons_self), Out.bind_ok]
    exact e
theorem r_check_places (l : List Int) (ps : List Nat) (h : ∀ p ∈ ps, p < l.length) (B : Bs) : run_check_places [.d (iL l), .d (nL ps)] B = .ok (.d .none) B := by
  obtain ⟨x', e⟩ := loop_check_places l (some (.d (nL ps))) B ps none h
  simp [run_check_places, den_check_places, fnF_eq, e]
theorem r_check_cut (l : List Int) (ps : List Nat) (h : ∀ p ∈ ps, p < l.length) (B : Bs) : run_check_cut [.d (iL l), .d (nL ps)] B = .ok (.d .none) B := by
  simp [run_check_cut, den_check_cut, fnF_eq, r_check_list, r_check_places l ps h]
/-! ### naturals, ascending -/
def nsort (l : List Nat) : List Nat := (setSort (l.map fun (n : Nat) => (n : Int))).map Int.toNat
theorem nsort_back (l : List Nat) : (setSort (l.map fun (n : Nat) => (n : Int))) = (nsort l).map fun (n : Nat) => (n : Int) := by
  unfold nsort
  rw [List.map_map]
  symm
  have h : ∀ x ∈ setSort (l.map fun (n : Nat) => (n : Int)), ((fun (n : Nat) => (n : Int)) ∘ Int.toNat) x = id x := fun x hx => by
    obtain ⟨n, _, rfl⟩ := List.mem_map.mp ((mem_setSort x _).mp hx)
    rfl
  rw [List.map_congr_left h, List.map_id]
theorem nsort_eL (l : List Nat) : iL (setSort (l.map fun (n : Nat) => (n : Int))) = nL (nsort l) := by
  rw [nsort_back]
  show PyData.list _ = PyData.list _
  rw [List.map_map]; rfl
theorem mem_nsort (l : List Nat) (z : Nat) : z ∈ nsort l ↔ z ∈ l := by
  have h := mem_setSort (z : Int) (l.map fun (n : Nat) => (n : Int))
  rw [nsort_back, List.mem_map, List.mem_map] at h
  constructor
  · intro hz
    obtain ⟨a, ha, e⟩ := h.mp ⟨z, hz, rfl⟩
    have : a = z := by omega
    rw [← this]; exact ha
  · intro hz
    obtain ⟨a, ha, e⟩ := h.mpr ⟨z, hz, rfl⟩
    have : a = z := by omega
    rw [← this]; exact ha
theorem nsort_asc (l : List Nat) : (nsort l).Pairwise (· < ·) := by
  have h := setSort_lt (l.map fun (n : Nat) => (n : Int))
  rw [nsort_back, List.pairwise_map] at h
  exact h.imp fun h => by omega
theorem asc_len : ∀ (b : List Nat) (k n : Nat), b.Pairwise (· < ·) → (∀ z ∈ b, k ≤ z ∧ z < n) → b.length ≤ n - k
  | [], k, n, _, _ => by simp
  | x :: b, k, n, h, hb => by
    obtain ⟨h1, h2⟩ := List.pairwise_cons.mp h
    have hx := hb x List.mem_cons_self
    have := asc_len b (x + 1) n h2 fun z hz => ⟨h1 z hz, (hb z (List.mem_cons_of_mem _ hz)).2⟩
    rw [List.length_cons]
    omega
theorem nsort_len (l : List Nat) (n : Nat) (h : ∀ z ∈ l, z < n) : (nsort l).length ≤ n := by
  have := asc_len (nsort l) 0 n (nsort_asc l) fun z hz => ⟨Nat.zero_le _, h z ((mem_nsort l z).mp hz)⟩
  omega
theorem sort_len (l : List Nat) : (setSort (l.map fun (n : Nat) => (n : Int))).length = (nsort l).length := by
  rw [nsort_back, List.length_map]
/-! ### marked -/
def marks (v : List Int) (ps : List Nat) : List Nat := marksGo v 0 (nsort (ps ++ [v.length]))
theorem marks_ok (v : List Int) (ps : List Nat) (h : ∀ p ∈ ps, p < v.length) : Marks v ps (marks v ps) := by
  have hasc := nsort_asc (ps ++ [v.length])
  have hmem := mem_nsort (ps ++ [v.length])
  have hn : v.length ∈ nsort (ps ++ [v.length]) := (hmem _).mpr (by simp)
  have hle : ∀ z ∈ nsort (ps ++ [v.length]), z ≤ v.length := fun z hz => by
    rcases List.mem_append.mp ((hmem z).mp hz) with h1 | h1
    · have := h z h1; omega
    · rw [List.mem_singleton.mp h1]; omega
  have hlast : (nsort (ps ++ [v.length])).getLast? = some v.length := by
    rcases List.eq_nil_or_concat (nsort (ps ++ [v.length])) with e | ⟨r, a, e⟩
    · rw [e] at hn; cases hn
    · rw [e] at hn hle hasc ⊢
      simp only [List.concat_eq_append] at *
      have ha : a ≤ v.length := hle a (by simp)
      rcases List.mem_append.mp hn with h1 | h1
      · have := (List.pairwise_append.mp hasc).2.2 _ h1 a (by simp)
        omega
      · rw [List.mem_singleton.mp h1]; simp
  obtain ⟨g1, g2, g3⟩ := marksGo_spec v (nsort (ps ++ [v.length])) 0 (List.pairwise_cons.mpr ⟨fun _ _ => Nat.zero_le _, hasc.imp fun h => by omega⟩) (by
    cases hc : nsort (ps ++ [v.length]) with
    | nil => rw [hc] at hn; cases hn
    | cons x r => rw [List.getLast?_cons_cons, ← hc]; exact hlast)
  refine ⟨g1, fun q => ?_⟩
  show q ∈ marksGo v 0 _ ↔ _
  rw [g3 q]
  constructor
  · rintro ⟨a, ha, r⟩
    rcases List.mem_cons.mp ha with e | ha
    · exact ⟨0, List.mem_cons_self, e ▸ r⟩
    · rcases List.mem_append.mp ((hmem a).mp ha) with h1 | h1
      · exact ⟨a, List.mem_cons_of_mem _ h1, r⟩
      · have e := List.mem_singleton.mp h1
        have := r.1
        have := r.2.1
        omega
  · rintro ⟨a, ha, r⟩
    rcases List.mem_cons.mp ha with e | ha
    · exact ⟨0, List.mem_cons_self, e ▸ r⟩
    · exact ⟨a, List.mem_cons_of_mem _ ((hmem a).mpr (List.mem_append_left _ ha)), r⟩
@[simp] theorem set_last {α : Type} (B : List α) (x y : α) : (B ++ [x]).set B.length y = B ++ [y] := by
  rw [List.set_append_right _ _ (Nat.le_refl _), Nat.sub_self]; rfl
theorem b_marked (v w l : Option W) (u : List Int) (f : Nat) (acc : List Nat) (hl : acc.length < 1000) (B : Bs) :
    lb_marked_1 [v, w, some (.box B.length), some (.d (nI f)), l, some (.d (iL u))] (B ++ [some (.lst (acc.map fun k => W.d (nI k)))]) = .ok (.nx, [v, w, some (.box B.length), some (.d (nI (f + u.length))), l, some (.d (iL u))]) (B ++ [some (.lst ((acc ++ [f]).map fun k => W.d (nI k)))]) := by
  have h : acc.length < 1000000 := by omega
  have e : ∀ a b : Nat, PyData.int ((a : Int) + (b : Int)) = nI (a + b) := fun a b => by unfold nI; rw [Int.natCast_add]
  simp [lb_marked_1, LN, h]
  simp [nI]
theorem loop_marked1 (v w l : Option W) (B : Bs) : ∀ (us : List (List Int)) (f : Nat) (acc : List Nat) (x : Option W), acc.length + us.length ≤ 1000 →
    ∃ x', forGo (tgName 5) lb_marked_1 (us.map fun u => W.d (iL u)) [v, w, some (.box B.length), some (.d (nI f)), l, x] (B ++ [some (.lst (acc.map fun k => W.d (nI k)))]) = .ok (.nx, [v, w, some (.box B.length), some (.d (nI (f + us.flatten.length))), l, x']) (B ++ [some (.lst ((acc ++ starts f us).map fun k => W.d (nI k)))])
  | [], f, acc, x, _ => ⟨x, by simp [starts, forGo_nil]⟩
  | u :: us, f, acc, x, h => by
    rw [List.length_cons] at h
    obtain ⟨x', e⟩ := loop_marked1 v w l B us (f + u.length) (acc ++ [f]) (some (.d (iL u))) (by simp; omega)
    refine ⟨x', ?_⟩
    rw [List.map_cons, forGo_cons]
    simp only [tgName_eq, List.set_cons_succ, List.set_cons_zero, b_marked v w l u f acc (by omega) B, Out.bind_ok]
    rw [e, List.flatten_cons, List.length_append]
    simp [starts, Nat.add_assoc]
theorem b_marked2 (v : List Int) (hv : v.length ≤ 60) (w x : Option W) (f c : Nat) (hfc : f ≤ c) (hc : c ≤ v.length) (acc : List Nat) (ha : acc.length ≤ 500) (B : Bs) :
    ∃ x', lb_marked_2 [some (.d (iL v)), w, some (.box B.length), some (.d (nI f)), some (.d (nI c)), x] (B ++ [some (.lst (acc.map fun k => W.d (nI k)))]) = .ok (.nx, [some (.d (iL v)), w, some (.box B.length), some (.d (nI c)), some (.d (nI c)), x']) (B ++ [some (.lst ((acc ++ starts f (units ((v.drop f).take (c - f)))).map fun k => W.d (nI k)))]) := by
  obtain ⟨e1, e2, e3⟩ := stretch v f c hfc hc
  obtain ⟨u1, u2, u3⟩ := units_len _ ((v.drop f).take (c - f)) (Nat.le_refl _)
  have hlen : ((v.drop f).take (c - f)).length ≤ 1000 := by omega
  obtain ⟨x', e⟩ := loop_marked1 (some (.d (iL v))) w (some (.d (nI c))) B (units ((v.drop f).take (c - f))) f acc x (by omega)
  refine ⟨x', ?_⟩
  have ecut : cutG v (some (f : Int)) (some (c : Int)) = (v.drop f).take (c - f) := cutG_nat v f c hc
  rw [u3, e3, show f + (c - f) = c by omega] at e
  simp only [lb_marked_2]
  simp
  simp [nI] at e ⊢
  rw [ecut, r_units_of _ hlen]
  simp [e]
theorem loop_marked2 (v : List Int) (hv : v.length ≤ 60) (w : Option W) (B : Bs) : ∀ (cs : List Nat) (f : Nat) (acc : List Nat) (l x : Option W), (f :: cs).Pairwise (· ≤ ·) → (∀ c ∈ cs, c ≤ v.length) → acc.length + (v.length - f) ≤ 500 →
    ∃ f' l' x', forGo (tgName 4) lb_marked_2 (cs.map fun c => W.d (nI c)) [some (.d (iL v)), w, some (.box B.length), some (.d (nI f)), l, x] (B ++ [some (.lst (acc.map fun k => W.d (nI k)))]) = .ok (.nx, [some (.d (iL v)), w, some (.box B.length), some (.d (nI f')), l', x']) (B ++ [some (.lst ((acc ++ marksGo v f cs).map fun k => W.d (nI k)))])
  | [], f, acc, l, x, _, _, _ => ⟨f, l, x, by simp [marksGo, forGo_nil]⟩
  | c :: cs, f, acc, l, x, hp, hc, ha => by
    obtain ⟨p1, p2⟩ := List.pairwise_cons.mp hp
    have hfc := p1 c List.mem_cons_self
    have hcn := hc c List.mem_cons_self
    obtain ⟨x1, e1⟩ := b_marked2 v hv w x f c hfc hcn acc (by omega) B
    obtain ⟨u1, u2, u3⟩ := units_len _ ((v.drop f).take (c - f)) (Nat.le_refl _)
    obtain ⟨s1, s2, s3⟩ := stretch v f c hfc hcn
    have hsl : ∀ (us : List (List Int)) (f : Nat), (starts f us).length = us.length := fun us => by
      induction us with
      | nil => exact fun _ => rfl
      | cons u us ih => intro f; show (starts _ us).length + 1 = _; rw [ih]; rfl
    obtain ⟨f', l', x', e⟩ := loop_marked2 v hv w B cs c (acc ++ starts f (units ((v.drop f).take (c - f)))) (some (.d (nI c))) x1 p2 (fun d hd => hc d (List.mem_cons_of_mem _ hd)) (by rw [List.length_append, hsl]; omega)
    refine ⟨f', l', x', ?_⟩
    rw [List.map_cons, forGo_cons]
    simp only [tgName_eq, List.set_cons_succ, List.set_cons_zero, e1, Out.bind_ok]
    rw [e]
    simp [marksGo]
theorem r_marked (v : List Int) (hv : v.length ≤ 60) (ps : List Nat) (hp : ∀ p ∈ ps, p < v.length) (hp2 : ps.length ≤ 500) (B : Bs) : run_marked [.d (iL v), .d (nL ps)] B = .ok (.d (nL (marks v ps))) B := by
  have hasc := nsort_asc (ps ++ [v.length])
  have hle : ∀ z ∈ nsort (ps ++ [v.length]), z ≤ v.length := fun z hz => by
    rcases List.mem_append.mp ((mem_nsort _ z).mp hz) with h1 | h1
    · have := hp z h1; omega
    · rw [List.mem_singleton.mp h1]; omega
  obtain ⟨f', l', x', e⟩ := loop_marked2 v hv (some (.d (nL ps))) B (nsort (ps ++ [v.length])) 0 [] none none (List.pairwise_cons.mpr ⟨fun _ _ => Nat.zero_le _, hasc.imp fun h => by omega⟩) hle (by simp; omega)
  have e1 : pAdd (nL ps) (.list [.int (v.length : Int)]) = some (nL (ps ++ [v.length])) := pAdd_lit _ [v.length] _ rfl (by simp [LN]; omega)
  have e2 : (setSort ((ps ++ [v.length]).map fun (n : Nat) => (n : Int))).length < 64 := by
    rw [sort_len]
    have := nsort_len (ps ++ [v.length]) (v.length + 1) fun z hz => by
      rcases List.mem_append.mp hz with h1 | h1
      · have := hp z h1; omega
      · rw [List.mem_singleton.mp h1]; omega
    omega
  have e3 : intsOf ((ps ++ [v.length]).map nI) = some ((ps ++ [v.length]).map fun (n : Nat) => (n : Int)) := intsOf_nI _
  have e4 := nsort_eL (ps ++ [v.length])
  have e5 : ((ps ++ [v.length]).map fun (n : Nat) => (n : Int)).length ≤ 1000 := by simp; omega
  have e6 : tview (B ++ [some (Bx.lst ((marks v ps).map fun k => W.d (nI k)))]) (.box B.length) = some (nL (marks v ps)) := tview_boxE nI (marks v ps) _ (by simp)
  have z0 : PyData.int 0 = nI 0 := rfl
  simp only [run_marked, den_marked, fnF_eq]
  simp only [List.map_nil, List.nil_append] at e
  generalize hm : marksGo v 0 (nsort (ps ++ [v.length])) = m at e
  have hm' : marks v ps = m := hm
  rw [hm'] at e6 ⊢
  generalize hps : ps ++ [v.length] = qs at *
  simp [LN, e1, e3, e2, e5, e4]
  simp only [List.length_map] at e5
  rw [if_pos e5]
  simp [z0, e, e6]
  exact gc_data B _ _
end K45

namespace K45
open PySem PySem.Spec PyProof.Rows L2 Mini
/-! ### joined -/
def enc3 (p : T3) : PyData := .tuple [.int p.1, nI p.2.1, nI p.2.2]
theorem sh_enc3 (p : T3) : Sh 1 (enc3 p) := sh_tuple fun d hd => by
  simp only [List.mem_cons, List.not_mem_nil, or_false] at hd
  rcases hd with rfl | rfl | rfl
  · exact sh_int _
  · exact sh_nI _
  · exact sh_nI _
theorem le_enc3 (p q : T3) : PySem.W.dataLe false enc3 p q = le3 p q := by
  show (!PySem.W.dataLt (enc3 q) (enc3 p)) = _
  unfold enc3 nI
  rw [PySem.W.dataLt_tuple, PySem.W.dataLt_cons (by simp [PySem.W.alike]), PySem.W.dataLt_cons (by simp [PySem.W.alike]), PySem.W.dataLt_cons (by simp [PySem.W.alike]), PySem.W.dataLt_int, PySem.W.dataLt_int, PySem.W.dataLt_int]
  have e : PyProof.Rows.lexLt PyProof.Rows.itemOrd (PySem.W.keyToksAll []) (PySem.W.keyToksAll []) = false := lex_irrefl _
  rw [e]
  simp only [PyData.eqv, beq_iff_eq]
  unfold le3
  by_cases h1 : q.1 = p.1
  · by_cases h2 : ((q.2.1 : Nat) : Int) = (p.2.1 : Int)
    · by_cases h3 : ((q.2.2 : Nat) : Int) = (p.2.2 : Int)
      · simp only [h1, h2, h3, if_true]
        simp; omega
      · simp only [h1, h2, h3, if_true, if_false]
        have : (q.2.2 < p.2.2 ↔ ¬ p.2.2 ≤ q.2.2) := by omega
        simp [h1]
        by_cases g : q.2.2 < p.2.2
        · simp [g]; omega
        · simp [g]; omega
    · simp only [h1, h2, if_true, if_false]
      by_cases g : q.2.1 < p.2.1
      · simp [g]; omega
      · simp [g]; omega
  · simp only [h1, if_false]
    by_cases g : q.1 < p.1
    · simp [g]; omega
    · simp [g]; omega
theorem sort_enc3 (l : List T3) : dataSort (l.map enc3) = (l.mergeSort le3).map enc3 := by
  unfold dataSort
  symm
  refine List.map_mergeSort fun a _ b _ => ?_
  rw [← le_enc3]; rfl
theorem can_enc3 (l : List T3) (h : l.length ≤ 1000) : CanSort (l.map enc3) := by
  refine ⟨PySem.W.AllAlike.of fun a b => ?_, PySem.W.Sortable.tuples fun b => ⟨_, _, rfl⟩, by rw [List.length_map]; unfold LN; omega, fun d hd => ?_⟩
  · simp [enc3, nI, PySem.W.alike, PySem.W.alikeAll]
  · obtain ⟨p, _, rfl⟩ := List.mem_map.mp hd
    have := (sh_enc3 p).2
    omega
theorem pr_zip (v : List Int) : ∀ b : List Nat, (b.zip (b.drop 1 ++ [v.length])).map (fun p => ((v.getD p.1 0, p.1, p.2) : T3)) = pr v b
  | [] => rfl
  | [p] => rfl
  | p :: q :: r => by
    have ih := pr_zip v (q :: r)
    show (v.getD p 0, p, q) :: _ = _
    unfold pr
    congr 1
theorem zipL_n (a b : List Nat) : zipL (a.map nI) (b.map nI) = (a.zip b).map fun p => W.d (.tuple [nI p.1, nI p.2]) := by
  unfold zipL
  rw [List.zip_map, List.map_map]; rfl
theorem getI (v : List Int) (p : Nat) (h : p < v.length) : atI v (p : Int) = some (v.getD p 0) := by
  rw [atI_getI, List.getD_eq_getElem?_getD, List.getElem?_eq_getElem h]; rfl
theorem pr_len (v : List Int) (b : List Nat) : (pr v b).length = b.length := by
  have := congrArg List.length (pr_firsts v b)
  rw [List.length_map] at this
  exact this
theorem pr_le (v : List Int) : ∀ (b : List Nat), (∀ p ∈ b, p ≤ v.length) → ∀ p ∈ pr v b, p.2.2 ≤ v.length
  | [], _, p, h => by cases h
  | [x], _, p, h => by rw [List.mem_singleton.mp h]; exact Nat.le_refl _
  | x :: y :: r, hb, p, h => by
    rcases List.mem_cons.mp h with e | h
    · rw [e]; exact hb y (by simp)
    · exact pr_le v (y :: r) (fun q hq => hb q (List.mem_cons_of_mem _ hq)) p h
theorem lc2_joined (v : List Int) (w x y : Option W) (B : Bs) : ∀ S : List T3, (∀ p ∈ S, p.2.2 ≤ v.length) → v.length ≤ 60 →
    lc2Go (tgTup [6, 4, 5]) yesT (itemsF (slF (slotF 0) (someO (slotF 4)) (someO (slotF 5)))) [7] (tgName 7) yesT (slotF 7) [some (.d (iL v)), w, x, y, none, none, none, none] (S.map fun p => W.d (enc3 p)) B = .ok (((S.map (slice v)).flatten).map fun i => W.d (.int i)) B
  | [], _, _ => rfl
  | p :: S, h, hv => by
    have ih := lc2_joined v w x y B S (fun q hq => h q (List.mem_cons_of_mem _ hq)) hv
    have hp := h p List.mem_cons_self
    have ecut : cutG v (some (p.2.1 : Int)) (some (p.2.2 : Int)) = slice v p := cutG_nat v _ _ hp
    have hlen : (slice v p).length ≤ 1000 := by
      unfold slice
      rw [List.length_take, List.length_drop]; omega
    have inner : lcGo (tgName 7) yesT (slotF 7) [some (.d (iL v)), w, x, y, some (.d (nI p.2.1)), some (.d (nI p.2.2)), some (.d (.int p.1)), none] ((slice v p).map fun i => W.d (.int i)) B = .ok ((slice v p).map fun i => W.d (.int i)) B :=
      lcGo_all _ fun i _ => ⟨_, rfl, by simp⟩
    have e0 : W.d (enc3 p) = .d (.tuple [.int p.1, nI p.2.1, nI p.2.2]) := rfl
    rw [List.map_cons, lc2Go_cons, e0]
    simp [wipeE]
    simp [nI] at inner ⊢
    rw [ecut]
    simp [hlen, inner]
    simp at ih
    rw [ih]
    simp
theorem r_joined (v : List Int) (hv : v.length ≤ 60) (b : List Nat) (hb : ∀ p ∈ b, p < v.length) (hb2 : b.length ≤ 60) (B : Bs) : run_joined [.d (iL v), .d (nL b)] B = .ok (.d (iL (joinL v b))) B := by
  have e1 : pAdd (nL (b.drop 1)) (.list [.int (v.length : Int)]) = some (nL (b.drop 1 ++ [v.length])) := pAdd_lit _ [v.length] _ rfl (by simp [LN]; omega)
  have ecut : cutG b (some (1 : Int)) none = b.drop 1 := cutG_from b 1
  have elc : lcGo (tgTup [4, 5]) yesT (tupF (consF (bin2 pIx (slotF 0) (slotF 4)) (consF (slotF 4) (consF (slotF 5) nilF)))) [some (.d (iL v)), some (.d (nL b)), some (.d (nL (b.drop 1 ++ [v.length]))), none, none, none, none, none] ((b.zip (b.drop 1 ++ [v.length])).map fun p => W.d (.tuple [nI p.1, nI p.2])) B
      = .ok ((b.zip (b.drop 1 ++ [v.length])).map fun p => W.d (enc3 (v.getD p.1 0, p.1, p.2))) B := by
    refine lcGo_all _ fun p hp => ⟨_, rfl, ?_⟩
    have h1 : p.1 < v.length := hb p.1 (List.of_mem_zip hp).1
    have h2 := getI v p.1 h1
    have h3 : pIx (iL v) (nI p.1) = some (.int (v.getD p.1 0)) := by
      show pIx (eL PyData.int v) (.int (p.1 : Int)) = _
      rw [pIx_eL, h2]; rfl
    simp [h3, LN, enc3]
  have elc2 : ((b.zip (b.drop 1 ++ [v.length])).map fun p => W.d (enc3 (v.getD p.1 0, p.1, p.2))) = (pr v b).map fun p => W.d (enc3 p) := by
    rw [← pr_zip, List.map_map]; rfl
  have ed : datas ((pr v b).map fun p => W.d (enc3 p)) = some ((pr v b).map enc3) := datas_enc enc3 (pr v b)
  have hlen : (b.zip (b.drop 1 ++ [v.length])).length ≤ LN := by rw [List.length_zip]; unfold LN; omega
  have hS : ((pr v b).mergeSort le3).length ≤ 1000 := by rw [List.length_mergeSort, pr_len]; omega
  have j := lc2_joined v (some (.d (nL b))) (some (.d (nL (b.drop 1 ++ [v.length])))) (some (.d (eL enc3 (sparts v b)))) B (sparts v b) (fun p hp => pr_le v b (fun q hq => by have := hb q hq; omega) p ((sparts_perm v b).mem_iff.mp hp)) hv
  have hdj : datas (((sparts v b).map (slice v)).flatten.map fun i => W.d (.int i)) = some (((sparts v b).map (slice v)).flatten.map .int) := datas_enc _ _
  have esort : sortF (lcF (zipF (slotF 1) (slotF 2)) [4, 5] (tgTup [4, 5]) yesT (tupF (consF (bin2 pIx (slotF 0) (slotF 4)) (consF (slotF 4) (consF (slotF 5) nilF))))) [some (.d (iL v)), some (.d (nL b)), some (.d (nL (b.drop 1 ++ [v.length]))), none, none, none, none, none] B = .ok (.d (eL enc3 (sparts v b))) B := by
    have el : lcF (zipF (slotF 1) (slotF 2)) [4, 5] (tgTup [4, 5]) yesT (tupF (consF (bin2 pIx (slotF 0) (slotF 4)) (consF (slotF 4) (consF (slotF 5) nilF)))) [some (.d (iL v)), some (.d (nL b)), some (.d (nL (b.drop 1 ++ [v.length]))), none, none, none, none, none] B = .ok (.d (.list ((pr v b).map enc3))) B := by
      unfold lcF
      simp only [zipF_eq2, slotF_eq]
      simp only [List.getElem?_cons_zero, List.getElem?_cons_succ, Out.bind_ok, lOf_eL, zipL_n]
      rw [if_pos (by rw [List.length_map]; exact hlen)]
      show (lcGo _ _ _ (wipeE _ [4, 5]) _ _).bind _ = _
      have ew : wipeE [some (.d (iL v)), some (.d (nL b)), some (.d (nL (b.drop 1 ++ [v.length]))), none, none, none, none, none] [4, 5] = [some (.d (iL v)), some (.d (nL b)), some (.d (nL (b.drop 1 ++ [v.length]))), none, none, none, none, none] := rfl
      rw [ew, elc, elc2]
      simp only [Out.bind_ok, ed]
    rw [sortF_eq, el]
    simp only [Out.bind_ok, tview_d]
    rw [if_pos (can_enc3 _ (by rw [pr_len]; omega)), sort_enc3]; rfl
  simp only [run_joined, den_joined, fnF_eq]
  simp [ecut, e1, LN]
  simp at e1 esort j hdj
  simp [e1, esort]
  unfold lc2F
  simp [wipeE, j]
  have hS' : (sparts v b).length ≤ 1000 := hS
  simp [hS', hdj]
  simp [joinL, eL, List.map_flatten]
end K45

namespace K45
open PySem PySem.Spec PyProof.Rows L2 Mini
theorem marks_lt {v : List Int} {ps : List Nat} (h : ∀ p ∈ ps, p < v.length) : (∀ p ∈ marks v ps, p < v.length) ∧ (marks v ps).length ≤ v.length := by
  have g := (marks_ok v ps h).good
  refine ⟨g.lt, ?_⟩
  have := asc_len (marks v ps) 0 v.length g.asc fun z hz => ⟨Nat.zero_le _, g.lt z hz⟩
  omega
theorem r_cut (v : List Int) (hv : v.length ≤ 60) (ps : List Nat) (hp : ∀ p ∈ ps, p < v.length) (hp2 : ps.length ≤ 500) (B : Bs) : run_cut [.d (iL v), .d (nL ps)] B = .ok (.d (iL (joinL v (marks v ps)))) B := by
  obtain ⟨h1, h2⟩ := marks_lt hp
  simp [run_cut, den_cut, fnF_eq, r_check_cut v ps hp, r_marked v hv ps hp hp2, r_joined v hv (marks v ps) h1 (by omega)]
theorem r_boundaries (v : List Int) (hv : v.length ≤ 60) (ps : List Nat) (hp : ∀ p ∈ ps, p < v.length) (hp2 : ps.length ≤ 500) (B : Bs) : run_boundaries [.d (iL v), .d (nL ps)] B = .ok (.d (nL (marks v ps))) B := by
  simp [run_boundaries, den_boundaries, fnF_eq, r_check_cut v ps hp, r_marked v hv ps hp hp2]
/-! ### parents -/
def oN : Option Nat → PyData
  | none => .none
  | some n => nI n
theorem irng_nat (a b : Nat) : irng (a : Int) ((b : Int) - (a : Int)).toNat = (List.range' a (b - a)).map fun i => W.d (nI i) := by
  unfold irng
  rw [show ((b : Int) - (a : Int)).toNat = b - a by omega, List.range'_eq_map_range, List.map_map]
  refine List.map_congr_left fun i _ => ?_
  show W.d (.int ((a : Int) + (i : Int))) = W.d (.int ((a + i : Nat) : Int))
  rw [Int.natCast_add]
theorem loop_parent (v : List Int) (p : Nat) (hp : p < v.length) (B : Bs) : ∀ (qs : List Nat) (x : Option W), (∀ q ∈ qs, q < v.length) →
    (∃ q x', qs.find? (fun q => decide (v.getD p 0 ≤ v.getD q 0)) = some q ∧ forGo (tgName 2) lb_parent_of_1 (qs.map fun i => W.d (nI i)) [some (.d (iL v)), some (.d (nI p)), x] B = .ok (.rt (.d (nI q)), x') B) ∨
    (∃ x', qs.find? (fun q => decide (v.getD p 0 ≤ v.getD q 0)) = none ∧ forGo (tgName 2) lb_parent_of_1 (qs.map fun i => W.d (nI i)) [some (.d (iL v)), some (.d (nI p)), x] B = .ok (.nx, [some (.d (iL v)), some (.d (nI p)), x']) B)
  | [], x, _ => .inr ⟨x, rfl, rfl⟩
  | q :: qs, x, h => by
    have hq := h q List.mem_cons_self
    have e1 : pIx (iL v) (nI q) = some (.int (v.getD q 0)) := by
      show pIx (eL PyData.int v) (.int (q : Int)) = _
      rw [pIx_eL, getI v q hq]; rfl
    have e2 : pIx (iL v) (nI p) = some (.int (v.getD p 0)) := by
      show pIx (eL PyData.int v) (.int (p : Int)) = _
      rw [pIx_eL, getI v p hp]; rfl
    by_cases hc : v.getD p 0 ≤ v.getD q 0
    · left
      have b : lb_parent_of_1 [some (.d (iL v)), some (.d (nI p)), some (.d (nI q))] B = .ok (.rt (.d (nI q)), [some (.d (iL v)), some (.d (nI p)), some (.d (nI q))]) B := by
        simp only [lb_parent_of_1]
        simp [e1, e2]
        simp at hc
        simp [hc]
      refine ⟨q, [some (.d (iL v)), some (.d (nI p)), some (.d (nI q))], by rw [List.find?_cons_of_pos (by simpa using hc)], ?_⟩
      rw [List.map_cons, forGo_cons]
      simp only [tgName_eq, List.set_cons_succ, List.set_cons_zero, b, Out.bind_ok]
    · have b : lb_parent_of_1 [some (.d (iL v)), some (.d (nI p)), some (.d (nI q))] B = .ok (.nx, [some (.d (iL v)), some (.d (nI p)), some (.d (nI q))]) B := by
        simp only [lb_parent_of_1]
        simp [e1, e2]
        simp at hc
        exact hc
      have hf : (q :: qs).find? (fun q => decide (v.getD p 0 ≤ v.getD q 0)) = qs.find? (fun q => decide (v.getD p 0 ≤ v.getD q 0)) := List.find?_cons_of_neg (by simpa using hc)
      rw [hf, List.map_cons, forGo_cons]
      simp only [tgName_eq, List.set_cons_succ, List.set_cons_zero, b, Out.bind_ok]
      exact loop_parent v p hp B qs (some (.d (nI q))) fun z hz => h z (List.mem_cons_of_mem _ hz)
theorem r_parent_of (v : List Int) (hv : v.length ≤ 60) (p : Nat) (hp : p < v.length) (B : Bs) : run_parent_of [.d (iL v), .d (nI p)] B = .ok (.d (oN (par v p))) B := by
  have hr := irng_nat (p + 1) v.length
  have c1 : cRng ((p : Int) + 1) = true := cRng_nat1 p (by omega)
  have c2 : cRng (v.length : Int) = true := cRng_nat _ (by omega)
  have e0 : pAdd (nI p) (.int 1) = some (.int ((p : Int) + 1)) := rfl
  have hr' : irng ((p : Int) + 1) ((v.length : Int) - ((p : Int) + 1)).toNat = (List.range' (p + 1) (v.length - (p + 1))).map fun i => W.d (nI i) := by
    have e1 : (((p + 1 : Nat)) : Int) = (p : Int) + 1 := by omega
    rw [e1] at hr
    exact hr
  have L := loop_parent v p hp B (List.range' (p + 1) (v.length - (p + 1))) none fun q hq => by
    have := List.mem_range'_1.mp hq
    omega
  simp only [run_parent_of, den_parent_of, fnF_eq]
  simp [e0, c1, c2, hr']
  rcases L with ⟨q, x', h1, h2⟩ | ⟨x', h1, h2⟩
  · have hp : par v p = some q := h1
    simp [h2, hp, oN]
  · have hp : par v p = none := h1
    simp [h2, hp, oN]
theorem r_parents (v : List Int) (hv : v.length ≤ 60) (B : Bs) : run_parents [.d (iL v)] B = .ok (.d (eL oN ((List.range v.length).map (par v)))) B := by
  have c2 : cRng (v.length : Int) = true := cRng_nat _ (by omega)
  have hr : irng 0 v.length = (List.range v.length).map fun i => W.d (nI i) := by
    unfold irng
    refine List.map_congr_left fun i _ => ?_
    rw [Int.zero_add]; rfl
  have elc : lcGo (tgName 1) yesT (callF 2 run_parent_of (consF (slotF 0) (consF (slotF 1) nilF))) [some (.d (iL v)), none] ((List.range v.length).map fun i => W.d (nI i)) B = .ok ((List.range v.length).map fun i => W.d (oN (par v i))) B :=
    lcGo_all _ fun i hi => ⟨_, rfl, by simp [r_parent_of v hv i (List.mem_range.mp hi)]⟩
  have ed : datas ((List.range v.length).map fun i => W.d (oN (par v i))) = some ((List.range v.length).map fun i => oN (par v i)) := datas_enc (fun i => oN (par v i)) _
  have hlen : (irng 0 v.length).length ≤ LN := by rw [hr, List.length_map, List.length_range]; unfold LN; omega
  have e1 : run_parents_of [.d (iL v)] B = .ok (.d (eL oN ((List.range v.length).map (par v)))) B := by
    simp only [run_parents_of, den_parents_of, fnF_eq]
    unfold lcF
    simp [c2, hr, wipeE, elc, ed]
    rw [if_pos (by unfold LN; omega)]
    simp [eL]
  simp [run_parents, den_parents, fnF_eq, r_check_list, e1]
/-! ### the least places -/
theorem least_zip (v : List Int) : ∀ b : List Nat, ((b.zip (b.drop 1)).filter fun p => decide (v.getD p.2 0 < v.getD p.1 0)).map (·.2) = least v b
  | [] => rfl
  | [_] => rfl
  | x :: y :: r => by
    have ih := least_zip v (y :: r)
    show (((x, y) :: ((y :: r).zip ((y :: r).drop 1))).filter _).map _ = _
    unfold least
    by_cases h : v.getD y 0 < v.getD x 0
    · rw [if_pos h, List.filter_cons_of_pos (by simpa using h), List.map_cons, ih]
    · rw [if_neg h, List.filter_cons_of_neg (by simpa using h), ih]
theorem r_least_of (v : List Int) (hv : v.length ≤ 60) (b : List Nat) (hb : ∀ p ∈ b, p < v.length) (hb2 : b.length ≤ 60) (B : Bs) : run_least_of [.d (iL v), .d (nL b)] B = .ok (.d (nL (least v b))) B := by
  have ecut : cutG b (some (1 : Int)) none = b.drop 1 := cutG_from b 1
  have ix : ∀ p, p < v.length → pIx (iL v) (nI p) = some (.int (v.getD p 0)) := fun p hp => by
    show pIx (eL PyData.int v) (.int (p : Int)) = _
    rw [pIx_eL, getI v p hp]; rfl
  have elc : lcGo (tgTup [2, 3]) (boolF (bin2 pLt (bin2 pIx (slotF 0) (slotF 3)) (bin2 pIx (slotF 0) (slotF 2)))) (slotF 3) [some (.d (iL v)), some (.d (nL b)), none, none] ((b.zip (b.drop 1)).map fun p => W.d (.tuple [nI p.1, nI p.2])) B
      = .ok (((b.zip (b.drop 1)).filter fun p => decide (v.getD p.2 0 < v.getD p.1 0)).map fun p => W.d (nI p.2)) B := by
    refine lcGo_pure _ fun p hp => ⟨_, rfl, ?_, fun _ => by simp⟩
    have h1 := hb p.1 (List.of_mem_zip hp).1
    have h2 := hb p.2 (List.mem_of_mem_drop (List.of_mem_zip hp).2)
    simp only [boolF_eq, bin2_eq, slotF_eq]
    simp [ix p.1 h1, ix p.2 h2]
  have em : (((b.zip (b.drop 1)).filter fun p => decide (v.getD p.2 0 < v.getD p.1 0)).map fun p => W.d (nI p.2)) = (least v b).map fun q => W.d (nI q) := by
    rw [← least_zip, List.map_map]; rfl
  have ed : datas ((least v b).map fun q => W.d (nI q)) = some ((least v b).map nI) := datas_enc nI _
  have el : lcF (zipF (slotF 1) (slF (slotF 1) (someO (constF (.int 1))) noO)) [2, 3] (tgTup [2, 3]) (boolF (bin2 pLt (bin2 pIx (slotF 0) (slotF 3)) (bin2 pIx (slotF 0) (slotF 2)))) (slotF 3) [some (.d (iL v)), some (.d (nL b)), none, none] B = .ok (.d (nL (least v b))) B := by
    unfold lcF
    simp only [zipF_eq2, slotF_eq, slF_eq, someO_eq, noO_eq, constF_eq, tview_d, List.getElem?_cons_zero, List.getElem?_cons_succ, Out.bind_ok, lOf_eL, pSl_eL, ecut, zipL_n]
    rw [if_pos (by rw [List.length_map, List.length_zip]; unfold LN; omega)]
    have ew : wipeE [some (.d (iL v)), some (.d (nL b)), none, none] [2, 3] = [some (.d (iL v)), some (.d (nL b)), none, none] := rfl
    rw [ew, elc, em]
    simp only [Out.bind_ok, ed]
    rfl
  simp only [run_least_of, den_least_of, fnF_eq]
  simp [el]
theorem r_least_places (v : List Int) (hv : v.length ≤ 60) (ps : List Nat) (hp : ∀ p ∈ ps, p < v.length) (hp2 : ps.length ≤ 500) (B : Bs) : run_least_places [.d (iL v), .d (nL ps)] B = .ok (.d (nL (least v (marks v ps)))) B := by
  obtain ⟨h1, h2⟩ := marks_lt hp
  simp [run_least_places, den_least_places, fnF_eq, r_check_cut v ps hp, r_marked v hv ps hp hp2, r_least_of v hv (marks v ps) h1 (by omega)]
end K45

namespace K45
open PySem PySem.Spec PyProof.Rows L2 Mini
def wS (v : List Int) (L : List T3) : List W := L.map fun p => W.d (iL (slice v p))
def wN (l : List Nat) : List W := l.map fun k => W.d (nI k)
/-- the two boxes of found_back -/
def BL (v : List Int) (B : Bs) (L : List T3) (done : List Nat) : Bs := B ++ [some (.lst (wS v L)), some (.lst (wN done))]
section
variable (v : List Int) (B : Bs) (L : List T3) (done : List Nat)
@[simp] theorem BL0 : (BL v B L done)[B.length]? = some (some (.lst (wS v L))) := by unfold BL; rw [List.getElem?_append_right (Nat.le_refl _), Nat.sub_self]; rfl
@[simp] theorem BL1 : (BL v B L done)[B.length + 1]? = some (some (.lst (wN done))) := by unfold BL; rw [List.getElem?_append_right (by omega), Nat.add_sub_cancel_left]; rfl
theorem BLs0 (L' : List T3) : (BL v B L done).set B.length (some (.lst (wS v L'))) = BL v B L' done := by unfold BL; rw [List.set_append_right _ _ (Nat.le_refl _), Nat.sub_self]; rfl
theorem BLs1 (d' : List Nat) : (BL v B L done).set (B.length + 1) (some (.lst (wN d'))) = BL v B L d' := by unfold BL; rw [List.set_append_right _ _ (by omega), Nat.add_sub_cancel_left]; rfl
end
theorem ixI (v : List Int) (p : Nat) (hp : p < v.length) : pIx (iL v) (nI p) = some (.int (v.getD p 0)) := by
  show pIx (eL PyData.int v) (.int (p : Int)) = _
  rw [pIx_eL, getI v p hp]; rfl
theorem ix0 {l : List Int} {x : Int} (h : Unit l x) : pIx (iL l) (.int 0) = some (.int x) := by
  obtain ⟨t, rfl, _⟩ := h
  rw [pIx_eL, atI_zero]; rfl
theorem b_found (v g : List Int) (hv : v.length ≤ 60) (x e : Nat) (A C : List T3) (hx : x < e) (he : e ≤ v.length) (hp : Unit (slice v (v.getD x 0, x, e)) (v.getD x 0)) (hA : ∀ a ∈ A, a.1 ≠ v.getD x 0 ∧ Unit (slice v a) a.1) (hC : ∀ c ∈ C, Unit (slice v c) c.1) (hlen : (A ++ (v.getD x 0, x, e) :: C).length ≤ 100)
    (done : List Nat) (hd : done.length ≤ 100) (w : Option W) (B : Bs) (a b : Option W) : ∃ a', lb_found_back_1 [some (.d (iL v)), w, some (.box B.length), some (.box (B.length + 1)), some (.d (nI x)), a, b] (BL v B (A ++ (v.getD x 0, x, e) :: C) done) = .ok (.nx, [some (.d (iL v)), w, some (.box B.length), some (.box (B.length + 1)), some (.d (nI e)), a', b]) (BL v B (A ++ C) (done ++ [x])) := by
  have hxv : x < v.length := by omega
  have ixx := ixI v x hxv
  generalize hX : v.getD x 0 = X at *
  generalize hL : A ++ (X, x, e) :: C = L at *
  generalize hs : slice v (X, x, e) = s at *
  have hall : ∀ q ∈ L, Unit (slice v q) q.1 := fun q hq => by
    rw [← hL] at hq
    rcases List.mem_append.mp hq with h | h
    · exact (hA q h).2
    · rcases List.mem_cons.mp h with h | h
      · rw [h, hs]; exact hp
      · exact hC q h
  have hsl : s.length = e - x := by
    rw [← hs]
    unfold slice
    rw [List.length_take, List.length_drop]
    show min (e - x) (v.length - x) = _
    omega
  -- fitting
  let c : T3 → Bool := fun p => decide (p.1 = X)
  have hF : L.filter c = (X, x, e) :: C.filter c := by
    rw [← hL, List.filter_append, List.filter_eq_nil_iff.mpr (fun a ha => by simp [c, (hA a ha).1]), List.nil_append, List.filter_cons_of_pos (by simp [c])]
  have elc : lcwGo B.length (wS v L) (tgName 6) (boolF (bin2 pEq (bin2 pIx (slotF 6) (constF (.int 0))) (bin2 pIx (slotF 0) (slotF 4)))) (slotF 6) [some (.d (iL v)), w, some (.box B.length), some (.box (B.length + 1)), some (.d (nI x)), a, none] (wS v L) (BL v B L done) = .ok (wS v (L.filter c)) (BL v B L done) := by
    refine lcwGo_pure (BL0 v B L done) L fun q hq => ⟨_, rfl, ?_, fun _ => by simp⟩
    simp only [boolF_eq, bin2_eq, slotF_eq]
    simp [ix0 (hall q hq), ixx, c]
  have ed : datas (wS v (L.filter c)) = some (((s :: (C.filter c).map (slice v))).map iL) := by
    rw [hF]
    unfold wS
    rw [List.map_cons, hs]
    have := datas_enc iL (s :: (C.filter c).map (slice v))
    rw [List.map_cons, List.map_map] at this
    exact this
  have elw : lcwF (slotF 2) [6] (tgName 6) (boolF (bin2 pEq (bin2 pIx (slotF 6) (constF (.int 0))) (bin2 pIx (slotF 0) (slotF 4)))) (slotF 6) [some (.d (iL v)), w, some (.box B.length), some (.box (B.length + 1)), some (.d (nI x)), a, b] (BL v B L done) = .ok (.d (iLL (s :: (C.filter c).map (slice v)))) (BL v B L done) := by
    rw [lcwF_eq]
    have ew : wipeE [some (.d (iL v)), w, some (.box B.length), some (.box (B.length + 1)), some (.d (nI x)), a, b] [6] = [some (.d (iL v)), w, some (.box B.length), some (.box (B.length + 1)), some (.d (nI x)), a, none] := rfl
    simp only [slotF_eq, List.getElem?_cons_zero, List.getElem?_cons_succ, Out.bind_ok, BL0, ew, elc, ed]
    rw [if_pos (by unfold wS; rw [List.length_map]; unfold LN; omega)]
    rfl
  -- the rest
  have e1 : pEq (eL iL (s :: (C.filter c).map (slice v))) (.list []) = some (.bool false) := by
    have := pEq_of (enc := iLL) (inj_eL (inj_eL inj_int)) sh_iLL (s :: (C.filter c).map (slice v)) []
    rw [decide_eq_false (by simp)] at this
    exact this
  have ecut : cutG v (some (x : Int)) (some ((x : Int) + (s.length : Int))) = s := by
    have e2 : (x : Int) + (s.length : Int) = ((e : Nat) : Int) := by omega
    rw [e2, ← hs]
    exact cutG_nat v x e he
  have e3 : pNe (iL s) (iL s) = some (.bool false) := by
    have := pNe_of (enc := iL) (inj_eL inj_int) sh_iL s s
    rw [decide_eq_true rfl] at this
    exact this
  have edl : datas (wS v L) = some ((L.map (slice v)).map iL) := by
    unfold wS
    have := datas_enc iL (L.map (slice v))
    rw [List.map_map] at this
    exact this
  have epl : PySem.SeqAt.dataPlace ((L.map (slice v)).map iL) (iL s) = some A.length := by
    rw [place_of (inj_eL inj_int), ← hL]
    refine List.findIdx?_eq_some_iff_getElem.mpr ⟨by simp, by simp [hs], fun j hj => ?_⟩
    simp only [List.map_append, List.map_cons]
    rw [List.getElem_append_left (by rw [List.length_map]; exact hj), List.getElem_map]
    have ha := hA A[j] (List.getElem_mem hj)
    obtain ⟨t, ht, _⟩ := ha.2
    obtain ⟨t', ht', _⟩ := hp
    rw [ht, ht']
    simp [ha.1]
  have eer : (wS v L).eraseIdx A.length = wS v (A ++ C) := by
    rw [← hL]
    unfold wS
    rw [List.map_append, List.map_cons, List.map_append]
    have : (A.map fun p => W.d (iL (slice v p))).length = A.length := List.length_map _
    rw [← this, List.eraseIdx_append_of_length_le (Nat.le_refl _), Nat.sub_self]; rfl
  have epla : PyData.plainAll ((L.map (slice v)).map iL) = true := plain_all (k := 1) fun d hd => by
    obtain ⟨u, _, rfl⟩ := List.mem_map.mp hd
    exact sh_iL u
  have epls : (iL s).plain = true := (sh_iL s).plain
  have edep : (iL s).depth ≤ 60 := by have := (sh_iL s).2; omega
  have eix : pIx (eL iL (s :: (C.filter c).map (slice v))) (.int 0) = some (iL s) := by rw [pIx_eL, atI_zero]; rfl
  have eadd : pAdd (nI x) (.int (s.length : Int)) = some (.int ((x : Int) + (s.length : Int))) := rfl
  have enx : PyData.int ((x : Int) + (s.length : Int)) = nI e := by unfold nI; congr 1; omega
  have hdl : (wN done).length < 1000000 := by unfold wN; rw [List.length_map]; omega
  have eapp : wN done ++ [W.d (nI x)] = wN (done ++ [x]) := by unfold wN; simp
  refine ⟨some (.d (iLL (s :: (C.filter c).map (slice v)))), ?_⟩
  rw [List.map_map] at edl epl epla
  simp only [lb_found_back_1]
  rw [seqS_eq, asgF_eq, elw]
  simp [e1, atI_zero, eadd, edl, epl, epla, epls, edep, eer]
  simp [nI, atI_zero, ecut, e3, edl, epl, epla, epls, edep, eer, BLs0, LN, hdl]
  simp [nI] at eapp
  rw [eapp, BLs1]
  simp
  omega
abbrev fbT : Dt := boolF (bin2 pLt (slotF 4) (lenF (slotF 0)))
theorem loop_found (v g : List Int) (hv : v.length ≤ 60) (b : List Nat) (gb : Good v b) (w : Option W) (B : Bs) : ∀ (s : List Nat) (x : Nat) (L : List T3) (done : List Nat) (fuel : Nat) (a c : Option W), (∃ pre, b = pre ++ x :: s) → Left v L (x :: s) → L.length ≤ 100 → done.length + s.length ≤ 100 → s.length + 2 ≤ fuel →
    ∃ a', whGo fbT lb_found_back_1 fuel [some (.d (iL v)), w, some (.box B.length), some (.box (B.length + 1)), some (.d (nI x)), a, c] (BL v B L done) = .ok (.nx, [some (.d (iL v)), w, some (.box B.length), some (.box (B.length + 1)), some (.d (nI v.length)), a', c]) (BL v B [] (done ++ x :: s))
  | s, x, L, done, 0, a, c, _, _, _, _, h => by omega
  | s, x, L, done, fuel + 1, a, c, hb, hL, hlen, hd, hf => by
    obtain ⟨e, A, C, h1, h2, h3, h4, h5, h6, h7, h8, h9, h10⟩ := left_step gb hb hL
    obtain ⟨a1, hb1⟩ := b_found v g hv x e A C h6 h7 h5 h3 h10 (by rw [← h2]; exact hlen) done (by omega) w B a c
    have hx : (x : Int) < (v.length : Int) := by omega
    have ht : fbT [some (.d (iL v)), w, some (.box B.length), some (.box (B.length + 1)), some (.d (nI x)), a, c] (BL v B L done) = .ok true (BL v B L done) := by
      simp [nI]; omega
    rw [whGo_succ, ht]
    simp only [Out.bind_ok, if_true]
    rw [h2, hb1]
    simp only [Out.bind_ok]
    cases s with
    | nil =>
      have he := h8 rfl
      obtain ⟨fuel', rfl⟩ : ∃ f, fuel = f + 1 := ⟨fuel - 1, by simp at hf; omega⟩
      have hAC : A ++ C = [] := by
        have := h4.perm
        exact List.perm_nil.mp this
      have ht2 : fbT [some (.d (iL v)), w, some (.box B.length), some (.box (B.length + 1)), some (.d (nI e)), a1, c] (BL v B (A ++ C) (done ++ [x])) = .ok false (BL v B (A ++ C) (done ++ [x])) := by
        simp [nI]; omega
      refine ⟨a1, ?_⟩
      rw [whGo_succ, ht2]
      simp only [Out.bind_ok, if_false, Bool.false_eq_true]
      rw [hAC, he]
    | cons y r =>
      have he := h9 y r rfl
      obtain ⟨pre, hpre⟩ := hb
      rw [List.length_cons] at hd hf
      have hl2 : (A ++ C).length ≤ 100 := by rw [h2] at hlen; simp at hlen ⊢; omega
      obtain ⟨a2, h⟩ := loop_found v g hv b gb w B r y (A ++ C) (done ++ [x]) fuel a1 c ⟨pre ++ [x], by rw [hpre]; simp⟩ h4 hl2 (by simp; omega) (by omega)
      refine ⟨a2, ?_⟩
      rw [he, h]
      simp
theorem good_len {v : List Int} {b : List Nat} (g : Good v b) : b.length ≤ v.length := by
  have := asc_len b 0 v.length g.asc fun z hz => ⟨Nat.zero_le _, g.lt z hz⟩
  omega
theorem join_len {v : List Int} {b : List Nat} : (joinL v b).length ≤ b.length * v.length := by
  unfold joinL
  rw [List.length_flatten, List.map_map]
  have h : ∀ S : List T3, ((S.map (List.length ∘ slice v)).sum) ≤ S.length * v.length := fun S => by
    induction S with
    | nil => simp
    | cons p S ih =>
      rw [List.map_cons, List.sum_cons, List.length_cons, Nat.add_mul, Nat.one_mul]
      have : (List.length ∘ slice v) p ≤ v.length := by
        show (slice v p).length ≤ _
        unfold slice
        rw [List.length_take, List.length_drop]; omega
      omega
  have := h (sparts v b)
  have hl : (sparts v b).length = b.length := by unfold sparts; rw [List.length_mergeSort, pr_len]
  rw [hl] at this
  exact this
theorem join_len' {v : List Int} {b : List Nat} (g : Good v b) : (joinL v b).length = v.length := by
  have h := (units_len _ (joinL v b) (Nat.le_refl _)).2.2
  unfold joinL
  rw [List.length_flatten]
  have hp : (((sparts v b).map (slice v)).map List.length).Perm (((pr v b).map (slice v)).map List.length) := ((sparts_perm v b).map _).map _
  rw [hp.sum_nat]
  rw [List.map_map]
  have : ∀ (s : List Nat) (pre : List Nat), b = pre ++ s → ((pr v s).map (List.length ∘ slice v)).sum = v.length - s.headD v.length := fun s => by
    induction s with
    | nil => intro pre _; simp [pr]
    | cons x s ih =>
      intro pre hb
      have hu := pr_unit g (x :: s) ⟨pre, hb⟩
      obtain ⟨e, he, h1, h2⟩ := pr_cons v x s
      have ih' := ih (pre ++ [x]) (by rw [hb]; simp)
      have hp := hu _ (by rw [he]; exact List.mem_cons_self)
      rw [he, List.map_cons, List.sum_cons, ih']
      have hl : (List.length ∘ slice v) (v.getD x 0, x, e) = e - x := by
        show (slice v (v.getD x 0, x, e)).length = _
        unfold slice
        rw [List.length_take, List.length_drop]
        have := hp.2.2.1
        show min (e - x) (v.length - x) = _
        have : e ≤ v.length := this
        omega
      rw [hl]
      have a1 : x < e := hp.2.1
      have a2 : e ≤ v.length := hp.2.2.1
      cases s with
      | nil => rw [h1 rfl]; simp
      | cons y r =>
        have hey := h2 y r rfl
        subst hey
        show (e - x) + (v.length - e) = v.length - x
        omega
  rw [this b [] rfl]
  cases hb : b with
  | nil =>
    have : v.length = 0 := by
      cases hv : v.length with
      | zero => rfl
      | succ n => have := g.zero (by omega); rw [hb] at this; cases this
    simp [this]
  | cons x s =>
    have h0 : 0 ∈ b := g.zero (by have := g.lt x (by rw [hb]; simp); omega)
    have hasc := g.asc
    rw [hb] at h0 hasc
    have : x = 0 := by
      rcases List.mem_cons.mp h0 with e | e
      · exact e.symm
      · have := (List.pairwise_cons.mp hasc).1 0 e; omega
    subst this; simp
theorem r_found_back (v : List Int) (hv : v.length ≤ 60) (b : List Nat) (g : Good v b) (B : Bs) : run_found_back [.d (iL v), .d (iL (joinL v b))] B = .ok (.d (nL b)) B := by
  have hgl : (joinL v b).length ≤ 1000 := by rw [join_len' g]; omega
  have hbl := good_len g
  have eu := r_units_ofB (joinL v b) hgl B
  rw [units_join g, List.map_map] at eu
  have ew : ((sparts v b).map ((fun u => W.d (iL u)) ∘ slice v)) = wS v (sparts v b) := rfl
  rw [ew] at eu
  have eB : B ++ [some (Bx.lst (wS v (sparts v b)))] ++ [some (Bx.lst [])] = BL v B (sparts v b) [] := by unfold BL wN; simp
  have hloop : ∃ a', whGo fbT lb_found_back_1 100 [some (.d (iL v)), some (.d (iL (joinL v b))), some (.box B.length), some (.box (B.length + 1)), some (.d (nI 0)), none, none] (BL v B (sparts v b) []) = .ok (.nx, [some (.d (iL v)), some (.d (iL (joinL v b))), some (.box B.length), some (.box (B.length + 1)), some (.d (nI v.length)), a', none]) (BL v B [] b) := by
    cases hb : b with
    | nil =>
      have hz : v.length = 0 := by
        cases hv : v.length with
        | zero => rfl
        | succ n => have := g.zero (by omega); rw [hb] at this; cases this
      have es : sparts v [] = [] := by unfold sparts; rw [show pr v [] = [] from rfl]; simp
      rw [es]
      have ht : fbT [some (.d (iL v)), some (.d (iL (joinL v []))), some (.box B.length), some (.box (B.length + 1)), some (.d (nI 0)), none, none] (BL v B [] []) = .ok false (BL v B [] []) := by
        simp [nI, hz]
      refine ⟨none, ?_⟩
      rw [whGo_succ, ht, hz]
      simp
    | cons x s =>
      have h0 : 0 ∈ b := g.zero (by have := g.lt x (by rw [hb]; simp); omega)
      have hasc := g.asc
      rw [hb] at h0 hasc
      have hx : x = 0 := by
        rcases List.mem_cons.mp h0 with e | e
        · exact e.symm
        · have := (List.pairwise_cons.mp hasc).1 0 e; omega
      subst hx
      rw [hb, List.length_cons] at hbl
      have hsl : (sparts v (0 :: s)).length = s.length + 1 := by unfold sparts; rw [List.length_mergeSort, pr_len]; rfl
      have := loop_found v (joinL v (0 :: s)) hv (0 :: s) (by rw [← hb]; exact g) (some (.d (iL (joinL v (0 :: s))))) B s 0 (sparts v (0 :: s)) [] 100 none none ⟨[], rfl⟩ ⟨sparts_perm v _, sparts_pw v _⟩ (by omega) (by simp; omega) (by omega)
      simpa using this
  obtain ⟨a', hl⟩ := hloop
  have tv : tview (BL v B [] b) (.box (B.length + 1)) = some (nL b) := tview_boxE nI b _ (BL1 v B [] b)
  have z0 : PyData.int 0 = nI 0 := rfl
  simp only [run_found_back, den_found_back, fnF_eq]
  simp [eu, LN]
  rw [show B ++ [some (Bx.lst (wS v (sparts v b))), some (Bx.lst [])] = BL v B (sparts v b) [] by unfold BL wN; rfl, z0]
  rw [hl]
  have tr : truthOf (BL v B [] b) (.box B.length) = some false := by
    unfold truthOf
    simp [wS]
  simp [tr, tv]
  have : (BL v B [] b).set (B.length + 1) none = B ++ [some (Bx.lst (wS v [])), none] := by
    unfold BL
    rw [List.set_append_right _ _ (by omega), Nat.add_sub_cancel_left]; rfl
  rw [this]
  exact gc_data B _ _
theorem r_read_back (v : List Int) (hv : v.length ≤ 60) (b : List Nat) (g : Good v b) (B : Bs) : run_read_back [.d (iL v), .d (iL (joinL v b))] B = .ok (.d (.tuple [.str "cut", nL b])) B := by
  simp [run_read_back, den_read_back, fnF_eq, r_check_list, r_found_back v hv b g, LN]
theorem r_bounds_of (v : List Int) (hv : v.length ≤ 60) (b : List Nat) (g : Good v b) (B : Bs) : run_bounds_of [.d (iL v), .d (iL (joinL v b))] B = .ok (.d (nL b)) B := by
  simp [run_bounds_of, den_bounds_of, fnF_eq, r_check_list, r_found_back v hv b g]
/-! ### both, either -/
theorem r_both (v : List Int) (hv : v.length ≤ 60) (b c : List Nat) (g : Good v b) (gc' : Good v c) (B : Bs) : run_both [.d (iL v), .d (iL (joinL v b)), .d (iL (joinL v c))] B = .ok (.d (iL (joinL v (b.filter fun p => decide (p ∈ c))))) B := by
  have elc : lcGo (tgName 5) (boolF (bin2 pIn (slotF 5) (slotF 4))) (slotF 5) [some (.d (iL v)), some (.d (iL (joinL v b))), some (.d (iL (joinL v c))), some (.d (nL b)), some (.d (nL c)), none] (b.map fun p => W.d (nI p)) B = .ok ((b.filter fun p => decide (p ∈ c)).map fun p => W.d (nI p)) B := by
    refine lcGo_pure b fun p hp => ⟨_, rfl, ?_, fun _ => by simp⟩
    have := pIn_of inj_nI sh_nI p c
    simp only [boolF_eq, bin2_eq, slotF_eq]
    simp [this]
  have ed : datas ((b.filter fun p => decide (p ∈ c)).map fun p => W.d (nI p)) = some ((b.filter fun p => decide (p ∈ c)).map nI) := datas_enc nI _
  have hbl := good_len g
  have el : lcF (itemsF (slotF 3)) [5] (tgName 5) (boolF (bin2 pIn (slotF 5) (slotF 4))) (slotF 5) [some (.d (iL v)), some (.d (iL (joinL v b))), some (.d (iL (joinL v c))), some (.d (nL b)), some (.d (nL c)), none] B = .ok (.d (nL (b.filter fun p => decide (p ∈ c)))) B := by
    unfold lcF
    simp only [itemsF_eq2, slotF_eq, List.getElem?_cons_zero, List.getElem?_cons_succ, Out.bind_ok, itOf_eL]
    rw [if_pos (by rw [List.length_map]; unfold LN; omega)]
    have ew : wipeE [some (.d (iL v)), some (.d (iL (joinL v b))), some (.d (iL (joinL v c))), some (.d (nL b)), some (.d (nL c)), none] [5] = [some (.d (iL v)), some (.d (iL (joinL v b))), some (.d (iL (joinL v c))), some (.d (nL b)), some (.d (nL c)), none] := rfl
    rw [ew, elc]
    simp only [Out.bind_ok, ed]
    rfl
  have ej := r_joined v hv (b.filter fun p => decide (p ∈ c)) (fun p hp => g.lt p (List.mem_filter.mp hp).1) (by have := List.length_filter_le (fun p => decide (p ∈ c)) b; omega) B
  simp only [run_both, den_both, fnF_eq]
  simp [r_check_list, r_bounds_of v hv b g, r_bounds_of v hv c gc', el, ej]
theorem r_either (v : List Int) (hv : v.length ≤ 60) (b c : List Nat) (g : Good v b) (gc' : Good v c) (B : Bs) : run_either [.d (iL v), .d (iL (joinL v b)), .d (iL (joinL v c))] B = .ok (.d (iL (joinL v (nsort (b ++ c))))) B := by
  have hbl := good_len g
  have hcl := good_len gc'
  have e1 : pAdd (nL b) (nL c) = some (nL (b ++ c)) := pAdd_eL nI b c (by unfold LN; omega)
  have hlt : ∀ z ∈ b ++ c, z < v.length := fun z hz => (List.mem_append.mp hz).elim (g.lt z) (gc'.lt z)
  have e2 : (setSort ((b ++ c).map fun (n : Nat) => (n : Int))).length < 64 := by
    rw [sort_len]
    have := nsort_len (b ++ c) v.length hlt
    omega
  have e3 : intsOf ((b ++ c).map nI) = some ((b ++ c).map fun (n : Nat) => (n : Int)) := intsOf_nI _
  have e4 := nsort_eL (b ++ c)
  have e5 : (b ++ c).length ≤ 1000 := by simp; omega
  have ej := r_joined v hv (nsort (b ++ c)) (fun p hp => hlt p ((mem_nsort _ p).mp hp)) (by have := nsort_len (b ++ c) v.length hlt; omega) B
  simp only [run_either, den_either, fnF_eq]
  generalize b ++ c = bc at *
  simp [r_check_list, r_bounds_of v hv b g, r_bounds_of v hv c gc', e1, e3, e2, e4, e5, ej]
end K45

namespace K45
open PySem PySem.Spec PyProof.Rows L2 Mini
/-! ### powers -/
def c6 : Int := 1000000
def c18 : Int := 1000000000000000000
def c20 : Int := 100000000000000000000
def c60 : Int := 10 ^ 60
def c3600 : Int := c60 ^ 60
def cBig : Int := c3600 ^ 4
theorem pow6 : pPow (.int 10) (.int 6) = some (.int c6) := by
  have h : cPow 10 6 = true := by decide +kernel
  show (if cPow 10 6 = true then some (PyData.int (10 ^ 6)) else none) = _
  rw [if_pos h]; rfl
theorem pow18 : pPow (.int 10) (.int 18) = some (.int c18) := by
  have h : cPow 10 18 = true := by decide +kernel
  show (if cPow 10 18 = true then some (PyData.int (10 ^ 18)) else none) = _
  rw [if_pos h]; rfl
theorem pow20 : pPow (.int 10) (.int 20) = some (.int c20) := by
  have h : cPow 10 20 = true := by decide +kernel
  show (if cPow 10 20 = true then some (PyData.int (10 ^ 20)) else none) = _
  rw [if_pos h]; rfl
theorem pow60 : pPow (.int 10) (.int 60) = some (.int c60) := by
  have h : cPow 10 60 = true := by decide +kernel
  show (if cPow 10 60 = true then some (PyData.int (10 ^ 60)) else none) = _
  rw [if_pos h]; rfl
theorem pow3600 : pPow (.int c60) (.int 60) = some (.int c3600) := by
  have h : cPow c60 60 = true := by decide +kernel
  show (if cPow c60 60 = true then some (PyData.int (c60 ^ 60)) else none) = _
  rw [if_pos h]; rfl
theorem powBig : pPow (.int c3600) (.int 4) = some (.int cBig) := by
  have h : cPow c3600 4 = true := by decide +kernel
  show (if cPow c3600 4 = true then some (PyData.int (c3600 ^ 4)) else none) = _
  rw [if_pos h]; rfl
theorem big_pos : 0 < cBig := by
  unfold cBig c3600 c60
  exact Int.pow_pos (Int.pow_pos (Int.pow_pos (by decide)))
theorem mod_pos (i j : Int) (h : 0 < j) : pMod (.int i) (.int j) = some (.int (i % j)) := by
  show (if cMod i j = true then some (PyData.int (i % j)) else none) = _
  rw [if_pos (show cMod i j = true from decide_eq_true h)]
theorem fdiv_pos (i j : Int) (h : 0 < j) (h2 : j.natAbs.log2 < 9000) : pFdiv (.int i) (.int j) = some (.int (i / j)) := by
  show (if cFdiv i j = true then some (PyData.int (i / j)) else none) = _
  rw [if_pos (by unfold cFdiv; rw [decide_eq_true h, decide_eq_true h2]; rfl)]
theorem log_le {n k : Nat} (h : n < 2 ^ k) : n.log2 ≤ k := by
  by_cases h0 : n = 0
  · subst h0; simp
  · exact Nat.le_of_lt ((Nat.log2_lt h0).mpr h)
theorem mul_ok (i j : Int) (h1 : i.natAbs < 2 ^ 400) (h2 : j.natAbs < 2 ^ 400) : pMulI (.int i) (.int j) = some (.int (i * j)) := by
  show (if cMul i j = true then some (PyData.int (i * j)) else none) = _
  have a := log_le h1
  have b := log_le h2
  rw [if_pos (show cMul i j = true from decide_eq_true (by omega))]
theorem small400 {n : Nat} (h : n ≤ 1000000000000000000000000000000000000000000) : n < 2 ^ 400 := Nat.lt_of_le_of_lt h (by decide +kernel)
theorem mul_small (i j : Int) (h1 : i.natAbs ≤ 1000000000000000000000000000000000000000000) (h2 : j.natAbs ≤ 1000000000000000000000000000000000000000000) : pMulI (.int i) (.int j) = some (.int (i * j)) := mul_ok i j (small400 h1) (small400 h2)
/-! ### the draws -/
def dw (a k : Int) (t : Bool) : List W := [.d (.int a), .d (.int k), .d (.bool t)]
def dB (B : Bs) (n : Nat) (a k : Int) (t : Bool) : Bs := B.set n (some (.lst (dw a k t)))
@[simp] theorem dB_len (B : Bs) (n : Nat) (a k : Int) (t : Bool) : (dB B n a k t).length = B.length := List.length_set
@[simp] theorem dB_get (B : Bs) (n : Nat) (a k : Int) (t : Bool) (h : n < B.length) : (dB B n a k t)[n]? = some (some (.lst (dw a k t))) := List.getElem?_set_self h
@[simp] theorem dB_set (B : Bs) (n : Nat) (a k : Int) (t : Bool) (x : Option Bx) : (dB B n a k t).set n x = B.set n x := List.set_set ..
@[simp] theorem dB_dB (B : Bs) (n : Nat) (a k a' k' : Int) (t t' : Bool) : dB (dB B n a k t) n a' k' t' = dB B n a' k' t' := List.set_set ..
theorem dw_at0 (a k : Int) (t : Bool) : atI (dw a k t) 0 = some (.d (.int a)) := rfl
theorem dw_at1 (a k : Int) (t : Bool) : atI (dw a k t) 1 = some (.d (.int k)) := rfl
theorem dw_at2 (a k : Int) (t : Bool) : atI (dw a k t) 2 = some (.d (.bool t)) := rfl
theorem dw_ix0 (a k : Int) (t : Bool) : ixN (dw a k t).length 0 = some 0 := rfl
theorem dw_ix1 (a k : Int) (t : Bool) : ixN (dw a k t).length 1 = some 1 := rfl
theorem dw_set0 (a k a' : Int) (t : Bool) : (dw a k t).set 0 (.d (.int a')) = dw a' k t := rfl
theorem dw_set1 (a k k' : Int) (t : Bool) : (dw a k t).set 1 (.d (.int k')) = dw a k' t := rfl
theorem gc_dB (B : Bs) (n : Nat) (a k a' k' : Int) (t t' : Bool) (d : PyData) : gc (dB B n a k t) (.d d) (dB B n a' k' t') = .ok (.d d) (dB B n a' k' t') := by
  have h := gc_set0 (dB B n a k t) d n (.lst (dw a' k' t')) rfl
  rw [dB_set] at h
  exact h
theorem setS_eq (fo fi f : De) (ρ : En) (B : Bs) : setS fo fi f ρ B = (f ρ B).bind fun w B1 => (fo ρ B1).bind fun o B2 => (fi ρ B2).bind fun j B3 => match o, j with
  | .box n, .d (.int k) => match B3[n]? with
    | some (some (.lst ws)) => match ixN ws.length k with
      | some j => .ok (.nx, ρ) (B3.set n (some (.lst (ws.set j w))))
      | none => .bad
    | _ => .bad
  | _, _ => .bad := rfl
theorem r_draws (c : Int) (B : Bs) : ∃ a t, 0 ≤ a ∧ run_f_law_draws [.d (.int c)] B = .ok (.box B.length) (B ++ [some (.lst (dw a 0 t))]) := by
  refine ⟨c % cBig, decide (c18 ≤ c), Int.emod_nonneg _ (by have := big_pos; omega), ?_⟩
  have e := mod_pos c cBig big_pos
  simp only [run_f_law_draws, den_f_law_draws, fnF_eq]
  simp [pow60, pow3600, powBig, pow18, e, LN]
  exact gc_box1 B _ rfl
theorem r_next (B : Bs) (n : Nat) (hn : n < B.length) (a k : Int) (t : Bool) (ha : 0 ≤ a) (hk : 0 ≤ k) (hk2 : k ≤ 100000) :
    ∃ a' r, 0 ≤ a' ∧ 0 ≤ r ∧ r ≤ 10000000000 ∧ run_f_law_next [.box n] (dB B n a k t) = .ok (.d (.int r)) (dB B n a' (k + 1) t) := by
  have gg := fun a k t => dB_get B n a k t hn
  cases t with
  | true =>
    refine ⟨a / c6, a % c6, Int.ediv_nonneg ha (by decide), Int.emod_nonneg _ (by decide), ?_, ?_⟩
    · have := Int.emod_lt_of_pos a (show 0 < c6 by decide)
      have e : c6 = 1000000 := rfl
      omega
    · have e1 := mod_pos a c6 (by decide)
      have e2 := fdiv_pos a c6 (by decide) (by decide +kernel)
      have h1 : (B.set n (some (.lst (dw a (k + 1) true)))) = dB B n a (k + 1) true := rfl
      have h2 : (B.set n (some (.lst (dw (a / c6) (k + 1) true)))) = dB B n (a / c6) (k + 1) true := rfl
      simp only [run_f_law_next, den_f_law_next, fnF_eq]
      simp [setS_eq, gg, dw_at0, dw_at1, dw_at2, dw_ix0, dw_ix1, dw_set0, dw_set1, h1, h2, pow6, e1, e2]
      exact gc_dB ..
  | false =>
    have e0 := mod_pos a 1000003 (by decide)
    have b0 := Int.emod_lt_of_pos a (show (0 : Int) < 1000003 by decide)
    have b0' := Int.emod_nonneg a (show (1000003 : Int) ≠ 0 by decide)
    have hk1 : 0 ≤ (k + 1) * (k + 1) ∧ (k + 1) * (k + 1) ≤ 100001 * 100001 := ⟨Int.mul_nonneg (by omega) (by omega), Int.mul_le_mul (by omega) (by omega) (by omega) (by omega)⟩
    have m1 := mul_small (k + 1) (k + 1) (by omega) (by omega)
    generalize hkk : (k + 1) * (k + 1) = kk at *
    have m2 := mul_small kk 7919 (by omega) (by decide)
    generalize hx : a % 1000003 + kk * 7919 + (k + 1) = x at *
    have bx : 0 ≤ x ∧ x ≤ 100000000000000 := by omega
    have m3 := mul_small x 48271 (by omega) (by decide)
    have e1 := mod_pos (x * 48271) 2147483629 (by decide)
    have b1 := Int.emod_lt_of_pos (x * 48271) (show (0 : Int) < 2147483629 by decide)
    have b1' := Int.emod_nonneg (x * 48271) (show (2147483629 : Int) ≠ 0 by decide)
    generalize hy : x * 48271 % 2147483629 = y at *
    have m4 := mul_small y y (by omega) (by omega)
    have e2 := mod_pos (y * y) 2147483587 (by decide)
    have b2 := Int.emod_lt_of_pos (y * y) (show (0 : Int) < 2147483587 by decide)
    have b2' := Int.emod_nonneg (y * y) (show (2147483587 : Int) ≠ 0 by decide)
    generalize hz : y * y % 2147483587 = z at *
    have m5 := mul_small z (z + 2) (by omega) (by omega)
    have e3 := mod_pos (z * (z + 2)) 2147483579 (by decide)
    have b3 := Int.emod_lt_of_pos (z * (z + 2)) (show (0 : Int) < 2147483579 by decide)
    have b3' := Int.emod_nonneg (z * (z + 2)) (show (2147483579 : Int) ≠ 0 by decide)
    generalize hu : z * (z + 2) % 2147483579 = u at *
    have e4 := fdiv_pos u 7 (by decide) (by decide +kernel)
    refine ⟨a, u / 7, ha, Int.ediv_nonneg b3' (by decide), by omega, ?_⟩
    have h1 : (B.set n (some (.lst (dw a (k + 1) false)))) = dB B n a (k + 1) false := rfl
    simp only [run_f_law_next, den_f_law_next, fnF_eq]
    simp [setS_eq, gg, dw_at0, dw_at1, dw_at2, dw_ix0, dw_ix1, dw_set0, dw_set1, h1, e0, m1, m2, hx, m3, e1, m4, e2, m5, e3, e4]
    exact gc_dB ..
end K45

namespace K45
open PySem PySem.Spec PyProof.Rows L2 Mini
/-! ### the drawn list -/
theorem wipe_idem (ρ : En) (j : Nat) : wipeE ρ [j] = ρ.set j none := rfl
noncomputable abbrev tellF : De := bin2 pSubI (bin2 pMod (intF (callF 1 run_f_law_next (consF (slotF 0) nilF))) (slotF 3)) (bin2 pFdiv (slotF 3) (constF (.int 3)))
theorem told_go (B : Bs) (n : Nat) (hn : n < B.length) (t : Bool) (w : Int) (hw : 0 < w) (hw2 : w ≤ 200) (m1 m2 m4 m6 : Option W) : ∀ (is : List Nat) (a k : Int), 0 ≤ a → 0 ≤ k → k + is.length ≤ 100000 →
    ∃ (l : List Int) (a' : Int), 0 ≤ a' ∧ l.length = is.length ∧ (∀ z ∈ l, z.natAbs ≤ 1000) ∧ lcGo (tgName 5) yesT tellF [some (.box n), m1, m2, some (.d (.int w)), m4, none, m6] (is.map fun i => W.d (nI i)) (dB B n a k t) = .ok (l.map fun z => W.d (.int z)) (dB B n a' (k + is.length) t)
  | [], a, k, ha, hk, _ => ⟨[], a, ha, rfl, by simp, by simp [lcGo_nil]⟩
  | i :: is, a, k, ha, hk, hk2 => by
    rw [List.length_cons] at hk2
    obtain ⟨a1, r, h1, h2, h3, h4⟩ := r_next B n hn a k t ha hk (by omega)
    obtain ⟨l, a2, g1, g2, g3, g4⟩ := told_go B n hn t w hw hw2 m1 m2 m4 m6 is a1 (k + 1) h1 (by omega) (by omega)
    have e1 := mod_pos r w hw
    have e2 := fdiv_pos w 3 (by decide) (by decide +kernel)
    have b1 := Int.emod_lt_of_pos r hw
    have b2 := Int.emod_nonneg r (show w ≠ 0 by omega)
    have b3 : 0 ≤ w / 3 := Int.ediv_nonneg (by omega) (by decide)
    refine ⟨(r % w - w / 3) :: l, a2, g1, by simp [g2], fun z hz => ?_, ?_⟩
    · rcases List.mem_cons.mp hz with e | hz
      · rw [e]; omega
      · exact g3 z hz
    · rw [List.map_cons, lcGo_cons]
      have eT : tellF [some (.box n), m1, m2, some (.d (.int w)), m4, some (.d (nI i)), m6] (dB B n a k t) = .ok (.d (.int (r % w - w / 3))) (dB B n a1 (k + 1) t) := by
        simp [h4, e1, e2]
      simp only [tgName_eq, List.set_cons_succ, List.set_cons_zero, yesT_eq, Out.bind_ok, if_true, eT]
      have ek : k + 1 + (is.length : Int) = k + ((is.length + 1 : Nat) : Int) := by omega
      rw [ek] at g4
      simp only [g4, Out.bind_ok, List.map_cons, List.length_cons]
theorem r_list (B : Bs) (n : Nat) (hn : n < B.length) (a k : Int) (t : Bool) (ha : 0 ≤ a) (hk : 0 ≤ k) (hk2 : k ≤ 90000) :
    ∃ (l : List Int) (a' k' : Int), 0 ≤ a' ∧ k ≤ k' ∧ k' ≤ k + 50 ∧ l.length ≤ 40 ∧ run_f_law_list [.box n, .d (.int 40)] (dB B n a k t) = .ok (.d (iL l)) (dB B n a' k' t) := by
  obtain ⟨a1, r1, ha1, hr1, hr1', h1⟩ := r_next B n hn a k t ha hk (by omega)
  obtain ⟨a2, r2, ha2, hr2, hr2', h2⟩ := r_next B n hn a1 (k + 1) t ha1 (by omega) (by omega)
  have em := mod_pos r1 41 (by decide)
  have bm := Int.emod_lt_of_pos r1 (show (0 : Int) < 41 by decide)
  have bm' := Int.emod_nonneg r1 (show (41 : Int) ≠ 0 by decide)
  generalize hmany : r1 % 41 = many at *
  obtain ⟨mn, rfl⟩ : ∃ mn : Nat, many = (mn : Int) := ⟨many.toNat, by omega⟩
  have e4 := mul_small 4 (mn : Int) (by decide) (by omega)
  have emod4 := mod_pos r2 4 (by decide)
  have b4 := Int.emod_lt_of_pos r2 (show (0 : Int) < 4 by decide)
  have b4' := Int.emod_nonneg r2 (show (4 : Int) ≠ 0 by decide)
  -- how wide
  have hwide : ∃ w : Int, 0 < w ∧ w ≤ 200 ∧ pIx (.list [.int 2, .int 3, .int ((mn : Int) + 1), .int (4 * (mn : Int) + 1)]) (.int (r2 % 4)) = some (.int w) := by
    have hc : r2 % 4 = 0 ∨ r2 % 4 = 1 ∨ r2 % 4 = 2 ∨ r2 % 4 = 3 := by omega
    rcases hc with e | e | e | e <;> rw [e]
    · exact ⟨2, by decide, by decide, rfl⟩
    · exact ⟨3, by decide, by decide, rfl⟩
    · exact ⟨(mn : Int) + 1, by omega, by omega, rfl⟩
    · exact ⟨4 * (mn : Int) + 1, by omega, by omega, rfl⟩
  obtain ⟨w, hw1, hw2, hw3⟩ := hwide
  have cr : cRng (mn : Int) = true := cRng_nat mn (by omega)
  have hir : irng 0 mn = (List.range mn).map fun i => W.d (nI i) := by
    unfold irng
    refine List.map_congr_left fun i _ => ?_
    rw [Int.zero_add]; rfl
  obtain ⟨l, a3, ha3, hl, hlb, hgo⟩ := told_go B n hn t w hw1 hw2 (some (.d (.int 40))) (some (.d (.int (mn : Int)))) none none (List.range mn) a2 (k + 1 + 1) ha2 (by omega) (by rw [List.length_range]; omega)
  rw [List.length_range] at hl hgo
  obtain ⟨a4, r4, ha4, hr4, hr4', h4⟩ := r_next B n hn a3 (k + 1 + 1 + (mn : Int)) t ha3 (by omega) (by omega)
  have ed : datas (l.map fun z => W.d (.int z)) = some (l.map .int) := datas_enc PyData.int l
  have elc : lcF (range1F (slotF 2)) [5] (tgName 5) yesT tellF [some (.box n), some (.d (.int 40)), some (.d (.int (mn : Int))), some (.d (.int w)), none, none, none] (dB B n a2 (k + 1 + 1) t) = .ok (.d (iL l)) (dB B n a3 (k + 1 + 1 + (mn : Int)) t) := by
    unfold lcF
    simp only [range1F_eq, slotF_eq, List.getElem?_cons_zero, List.getElem?_cons_succ, Out.bind_ok, cr, if_true, Int.toNat_natCast, hir]
    rw [if_pos (by rw [List.length_map, List.length_range]; unfold LN; omega)]
    have ew : wipeE [some (.box n), some (.d (.int 40)), some (.d (.int (mn : Int))), some (.d (.int w)), none, none, none] [5] = [some (.box n), some (.d (.int 40)), some (.d (.int (mn : Int))), some (.d (.int w)), none, none, none] := rfl
    rw [ew, hgo]
    simp only [Out.bind_ok, ed]
    rfl
  have emod8 := mod_pos r4 8 (by decide)
  have eadd1 : pAdd (.int (mn : Int)) (.int 1) = some (.int ((mn : Int) + 1)) := rfl
  -- the factor
  have bq0 : 0 ≤ c20 / (w + 1) := Int.ediv_nonneg (by decide) (by omega)
  have bq1 : c20 / (w + 1) ≤ c20 := Int.ediv_le_self _ (by decide)
  have ec20 : c20 = 100000000000000000000 := rfl
  have efd := fdiv_pos c20 (w + 1) (by omega) (by
    have := log_le (n := (w + 1).natAbs) (k := 400) (small400 (by omega))
    omega)
  have emul : ∀ z ∈ l, pMulI (.int z) (.int (c20 / (w + 1))) = some (.int (z * (c20 / (w + 1)))) := fun z hz => by
    have := hlb z hz
    exact mul_small z _ (by omega) (by omega)
  have elc2 : lcF (itemsF (slotF 4)) [6] (tgName 6) yesT (bin2 pMulI (slotF 6) (bin2 pFdiv (bin2 pPow (constF (.int 10)) (constF (.int 20))) (bin2 pAdd (slotF 3) (constF (.int 1))))) [some (.box n), some (.d (.int 40)), some (.d (.int (mn : Int))), some (.d (.int w)), some (.d (iL l)), none, none] (dB B n a4 (k + 1 + 1 + (mn : Int) + 1) t) = .ok (.d (iL (l.map fun z => z * (c20 / (w + 1))))) (dB B n a4 (k + 1 + 1 + (mn : Int) + 1) t) := by
    have go : lcGo (tgName 6) yesT (bin2 pMulI (slotF 6) (bin2 pFdiv (bin2 pPow (constF (.int 10)) (constF (.int 20))) (bin2 pAdd (slotF 3) (constF (.int 1))))) [some (.box n), some (.d (.int 40)), some (.d (.int (mn : Int))), some (.d (.int w)), some (.d (iL l)), none, none] (l.map fun z => W.d (.int z)) (dB B n a4 (k + 1 + 1 + (mn : Int) + 1) t) = .ok (l.map fun z => W.d (.int (z * (c20 / (w + 1))))) (dB B n a4 (k + 1 + 1 + (mn : Int) + 1) t) :=
      lcGo_all l fun z hz => ⟨_, rfl, by simp [pow20, efd, emul z hz]⟩
    have ed2 : datas (l.map fun z => W.d (.int (z * (c20 / (w + 1))))) = some (l.map fun z => .int (z * (c20 / (w + 1)))) := datas_enc (fun z : Int => PyData.int (z * (c20 / (w + 1)))) l
    unfold lcF
    simp only [itemsF_eq2, slotF_eq, List.getElem?_cons_zero, List.getElem?_cons_succ, Out.bind_ok, itOf_eL]
    rw [if_pos (by rw [List.length_map]; unfold LN; omega)]
    have ew : wipeE [some (.box n), some (.d (.int 40)), some (.d (.int (mn : Int))), some (.d (.int w)), some (.d (iL l)), none, none] [6] = [some (.box n), some (.d (.int 40)), some (.d (.int (mn : Int))), some (.d (.int w)), some (.d (iL l)), none, none] := rfl
    rw [ew, go]
    simp only [Out.bind_ok, ed2]
    simp [eL]
  have efin : ∃ l' : List Int, l'.length ≤ 40 ∧ run_f_law_list [.box n, .d (.int 40)] (dB B n a k t) = .ok (.d (iL l')) (dB B n a4 (k + 1 + 1 + (mn : Int) + 1) t) := by
    by_cases h8 : r4 % 8 = 0
    · refine ⟨l.map fun z => z * (c20 / (w + 1)), by rw [List.length_map]; omega, ?_⟩
      simp only [run_f_law_list, den_f_law_list, fnF_eq]
      simp [h1, em, h2, emod4, e4, LN, hw3]
      rw [show (bin2 pSubI (bin2 pMod (intF (callF 1 run_f_law_next (consF (slotF 0) nilF))) (slotF 3)) (bin2 pFdiv (slotF 3) (constF (PyData.int 3)))) = tellF from rfl, elc]
      simp [h4, emod8, h8, elc2]
      exact gc_dB ..
    · refine ⟨l, by omega, ?_⟩
      simp only [run_f_law_list, den_f_law_list, fnF_eq]
      simp [h1, em, h2, emod4, e4, LN, hw3]
      rw [show (bin2 pSubI (bin2 pMod (intF (callF 1 run_f_law_next (consF (slotF 0) nilF))) (slotF 3)) (bin2 pFdiv (slotF 3) (constF (PyData.int 3)))) = tellF from rfl, elc]
      simp [h4, emod8, h8]
      exact gc_dB ..
  obtain ⟨l', g1, g2⟩ := efin
  exact ⟨l', a4, _, ha4, by omega, by omega, g1, g2⟩
end K45

namespace K45
open PySem PySem.Spec PyProof.Rows L2 Mini
/-! ### drawn places -/
noncomputable abbrev fourT : Dt := boolF (bin2 pEq (bin2 pMod (intF (callF 1 run_f_law_next (consF (slotF 0) nilF))) (constF (.int 4))) (constF (.int 0)))
theorem places_go (B : Bs) (n : Nat) (hn : n < B.length) (t : Bool) (m1 m2 m3 m4 m5 m7 m8 m9 m10 : Option W) : ∀ (is : List Nat) (a k : Int), 0 ≤ a → 0 ≤ k → k + is.length ≤ 100000 →
    ∃ (l : List Nat) (a' : Int), 0 ≤ a' ∧ l.Sublist is ∧ lcGo (tgName 6) fourT (slotF 6) [some (.box n), m1, m2, m3, m4, m5, none, m7, m8, m9, m10] (is.map fun i => W.d (nI i)) (dB B n a k t) = .ok (l.map fun z => W.d (nI z)) (dB B n a' (k + is.length) t)
  | [], a, k, ha, hk, _ => ⟨[], a, ha, .slnil, by simp [lcGo_nil]⟩
  | i :: is, a, k, ha, hk, hk2 => by
    rw [List.length_cons] at hk2
    obtain ⟨a1, r, h1, h2, h3, h4⟩ := r_next B n hn a k t ha hk (by omega)
    obtain ⟨l, a2, g1, g2, g4⟩ := places_go B n hn t m1 m2 m3 m4 m5 m7 m8 m9 m10 is a1 (k + 1) h1 (by omega) (by omega)
    have e1 := mod_pos r 4 (by decide)
    have ek : k + 1 + (is.length : Int) = k + ((is.length + 1 : Nat) : Int) := by omega
    rw [ek] at g4
    by_cases h8 : r % 4 = 0
    · refine ⟨i :: l, a2, g1, g2.cons_cons i, ?_⟩
      rw [List.map_cons, lcGo_cons]
      have eT : fourT [some (.box n), m1, m2, m3, m4, m5, some (.d (nI i)), m7, m8, m9, m10] (dB B n a k t) = .ok true (dB B n a1 (k + 1) t) := by
        simp [h4, e1, h8]
      simp only [tgName_eq, List.set_cons_succ, List.set_cons_zero, Out.bind_ok, eT, if_true, slotF_eq, List.getElem?_cons_zero, List.getElem?_cons_succ]
      simp only [g4, Out.bind_ok, List.map_cons, List.length_cons]
    · refine ⟨l, a2, g1, g2.cons i, ?_⟩
      rw [List.map_cons, lcGo_cons]
      have eT : fourT [some (.box n), m1, m2, m3, m4, m5, some (.d (nI i)), m7, m8, m9, m10] (dB B n a k t) = .ok false (dB B n a1 (k + 1) t) := by
        simp [h4, e1, h8]
      simp only [tgName_eq, List.set_cons_succ, List.set_cons_zero, Out.bind_ok, eT, if_false, Bool.false_eq_true]
      simp only [g4, List.length_cons]
theorem r_places (B : Bs) (n : Nat) (hn : n < B.length) (t : Bool) (v : List Int) (hv : v.length ≤ 60) (m2 m3 m4 m5 m6 m7 m8 m9 m10 : Option W) (a k : Int) (ha : 0 ≤ a) (hk : 0 ≤ k) (hk2 : k ≤ 90000) :
    ∃ (l : List Nat) (a' k' : Int), 0 ≤ a' ∧ k ≤ k' ∧ k' ≤ k + 60 ∧ (∀ p ∈ l, p < v.length) ∧ l.length ≤ 60 ∧
    lcF (range1F (lenF (slotF 1))) [6] (tgName 6) fourT (slotF 6) [some (.box n), some (.d (iL v)), m2, m3, m4, m5, m6, m7, m8, m9, m10] (dB B n a k t) = .ok (.d (nL l)) (dB B n a' k' t) := by
  obtain ⟨l, a', h1, h2, h3⟩ := places_go B n hn t (some (.d (iL v))) m2 m3 m4 m5 m7 m8 m9 m10 (List.range v.length) a k ha hk (by rw [List.length_range]; omega)
  rw [List.length_range] at h3
  have hir : irng 0 v.length = (List.range v.length).map fun i => W.d (nI i) := by
    unfold irng
    refine List.map_congr_left fun i _ => ?_
    rw [Int.zero_add]; rfl
  have cr : cRng (v.length : Int) = true := cRng_nat _ (by omega)
  have hl := h2.length_le
  rw [List.length_range] at hl
  have ed : datas (l.map fun z => W.d (nI z)) = some (l.map nI) := datas_enc nI l
  refine ⟨l, a', k + v.length, h1, by omega, by omega, fun p hp => List.mem_range.mp (h2.subset hp), by omega, ?_⟩
  unfold lcF
  simp only [range1F_eq, lenF_eq, slotF_eq, List.getElem?_cons_zero, List.getElem?_cons_succ, Out.bind_ok, lenOf_eL, cr, if_true, Int.toNat_natCast, hir]
  rw [if_pos (by rw [List.length_map, List.length_range]; unfold LN; omega)]
  have ew : wipeE [some (.box n), some (.d (iL v)), m2, m3, m4, m5, m6, m7, m8, m9, m10] [6] = [some (.box n), some (.d (iL v)), m2, m3, m4, m5, none, m7, m8, m9, m10] := rfl
  rw [ew, h3]
  simp only [Out.bind_ok, ed]
  rfl
theorem sortF_of {f : De} {ρ : En} {B B1 : Bs} {w : W} {ds : List PyData} (h : f ρ B = .ok w B1) (hv : tview B1 w = some (.list ds)) (hc : CanSort ds) : sortF f ρ B = .ok (.d (.list (dataSort ds))) B1 := by
  rw [sortF_eq, h, Out.bind_ok, hv]
  exact if_pos hc
/-! ### upward -/
/-- what stands in told, and the place, on the way up from c -/
structure Up (v : List Int) (t0 t : List Nat) (c : Nat) (o : Option Nat) : Prop where
  nd : t.Nodup
  lt : ∀ q ∈ t, q < v.length
  mem : ∀ q, q ∈ t ↔ q ∈ t0 ∨ (Rec v c q ∧ ∀ p, o = some p → q < p)
  at' : ∀ p, o = some p → Rec v c p
structure Cl (v : List Int) (t : List Nat) : Prop where
  nd : t.Nodup
  lt : ∀ q ∈ t, q < v.length
  cl : ∀ p ∈ t, ∀ q, Rec v p q → q ∈ t
theorem Up.start {v : List Int} {t0 : List Nat} (h : Cl v t0) {c : Nat} (hc : c < v.length) : Up v t0 t0 c (some c) := ⟨h.nd, h.lt, fun q => ⟨.inl, fun h => h.elim id fun ⟨r, h2⟩ => by
  have := h2 c rfl
  have := r.1
  omega⟩, fun p e => by cases e; exact Rec.self hc⟩
theorem Up.step {v : List Int} {t0 t : List Nat} {c p : Nat} (h : Up v t0 t c (some p)) (hp : p ∉ t) : Up v t0 (t ++ [p]) c (par v p) := by
  have hcp := h.at' p rfl
  refine ⟨List.nodup_append.mpr ⟨h.nd, List.nodup_cons.mpr ⟨by simp, List.nodup_nil⟩, fun a ha b hb e => ?_⟩, fun q hq => ?_, fun q => ?_, fun r e => ?_⟩
  · rw [List.mem_singleton.mp hb] at e
    rw [e] at ha
    exact hp ha
  · rcases List.mem_append.mp hq with hq | hq
    · exact h.lt q hq
    · rw [List.mem_singleton.mp hq]; exact hcp.2.1
  · rw [List.mem_append, h.mem]
    constructor
    · rintro ((hq | ⟨hq, hlt⟩) | hq)
      · exact .inl hq
      · refine .inr ⟨hq, fun r e => ?_⟩
        have h1 := hlt p rfl
        have h2 := (par_some e).1
        omega
      · have e := List.mem_singleton.mp hq
        subst e
        exact .inr ⟨hcp, fun r e => (par_some e).1⟩
    · rintro (hq | ⟨hq, hlt⟩)
      · exact .inl (.inl hq)
      · by_cases hqp : q < p
        · exact .inl (.inr ⟨hq, fun r e => by cases e; exact hqp⟩)
        · rcases rec_par (hq.sub hcp.1 (by omega)) with e | ⟨r, e, hr⟩
          · exact .inr (by simp [e])
          · have h1 := hlt r e
            have h2 := hr.1
            omega
  · exact hcp.trans (par_some e).2.1
theorem Up.done {v : List Int} {t0 t : List Nat} {c : Nat} {o : Option Nat} (h0 : Cl v t0) (h : Up v t0 t c o) (ho : ∀ p, o = some p → p ∈ t) : Cl v t ∧ ∀ q, q ∈ t ↔ q ∈ t0 ∨ Rec v c q := by
  have hm : ∀ q, q ∈ t ↔ q ∈ t0 ∨ Rec v c q := fun q => by
    rw [h.mem]
    constructor
    · rintro (hq | ⟨hq, _⟩)
      · exact .inl hq
      · exact .inr hq
    · rintro (hq | hq)
      · exact .inl hq
      · cases o with
        | none => exact .inr ⟨hq, fun _ e => nomatch e⟩
        | some p =>
          by_cases hqp : q < p
          · exact .inr ⟨hq, fun r e => by cases e; exact hqp⟩
          · have hp0 : p ∈ t0 := by
              rcases (h.mem p).mp (ho p rfl) with h1 | ⟨_, h1⟩
              · exact h1
              · have := h1 p rfl; omega
            exact .inl (h0.cl p hp0 q (hq.sub (h.at' p rfl).1 (by omega)))
  refine ⟨⟨h.nd, h.lt, fun p hp q hq => ?_⟩, hm⟩
  rcases (hm p).mp hp with h1 | h1
  · exact (hm q).mpr (.inl (h0.cl p h1 q hq))
  · exact (hm q).mpr (.inr (h1.trans hq))
def uB (B : Bs) (t : List Nat) : Bs := B ++ [some (.lst (wN t))]
@[simp] theorem uB_get (B : Bs) (t : List Nat) : (uB B t)[B.length]? = some (some (.lst (wN t))) := by unfold uB; simp
@[simp] theorem uB_set (B : Bs) (t t' : List Nat) : (uB B t).set B.length (some (.lst (wN t'))) = uB B t' := by unfold uB; simp
theorem nodup_len {t : List Nat} {n : Nat} (h : t.Nodup) (hl : ∀ q ∈ t, q < n) : t.length ≤ n := by
  have h2 : (nsort t).length = t.length := by
    have hp : (nsort t).Perm t := (List.perm_ext_iff_of_nodup ((nsort_asc t).imp fun h e => by omega) h).mpr fun z => mem_nsort t z
    exact hp.length_eq
  have := nsort_len t n hl
  omega
noncomputable abbrev upT : Dt := andT (boolF (notnF (slotF 3))) (boolF (bin2 pNin (slotF 3) (slotF 2)))
theorem t_up_none (B : Bs) (t : List Nat) (w x : Option W) : upT [w, x, some (.box B.length), some (.d (oN none))] (uB B t) = .ok false (uB B t) := by
  simp [oN, isN]
theorem t_up_some (B : Bs) (t : List Nat) (w x : Option W) (p : Nat) : upT [w, x, some (.box B.length), some (.d (oN (some p)))] (uB B t) = .ok (!decide (p ∈ t)) (uB B t) := by
  have tv : tview (uB B t) (.box B.length) = some (nL t) := tview_boxE nI t _ (uB_get B t)
  have := pNin_of inj_nI sh_nI p t
  simp [oN, isN, nI, tv] at this ⊢
  simp [this]
theorem b_up (v : List Int) (B : Bs) (t : List Nat) (ht : t.length ≤ 100) (x : Option W) (p : Nat) (hp : p < v.length) : lb_f_law_upward_1 [some (.d (eL oN ((List.range v.length).map (par v)))), x, some (.box B.length), some (.d (oN (some p)))] (uB B t) = .ok (.nx, [some (.d (eL oN ((List.range v.length).map (par v)))), x, some (.box B.length), some (.d (oN (par v p)))]) (uB B (t ++ [p])) := by
  have e1 : pIx (eL oN ((List.range v.length).map (par v))) (nI p) = some (oN (par v p)) := by
    show pIx (eL oN _) (.int (p : Int)) = _
    rw [pIx_eL, atI_getI, List.getElem?_map, List.getElem?_range hp]; rfl
  have hl : (wN t).length < 1000000 := by unfold wN; rw [List.length_map]; omega
  have ea : wN t ++ [W.d (nI p)] = wN (t ++ [p]) := by unfold wN; simp
  simp [lb_f_law_upward_1, oN, LN, hl, ea, e1]
theorem climb (v : List Int) (hv : v.length ≤ 60) (B : Bs) (x : Option W) (t0 : List Nat) (h0 : Cl v t0) (c : Nat) : ∀ (fuel : Nat) (t : List Nat) (o : Option Nat), Up v t0 t c o → (∀ p, o = some p → v.length - p + 1 ≤ fuel) → 1 ≤ fuel →
    ∃ t' o', Cl v t' ∧ (∀ q, q ∈ t' ↔ q ∈ t0 ∨ Rec v c q) ∧ whGo upT lb_f_law_upward_1 fuel [some (.d (eL oN ((List.range v.length).map (par v)))), x, some (.box B.length), some (.d (oN o))] (uB B t) = .ok (.nx, [some (.d (eL oN ((List.range v.length).map (par v)))), x, some (.box B.length), some (.d o')]) (uB B t')
  | 0, t, o, _, _, h => by omega
  | fuel + 1, t, none, h, _, _ => by
    obtain ⟨g1, g2⟩ := h.done h0 fun _ e => nomatch e
    refine ⟨t, oN none, g1, g2, ?_⟩
    rw [whGo_succ, t_up_none]; rfl
  | fuel + 1, t, some p, h, hf, _ => by
    by_cases hp : p ∈ t
    · obtain ⟨g1, g2⟩ := h.done h0 fun q e => by cases e; exact hp
      refine ⟨t, oN (some p), g1, g2, ?_⟩
      rw [whGo_succ, t_up_some, decide_eq_true hp]; rfl
    · have hpl := (h.at' p rfl).2.1
      have hf' := hf p rfl
      obtain ⟨t', o', g1, g2, g3⟩ := climb v hv B x t0 h0 c fuel (t ++ [p]) (par v p) (h.step hp) (fun r e => by
        have := (par_some e).1
        have := (par_some e).2.1.2.1
        omega) (by omega)
      refine ⟨t', o', g1, g2, ?_⟩
      have hl := nodup_len h.nd h.lt
      rw [whGo_succ, t_up_some, decide_eq_false hp]
      simp only [Out.bind_ok, Bool.not_false, if_true, b_up v B t (by omega) x p hpl]
      exact g3
theorem loop_up (v : List Int) (hv : v.length ≤ 60) (B : Bs) (x : Option W) : ∀ (cs : List Nat) (t : List Nat) (w : Option W), Cl v t → (∀ c ∈ cs, c < v.length) →
    ∃ t' w', Cl v t' ∧ (∀ q, q ∈ t' ↔ q ∈ t ∨ ∃ c ∈ cs, Rec v c q) ∧ forGo (tgName 3) lb_f_law_upward_2 (cs.map fun c => W.d (nI c)) [some (.d (eL oN ((List.range v.length).map (par v)))), x, some (.box B.length), w] (uB B t) = .ok (.nx, [some (.d (eL oN ((List.range v.length).map (par v)))), x, some (.box B.length), w']) (uB B t')
  | [], t, w, h, _ => ⟨t, w, h, fun q => by simp, rfl⟩
  | c :: cs, t, w, h, hc => by
    have hcl := hc c List.mem_cons_self
    obtain ⟨t1, o1, g1, g2, g3⟩ := climb v hv B x t h c 100 t (some c) (Up.start h hcl) (fun p e => by cases e; omega) (by omega)
    obtain ⟨t2, w2, k1, k2, k3⟩ := loop_up v hv B x cs t1 (some (.d o1)) g1 fun d hd => hc d (List.mem_cons_of_mem _ hd)
    refine ⟨t2, w2, k1, fun q => ?_, ?_⟩
    · rw [k2, g2]
      constructor
      · rintro ((h | h) | ⟨d, hd, h⟩)
        · exact .inl h
        · exact .inr ⟨c, List.mem_cons_self, h⟩
        · exact .inr ⟨d, List.mem_cons_of_mem _ hd, h⟩
      · rintro (h | ⟨d, hd, h⟩)
        · exact .inl (.inl h)
        · rcases List.mem_cons.mp hd with e | hd
          · subst e; exact .inl (.inr h)
          · exact .inr ⟨d, hd, h⟩
    · have hb : lb_f_law_upward_2 [some (.d (eL oN ((List.range v.length).map (par v)))), x, some (.box B.length), some (.d (nI c))] (uB B t) = .ok (.nx, [some (.d (eL oN ((List.range v.length).map (par v)))), x, some (.box B.length), some (.d o1)]) (uB B t1) := g3
      rw [List.map_cons, forGo_cons]
      simp only [tgName_eq, List.set_cons_succ, List.set_cons_zero, hb, Out.bind_ok]
      exact k3
theorem sort_nI (l : List Nat) : dataSort (l.map nI) = (l.mergeSort fun a b => decide (a ≤ b)).map nI := by
  unfold dataSort
  symm
  refine List.map_mergeSort fun a _ b _ => ?_
  have h := congrFun (congrFun (PySem.W.dataLe_int (fun n : Nat => (n : Int))) a) b
  have e : PySem.W.dataLe false id (nI a) (nI b) = PySem.W.dataLe false (fun n : Nat => PyData.int (n : Int)) a b := rfl
  rw [e, h]
  by_cases hab : a ≤ b
  · rw [decide_eq_true hab, decide_eq_true (by omega)]
  · rw [decide_eq_false hab, decide_eq_false (by omega)]
theorem can_nI (l : List Nat) (h : l.length ≤ 1000) : CanSort (l.map nI) := by
  refine ⟨PySem.W.AllAlike.of fun a b => ?_, PySem.W.Sortable.others fun b => ⟨fun e => (nomatch e), fun xs e => (nomatch e)⟩, by rw [List.length_map]; unfold LN; omega, fun d hd => ?_⟩
  · simp [nI, PySem.W.alike]
  · obtain ⟨p, _, rfl⟩ := List.mem_map.mp hd
    have := (sh_nI p).2
    omega
theorem r_upward (v : List Int) (hv : v.length ≤ 60) (cs : List Nat) (hc : ∀ c ∈ cs, c < v.length) (B : Bs) : ∃ m : List Nat, m.Pairwise (· < ·) ∧ (∀ q, q ∈ m ↔ ∃ c ∈ cs, Rec v c q) ∧ run_f_law_upward [.d (eL oN ((List.range v.length).map (par v))), .d (nL cs)] B = .ok (.d (nL m)) B := by
  obtain ⟨t, w', h1, h2, h3⟩ := loop_up v hv B (some (.d (nL cs))) cs [] none ⟨List.nodup_nil, by simp, by simp⟩ hc
  have hl := nodup_len h1.nd h1.lt
  have hp := List.mergeSort_perm t fun a b => decide (a ≤ b)
  have hpw := List.pairwise_mergeSort (le := fun a b : Nat => decide (a ≤ b)) (by simp; omega) (by simp; omega) t
  refine ⟨t.mergeSort fun a b => decide (a ≤ b), ?_, fun q => ?_, ?_⟩
  · have hnd := hp.nodup_iff.mpr h1.nd
    refine (hpw.and hnd).imp fun ⟨h, hne⟩ => ?_
    simp at h
    omega
  · rw [hp.mem_iff, h2]; simp
  · have tv : tview (uB B t) (.box B.length) = some (nL t) := tview_boxE nI t _ (uB_get B t)
    have e0 : B ++ [some (Bx.lst [])] = uB B [] := rfl
    have es : sortF (slotF 2) [some (.d (eL oN ((List.range v.length).map (par v)))), some (.d (nL cs)), some (.box B.length), w'] (uB B t) = .ok (.d (nL (t.mergeSort fun a b => decide (a ≤ b)))) (uB B t) := by
      rw [sortF_of (by simp) (show tview (uB B t) (.box B.length) = some (.list (t.map nI)) from tv) (can_nI t (by omega)), sort_nI]; rfl
    simp only [run_f_law_upward, den_f_law_upward, fnF_eq]
    simp [LN, e0]
    rw [h3]
    simp
    rw [es]
    simp
    exact gc_data B _ _
end K45

namespace K45
open PySem PySem.Spec PyProof.Rows L2 Mini
theorem eqv_self {k : Nat} {d : PyData} (h : Sh k d) : PyData.eqv d d = true := SeqAt.eqv_refl d h.1
theorem pNe_self {k : Nat} {d : PyData} (h : Sh k d) (hk : k ≤ 64 := by omega) : pNe d d = some (.bool false) := by
  unfold pNe
  rw [h.shaped hk, eqv_self h]; rfl
theorem pEq_self {k : Nat} {d : PyData} (h : Sh k d) (hk : k ≤ 64 := by omega) : pEq d d = some (.bool true) := by
  unfold pEq
  rw [h.shaped hk, eqv_self h]; rfl
theorem sh_cut : Sh 0 (.str "cut") := ⟨by simp only [PyData.canLay0]; decide +kernel, by simp [PyData.depth]⟩
theorem sh_cutn (b : List Nat) : Sh 2 (.tuple [.str "cut", nL b]) := sh_tuple fun d hd => by
  simp only [List.mem_cons, List.not_mem_nil, or_false] at hd
  rcases hd with rfl | rfl
  · exact sh_cut.mono (by omega)
  · exact sh_nL b
/-- a result has one set of bounds -/
theorem join_inj {v : List Int} (hv : v.length ≤ 60) {b b' : List Nat} (g : Good v b) (g' : Good v b') (h : joinL v b = joinL v b') : b = b' := by
  have h1 := r_found_back v hv b g []
  rw [h, r_found_back v hv b' g' []] at h1
  have h2 : eL nI b' = eL nI b := by
    injection h1 with h1
    injection h1
  have h3 : b'.map nI = b.map nI := by injection h2
  have hinj : ∀ a c : List Nat, a.map nI = c.map nI → a = c := fun a => by
    induction a with
    | nil => intro c h; cases c with
      | nil => rfl
      | cons _ _ => cases h
    | cons x a ih =>
      intro c h
      cases c with
      | nil => cases h
      | cons y c =>
        rw [List.map_cons, List.map_cons] at h
        injection h with h1 h2
        have e : (x : Int) = (y : Int) := by injection h1
        rw [ih c h2, show x = y by omega]
  exact (hinj _ _ h3).symm
/-! ### what has been seen -/
def keyOf (l : List Int) : List Key := l.map Sum.inl
def Seen (v : List Int) (kvs : List (List Key × W)) : Prop := ∀ p ∈ kvs, ∃ b, Good v b ∧ p.1 = keyOf (joinL v b) ∧ p.2 = .d (nL b)
theorem keyOf_inj {a b : List Int} (h : keyOf a = keyOf b) : a = b := by
  unfold keyOf at h
  exact List.map_inj_right (fun x y e => by injection e) |>.mp h
theorem keyOf_D (l : List Int) : (keyOf l).map keyD = l.map .int := by
  unfold keyOf
  rw [List.map_map]; rfl
theorem val_mem {kvs : List (List Key × W)} {k : List Key} {w : W} (h : valW kvs k = some w) : (k, w) ∈ kvs := by
  unfold valW at h
  cases q : kvs.find? (fun kv => decide (kv.1 = k)) with
  | none => rw [q] at h; cases h
  | some p =>
    rw [q] at h
    have e : some p.2 = some w := h
    have h1 := List.find?_some q
    have h2 := List.mem_of_find?_eq_some q
    have e1 : p.1 = k := of_decide_eq_true h1
    have e2 : p.2 = w := Option.some.inj e
    rw [← e1, ← e2]; exact h2
theorem val_some {kvs : List (List Key × W)} {p : List Key × W} (h : p ∈ kvs) : ∃ w, valW kvs p.1 = some w := by
  unfold valW
  cases q : kvs.find? (fun kv => decide (kv.1 = p.1)) with
  | none =>
    have := List.find?_eq_none.mp q p h
    simp at this
  | some r => exact ⟨r.2, rfl⟩
theorem seen_val {v : List Int} (hv : v.length ≤ 60) {kvs : List (List Key × W)} (hS : Seen v kvs) {b : List Nat} (g : Good v b) {w : W} (h : valW kvs (keyOf (joinL v b)) = some w) : w = .d (nL b) := by
  obtain ⟨b', g', e1, e2⟩ := hS _ (val_mem h)
  have := join_inj hv g g' (keyOf_inj e1)
  rw [this]; exact e2
theorem seen_put {v : List Int} {kvs : List (List Key × W)} (hS : Seen v kvs) {b : List Nat} (g : Good v b) : Seen v (putW kvs (keyOf (joinL v b)) (.d (nL b))) := by
  intro p hp
  unfold putW at hp
  split at hp
  · obtain ⟨r, hr, e⟩ := List.mem_map.mp hp
    split at e
    · rename_i h
      rw [← e]
      exact ⟨b, g, h, rfl⟩
    · rw [← e]; exact hS r hr
  · rcases List.mem_append.mp hp with h | h
    · exact hS p h
    · rw [List.mem_singleton.mp h]
      exact ⟨b, g, rfl, rfl⟩
theorem put_len {kvs : List (List Key × W)} {k : List Key} {w : W} : (putW kvs k w).length ≤ kvs.length + 1 := by
  unfold putW
  split
  · rw [List.length_map]; omega
  · rw [List.length_append, List.length_singleton]; omega
/-! the states -/
def sB (B : Bs) (n : Nat) (a k : Int) (t : Bool) (x : Bx) : Bs := dB B n a k t ++ [some x]
section
variable (B : Bs) (n : Nat) (hn : n < B.length) (a k : Int) (t : Bool) (x y : Bx)
theorem sB_len : (sB B n a k t x).length = B.length + 1 := by unfold sB; simp
theorem sB_get : (sB B n a k t x)[B.length]? = some (some x) := by
  unfold sB
  rw [List.getElem?_append_right (by simp), dB_len, Nat.sub_self]; rfl
theorem sB_set : (sB B n a k t x).set B.length (some y) = sB B n a k t y := by
  unfold sB
  rw [List.set_append_right _ _ (by simp), dB_len, Nat.sub_self]; rfl
include hn in
theorem sB_dB : sB B n a k t x = dB (B ++ [some x]) n a k t := by
  unfold sB dB
  rw [List.set_append_left _ _ hn]
end
/-! ### one that was seen before -/
theorem marks_good {v : List Int} {b : List Nat} (g : Good v b) : marks v b = b := Marks.of_good g (marks_ok v b g.lt)
theorem b_right1 (v : List Int) (hv : v.length ≤ 60) (b b' : List Nat) (g : Good v b) (g' : Good v b') (kvs : List (List Key × W)) (hS : Seen v kvs) (hm : ∃ w, valW kvs (keyOf (joinL v b')) = some w) (B : Bs) (d : Nat) (hd : B[d]? = some (some (.lkT kvs))) (m0 m2 m4 m5 m6 m10 : Option W) :
    lb_f_law_right_1 [m0, some (.d (iL v)), m2, some (.box d), m4, m5, m6, some (.d (nL b)), some (.d (iL (joinL v b))), some (.d (eT .int (joinL v b'))), m10] B = .ok (.nx, [m0, some (.d (iL v)), m2, some (.box d), m4, m5, m6, some (.d (nL b)), some (.d (iL (joinL v b))), some (.d (eT .int (joinL v b'))), some (.d (nL b'))]) B := by
  have hbl := good_len g
  have hbl' := good_len g'
  obtain ⟨w, hw⟩ := hm
  have hw' := seen_val hv hS g' hw
  subst hw'
  have dt : dTof B (.box d) = some kvs := by unfold dTof; simp [hd]
  have tk : tkeyOf (.d (eT .int (joinL v b'))) = some (keyOf (joinL v b')) := keysOf_ints (joinL v b')
  have er : ∀ B, run_both [.d (iL v), .d (iL (joinL v b)), .d (iL (joinL v b'))] B = .ok (.d (iL (joinL v (b.filter fun p => decide (p ∈ b'))))) B := r_both v hv b b' g g'
  have gf : Good v (b.filter fun p => decide (p ∈ b')) := g.inter g' (g.asc.sublist List.filter_sublist) fun z => by simp
  have hfl := good_len gf
  have ec : ∀ B, run_cut [.d (iL v), .d (nL (b.filter fun p => decide (p ∈ b')))] B = .ok (.d (iL (joinL v (b.filter fun p => decide (p ∈ b'))))) B := fun B => by
    rw [r_cut v hv _ gf.lt (by omega) B, marks_good gf]
  have eu : ∀ B, run_either [.d (iL v), .d (iL (joinL v b')), .d (iL (joinL v b))] B = .ok (.d (iL (joinL v (nsort (b' ++ b))))) B := r_either v hv b' b g' g
  have gu : Good v (nsort (b ++ b')) := g.union g' (nsort_asc _) fun z => by rw [mem_nsort, List.mem_append]
  have hsw : nsort (b' ++ b) = nsort (b ++ b') := asc_eq (nsort_asc _) (nsort_asc _) fun z => by rw [mem_nsort, mem_nsort, List.mem_append, List.mem_append]; exact Or.comm
  have hul := good_len gu
  have ec2 : ∀ B, run_cut [.d (iL v), .d (nL (nsort (b ++ b')))] B = .ok (.d (iL (joinL v (nsort (b ++ b'))))) B := fun B => by
    rw [r_cut v hv _ gu.lt (by omega) B, marks_good gu]
  rw [hsw] at eu
  have elc : lcF (itemsF (slotF 7)) [6] (tgName 6) (boolF (bin2 pIn (slotF 6) (slotF 10))) (slotF 6) [m0, some (.d (iL v)), m2, some (.box d), m4, m5, m6, some (.d (nL b)), some (.d (iL (joinL v b))), some (.d (eT .int (joinL v b'))), some (.d (nL b'))] B = .ok (.d (nL (b.filter fun p => decide (p ∈ b')))) B := by
    have go : lcGo (tgName 6) (boolF (bin2 pIn (slotF 6) (slotF 10))) (slotF 6) [m0, some (.d (iL v)), m2, some (.box d), m4, m5, none, some (.d (nL b)), some (.d (iL (joinL v b))), some (.d (eT .int (joinL v b'))), some (.d (nL b'))] (b.map fun p => W.d (nI p)) B = .ok ((b.filter fun p => decide (p ∈ b')).map fun p => W.d (nI p)) B := by
      refine lcGo_pure b fun p hp => ⟨_, rfl, ?_, fun _ => by simp⟩
      have := pIn_of inj_nI sh_nI p b'
      simp only [boolF_eq, bin2_eq, slotF_eq]
      simp [this]
    have ed : datas ((b.filter fun p => decide (p ∈ b')).map fun p => W.d (nI p)) = some ((b.filter fun p => decide (p ∈ b')).map nI) := datas_enc nI _
    unfold lcF
    simp only [itemsF_eq2, slotF_eq, List.getElem?_cons_zero, List.getElem?_cons_succ, Out.bind_ok, itOf_eL]
    rw [if_pos (by rw [List.length_map]; unfold LN; omega)]
    have ew : wipeE [m0, some (.d (iL v)), m2, some (.box d), m4, m5, m6, some (.d (nL b)), some (.d (iL (joinL v b))), some (.d (eT .int (joinL v b'))), some (.d (nL b'))] [6] = [m0, some (.d (iL v)), m2, some (.box d), m4, m5, none, some (.d (nL b)), some (.d (iL (joinL v b))), some (.d (eT .int (joinL v b'))), some (.d (nL b'))] := rfl
    rw [ew, go]
    simp only [Out.bind_ok, ed]
    rfl
  have e1 : pAdd (nL b) (nL b') = some (nL (b ++ b')) := pAdd_eL nI b b' (by unfold LN; omega)
  have hlt : ∀ z ∈ b ++ b', z < v.length := fun z hz => (List.mem_append.mp hz).elim (g.lt z) (g'.lt z)
  have e2 : (setSort ((b ++ b').map fun (n : Nat) => (n : Int))).length < 64 := by
    rw [sort_len]; omega
  have e3 : intsOf ((b ++ b').map nI) = some ((b ++ b').map fun (n : Nat) => (n : Int)) := intsOf_nI _
  have e4 := nsort_eL (b ++ b')
  have e5 : (b ++ b').length ≤ 1000 := by simp; omega
  have n1 := pNe_self (sh_iL (joinL v (b.filter fun p => decide (p ∈ b'))))
  have n2 := pNe_self (sh_iL (joinL v (nsort (b ++ b'))))
  have il : (PyData.list ((joinL v b').map PyData.int)) = iL (joinL v b') := rfl
  generalize hbb : b ++ b' = bb at *
  generalize hff : (b.filter fun p => decide (p ∈ b')) = ff at *
  simp only [lb_f_law_right_1]
  rw [seqS_eq, asgF_eq, dixF_eq]
  simp [dt, tk, hw, il, er, elc, ec, n1, eu, e1, e3, e2, e4, e5, ec2, n2]
end K45

namespace K45
open PySem PySem.Spec PyProof.Rows L2 Mini
theorem loop_seen (v : List Int) (hv : v.length ≤ 60) (b : List Nat) (g : Good v b) (kvs : List (List Key × W)) (hS : Seen v kvs) (B : Bs) (d : Nat) (hd : B[d]? = some (some (.lkT kvs))) (m0 m2 m4 m5 m6 : Option W) : ∀ (es : List (List Key × W)) (m9 m10 : Option W), (∀ p ∈ es, p ∈ kvs) →
    ∃ m9' m10', forGo (tgName 9) lb_f_law_right_1 (es.map keyW) [m0, some (.d (iL v)), m2, some (.box d), m4, m5, m6, some (.d (nL b)), some (.d (iL (joinL v b))), m9, m10] B = .ok (.nx, [m0, some (.d (iL v)), m2, some (.box d), m4, m5, m6, some (.d (nL b)), some (.d (iL (joinL v b))), m9', m10']) B
  | [], m9, m10, _ => ⟨m9, m10, rfl⟩
  | p :: es, m9, m10, h => by
    have hp := h p List.mem_cons_self
    obtain ⟨b', g', e1, e2⟩ := hS p hp
    have ek : keyW p = .d (eT .int (joinL v b')) := by
      unfold keyW
      rw [e1, keyOf_D]; rfl
    obtain ⟨w, hw⟩ := val_some hp
    rw [e1] at hw
    obtain ⟨x9, x10, h2⟩ := loop_seen v hv b g kvs hS B d hd m0 m2 m4 m5 m6 es (some (.d (eT .int (joinL v b')))) (some (.d (nL b'))) fun q hq => h q (List.mem_cons_of_mem _ hq)
    refine ⟨x9, x10, ?_⟩
    rw [List.map_cons, forGo_cons, ek]
    simp only [tgName_eq, List.set_cons_succ, List.set_cons_zero, b_right1 v hv b b' g g' kvs hS ⟨w, hw⟩ B d hd m0 m2 m4 m5 m6 m10, Out.bind_ok]
    exact h2
theorem fk_ok {i d : Nat} {tg : Tg} {body : Ds} {ρ ρ' : En} {B : Bs} {kvs : List (List Key × W)} (hρ : ρ[i]? = some (some (.box d))) (hd : B[d]? = some (some (.dT kvs))) (h : forGo tg body (kvs.map keyW) ρ (B.set d (some (.lkT kvs))) = .ok (.nx, ρ') (B.set d (some (.lkT kvs)))) : forKS i tg body ρ B = .ok (.nx, ρ') B := by
  have hlt := (List.getElem?_eq_some_iff.mp hd).1
  have hset : B.set d (some (.dT kvs)) = B := by
    apply List.ext_getElem?
    intro j
    by_cases e : j = d
    · subst e; rw [List.getElem?_set_self hlt, hd]
    · rw [List.getElem?_set_ne (Ne.symm e)]
  unfold forKS
  simp only [hρ, hd, h, Out.bind_ok]
  simp only [List.getElem?_set_self hlt, unlk_ok, List.set_set, hset]
/-- one of the six turns -/
theorem b_right2 (v : List Int) (hv : v.length ≤ 60) (h0 : 0 < v.length) (B : Bs) (n : Nat) (hn : n < B.length) (t : Bool) (a k : Int) (ha : 0 ≤ a) (hk : 0 ≤ k) (hk2 : k ≤ 90000) (kvs : List (List Key × W)) (hS : Seen v kvs) (hkl : kvs.length ≤ 100) (m4 m5 m6 m7 m8 m9 m10 : Option W) :
    ∃ (x5 x6 x7 x8 x9 x10 : Option W) (kvs' : List (List Key × W)) (a' k' : Int), 0 ≤ a' ∧ k ≤ k' ∧ k' ≤ k + 60 ∧ Seen v kvs' ∧ kvs'.length ≤ kvs.length + 1 ∧
    lb_f_law_right_2 [some (.box n), some (.d (iL v)), some (.d (eL oN ((List.range v.length).map (par v)))), some (.box B.length), m4, m5, m6, m7, m8, m9, m10] (sB B n a k t (.dT kvs)) = .ok (.nx, [some (.box n), some (.d (iL v)), some (.d (eL oN ((List.range v.length).map (par v)))), some (.box B.length), m4, x5, x6, x7, x8, x9, x10]) (sB B n a' k' t (.dT kvs')) := by
  obtain ⟨l, a', k', h1, h2, h3, h4, h5, h6⟩ := r_places (B ++ [some (.dT kvs)]) n (by simp; omega) t v hv (some (.d (eL oN ((List.range v.length).map (par v))))) (some (.box B.length)) m4 m5 m6 m7 m8 m9 m10 a k ha hk hk2
  rw [← sB_dB B n hn, ← sB_dB B n hn] at h6
  have mk := marks_ok v l h4
  have gb := mk.good
  have ebd : ∀ B, run_boundaries [.d (iL v), .d (nL l)] B = .ok (.d (nL (marks v l))) B := r_boundaries v hv l h4 (by omega)
  have ect : ∀ B, run_cut [.d (iL v), .d (nL l)] B = .ok (.d (iL (joinL v (marks v l)))) B := r_cut v hv l h4 (by omega)
  have elp : ∀ B, run_least_places [.d (iL v), .d (nL l)] B = .ok (.d (nL (least v (marks v l)))) B := r_least_places v hv l h4 (by omega)
  have eu1 : ∀ B, run_f_law_upward [.d (eL oN ((List.range v.length).map (par v))), .d (nL (0 :: l))] B = .ok (.d (nL (marks v l))) B := fun B => by
    obtain ⟨m, g1, g2, g3⟩ := r_upward v hv (0 :: l) (fun c hc => by
      rcases List.mem_cons.mp hc with e | hc
      · omega
      · exact h4 c hc) B
    rw [g3, asc_eq g1 mk.asc fun z => by rw [g2, mk.mem]]
  have eu2 : ∀ B, run_f_law_upward [.d (eL oN ((List.range v.length).map (par v))), .d (nL (marks v l))] B = .ok (.d (nL (marks v l))) B := fun B => by
    obtain ⟨m, g1, g2, g3⟩ := r_upward v hv (marks v l) gb.lt B
    rw [g3, asc_eq g1 mk.asc fun z => by
      rw [g2]
      exact ⟨fun ⟨c, hc, r⟩ => gb.cl c hc z r, fun hz => ⟨z, hz, Rec.self (gb.lt z hz)⟩⟩]
  generalize marks v l = b at *
  have hbl := good_len gb
  have ec2 : ∀ B, run_cut [.d (iL v), .d (nL b)] B = .ok (.d (iL (joinL v b))) B := fun B => by
    rw [r_cut v hv b gb.lt (by omega) B, marks_good gb]
  have eb2 : ∀ B, run_boundaries [.d (iL v), .d (nL b)] B = .ok (.d (nL b)) B := fun B => by
    rw [r_boundaries v hv b gb.lt (by omega) B, marks_good gb]
  have erb : ∀ B, run_read_back [.d (iL v), .d (iL (joinL v b))] B = .ok (.d (.tuple [.str "cut", nL b])) B := r_read_back v hv b gb
  have hll : (least v b).length ≤ b.length := by
    rw [← least_zip, List.length_map]
    have := List.length_filter_le (fun p : Nat × Nat => decide (v.getD p.2 0 < v.getD p.1 0)) (b.zip (b.drop 1))
    rw [List.length_zip] at this
    omega
  have ec3 : ∀ B, run_cut [.d (iL v), .d (nL (least v b))] B = .ok (.d (iL (joinL v b))) B := fun B => by
    have hlt : ∀ p ∈ least v b, p < v.length := fun p hp => gb.lt p (least_sub v b p hp)
    rw [r_cut v hv (least v b) hlt (by omega) B, least_marks gb (marks_ok v (least v b) hlt)]
  have e0 : pAdd (.list [.int 0]) (nL l) = some (nL (0 :: l)) := by
    have := pAdd_eL nI [0] l (by unfold LN; simp; omega)
    exact this
  have n1 := pNe_self (sh_nL b)
  have n2 := pNe_self (sh_iL (joinL v b))
  have n3 := pNe_self (sh_cutn b)
  -- the dict
  let ρ : Option W → Option W → Option W → En := fun m6 m9 m10 => [some (.box n), some (.d (iL v)), some (.d (eL oN ((List.range v.length).map (par v)))), some (.box B.length), m4, some (.d (nL l)), m6, some (.d (nL b)), some (.d (iL (joinL v b))), m9, m10]
  have hdg := sB_get B n a' k' t (.dT kvs)
  have dt : dTof (sB B n a' k' t (.dT kvs)) (.box B.length) = some kvs := by unfold dTof; simp [hdg]
  have tk : tkeyOf (.d (.tuple ((joinL v b).map .int))) = some (keyOf (joinL v b)) := keysOf_ints (joinL v b)
  have hget : (valW kvs (keyOf (joinL v b))).getD (.d (nL b)) = .d (nL b) := by
    cases q : valW kvs (keyOf (joinL v b)) with
    | none => rfl
    | some w => rw [seen_val hv hS gb q]; rfl
  obtain ⟨x9, x10, hloop⟩ := loop_seen v hv b gb kvs hS (sB B n a' k' t (.lkT kvs)) B.length (sB_get ..) (some (.box n)) (some (.d (eL oN ((List.range v.length).map (par v))))) m4 (some (.d (nL l))) m6 kvs m9 m10 (fun p hp => hp)
  have hfk : forKS 3 (tgName 9) lb_f_law_right_1 (ρ m6 m9 m10) (sB B n a' k' t (.dT kvs)) = .ok (.nx, ρ m6 x9 x10) (sB B n a' k' t (.dT kvs)) := fk_ok (d := B.length) (kvs := kvs) rfl hdg (by rw [sB_set]; exact hloop)
  have hkl' : kvs.length < 1000000 := by omega
  refine ⟨some (.d (nL l)), m6, some (.d (nL b)), some (.d (iL (joinL v b))), x9, x10, putW kvs (keyOf (joinL v b)) (.d (nL b)), a', k', h1, h2, h3, seen_put hS gb, put_len, ?_⟩
  simp only [lb_f_law_right_2]
  rw [seqS_eq, asgF_eq, h6]
  simp [ebd, ect, e0, eu1, eu2, n1, ec2, eb2, n2, erb, n3, elp, ec3, LN]
  simp [dt, tk, hget, n1]
  have hfk' := hfk
  simp only [ρ] at hfk'
  rw [hfk']
  simp [tk, hdg, LN, hkl', sB_set]
theorem loop_right (v : List Int) (hv : v.length ≤ 60) (h0 : 0 < v.length) (B : Bs) (n : Nat) (hn : n < B.length) (t : Bool) : ∀ (is : List W) (a k : Int) (kvs : List (List Key × W)) (m4 m5 m6 m7 m8 m9 m10 : Option W), 0 ≤ a → 0 ≤ k → k + 60 * is.length ≤ 90000 → Seen v kvs → kvs.length + is.length ≤ 100 →
    ∃ (x4 x5 x6 x7 x8 x9 x10 : Option W) (kvs' : List (List Key × W)) (a' k' : Int), 0 ≤ a' ∧ k ≤ k' ∧ k' ≤ k + 60 * is.length ∧
    forGo (tgName 4) lb_f_law_right_2 is [some (.box n), some (.d (iL v)), some (.d (eL oN ((List.range v.length).map (par v)))), some (.box B.length), m4, m5, m6, m7, m8, m9, m10] (sB B n a k t (.dT kvs)) = .ok (.nx, [some (.box n), some (.d (iL v)), some (.d (eL oN ((List.range v.length).map (par v)))), some (.box B.length), x4, x5, x6, x7, x8, x9, x10]) (sB B n a' k' t (.dT kvs'))
  | [], a, k, kvs, m4, m5, m6, m7, m8, m9, m10, ha, hk, hk2, hS, hl => ⟨m4, m5, m6, m7, m8, m9, m10, kvs, a, k, ha, Int.le_refl _, by simp, rfl⟩
  | w :: is, a, k, kvs, m4, m5, m6, m7, m8, m9, m10, ha, hk, hk2, hS, hl => by
    rw [List.length_cons] at hk2 hl
    obtain ⟨x5, x6, x7, x8, x9, x10, kvs1, a1, k1, g1, g2, g3, g4, g5, g6⟩ := b_right2 v hv h0 B n hn t a k ha hk (by omega) kvs hS (by omega) (some w) m5 m6 m7 m8 m9 m10
    obtain ⟨y4, y5, y6, y7, y8, y9, y10, kvs2, a2, k2, f1, f2, f3, f4⟩ := loop_right v hv h0 B n hn t is a1 k1 kvs1 (some w) x5 x6 x7 x8 x9 x10 g1 (by omega) (by omega) g4 (by omega)
    refine ⟨y4, y5, y6, y7, y8, y9, y10, kvs2, a2, k2, f1, by omega, by rw [List.length_cons]; omega, ?_⟩
    rw [forGo_cons]
    simp only [tgName_eq, List.set_cons_succ, List.set_cons_zero, g6, Out.bind_ok]
    exact f4
theorem good_nil : Good [] [] := ⟨List.Pairwise.nil, (fun _ h => nomatch h), (fun _ h => nomatch h), fun h => absurd h (by simp)⟩
theorem marks_nil : marks [] [] = [] := marks_good good_nil
theorem join_nil : joinL [] [] = [] := by unfold joinL sparts; rw [show pr [] [] = [] from rfl]; simp
theorem gc_sB (B : Bs) (n : Nat) (a k a' k' : Int) (t t' : Bool) (x : Bx) (d : PyData) : gc (dB B n a k t) (.d d) (sB B n a' k' t' x) = .ok (.d d) (dB B n a' k' t') := by
  have h := gc_set (dB B n a k t) d [some x] n (.lst (dw a' k' t')) rfl
  rw [dB_set] at h
  exact h
theorem r_right (B : Bs) (n : Nat) (hn : n < B.length) (a k : Int) (t : Bool) (ha : 0 ≤ a) (hk : 0 ≤ k) (hk2 : k ≤ 10000) :
    ∃ (a' k' : Int), 0 ≤ a' ∧ k ≤ k' ∧ k' ≤ k + 1000 ∧ run_f_law_right [.box n] (dB B n a k t) = .ok (.d (.bool true)) (dB B n a' k' t) := by
  obtain ⟨v, a1, k1, g1, g2, g3, g4, g5⟩ := r_list B n hn a k t ha hk (by omega)
  cases v with
  | nil =>
    refine ⟨a1, k1, g1, g2, by omega, ?_⟩
    have l0 : (PyData.list [] : PyData) = iL [] := rfl
    have l1 : (PyData.list [] : PyData) = nL [] := rfl
    have e1 : pEq (eL PyData.int []) (.list []) = some (.bool true) := pEq_self (sh_iL [])
    have ec : ∀ B, run_cut [.d (.list []), .d (.list [])] B = .ok (.d (.list [])) B := fun B => by
      have := r_cut [] (by simp) [] (by simp) (by simp) B
      rw [marks_nil, join_nil] at this
      exact this
    have eb : ∀ B, run_boundaries [.d (.list []), .d (.list [])] B = .ok (.d (.list [])) B := fun B => by
      have := r_boundaries [] (by simp) [] (by simp) (by simp) B
      rw [marks_nil] at this
      exact this
    have er : ∀ B, run_read_back [.d (.list []), .d (.list [])] B = .ok (.d (.tuple [.str "cut", .list []])) B := fun B => by
      have := r_read_back [] (by simp) [] good_nil B
      rw [join_nil] at this
      exact this
    have hs : Sh 3 (.list [.list [], .list [], .tuple [.str "cut", .list []]]) := sh_list fun d hd => by
      simp only [List.mem_cons, List.not_mem_nil, or_false] at hd
      rcases hd with rfl | rfl | rfl
      · exact (sh_iL []).mono (by omega)
      · exact (sh_iL []).mono (by omega)
      · exact sh_cutn []
    have e2 := pEq_self hs
    simp only [run_f_law_right, den_f_law_right, fnF_eq]
    simp [g5, e1, LN, ec, eb, er, e2]
    exact gc_dB ..
  | cons z v =>
    have hv : (z :: v).length ≤ 60 := by omega
    have hne : pEq (eL PyData.int (z :: v)) (.list []) = some (.bool false) := by
      have := pEq_of (enc := iL) (inj_eL inj_int) sh_iL (z :: v) []
      rw [decide_eq_false (by simp)] at this
      exact this
    have h0 : 0 < (z :: v).length := by simp
    generalize z :: v = u at *
    have hir : (irng 0 6).length = 6 := rfl
    obtain ⟨x4, x5, x6, x7, x8, x9, x10, kvs', a2, k2, f1, f2, f3, f4⟩ := loop_right u hv h0 B n hn t (irng 0 6) a1 k1 [] none none none none none none none g1 (by omega) (by rw [hir]; omega) (fun p h => nomatch h) (by rw [hir]; simp)
    rw [hir] at f3
    have ep := r_parents u hv
    have e0 : dB B n a1 k1 t ++ [some (Bx.dT [])] = sB B n a1 k1 t (.dT []) := rfl
    have cr : cRng 6 = true := cRng_nat 6 (by omega)
    refine ⟨a2, k2, f1, by omega, by omega, ?_⟩
    simp only [run_f_law_right, den_f_law_right, fnF_eq]
    simp [g5, hne, ep, dictTF, e0, cr]
    rw [f4]
    simp
    exact gc_sB ..
end K45

namespace K45
open PySem PySem.Spec PyProof.Rows L2 Mini
theorem tview_scr (B : Bs) (ns : List Int) : tview B (.scr ns) = some (iL ns) := rfl
theorem loop_turn (n : Nat) (B : Bs) (hn : n < B.length) (t : Bool) (m0 m1 : Option W) : ∀ (is : List W) (a k : Int) (m3 : Option W), 0 ≤ a → 0 ≤ k → k + 1000 * is.length ≤ 10000 →
    ∃ (m3' : Option W) (a' k' : Int), forGo (tgName 3) lb_law_1 is [m0, m1, some (.box n), m3] (dB B n a k t) = .ok (.nx, [m0, m1, some (.box n), m3']) (dB B n a' k' t)
  | [], a, k, m3, _, _, _ => ⟨m3, a, k, rfl⟩
  | w :: is, a, k, m3, ha, hk, hk2 => by
    rw [List.length_cons] at hk2
    obtain ⟨a1, k1, g1, g2, g3, g4⟩ := r_right B n hn a k t ha hk (by omega)
    obtain ⟨x, a2, k2, f⟩ := loop_turn n B hn t m0 m1 is a1 k1 (some w) g1 (by omega) (by omega)
    refine ⟨x, a2, k2, ?_⟩
    have b : lb_law_1 [m0, m1, some (.box n), some w] (dB B n a k t) = .ok (.nx, [m0, m1, some (.box n), some w]) (dB B n a1 k1 t) := by
      simp [lb_law_1, g4]
    rw [forGo_cons]
    simp only [tgName_eq, List.set_cons_succ, List.set_cons_zero, b, Out.bind_ok]
    exact f
theorem loop_cells (m0 : Option W) : ∀ (cs : List Int) (B : Bs) (m1 m2 m3 : Option W), ∃ (x1 x2 x3 : Option W) (C : Bs), forGo (tgName 1) lb_law_2 (cs.map fun c => W.d (.int c)) [m0, m1, m2, m3] B = .ok (.nx, [m0, x1, x2, x3]) (B ++ C)
  | [], B, m1, m2, m3 => ⟨m1, m2, m3, [], by rw [List.append_nil]; rfl⟩
  | c :: cs, B, m1, m2, m3 => by
    obtain ⟨a, t, ha, hd⟩ := r_draws c B
    have e1 : B ++ [some (Bx.lst (dw a 0 t))] = dB (B ++ [none]) B.length a 0 t := by unfold dB; simp
    have hir : (irng 0 2).length = 2 := rfl
    obtain ⟨x3, a1, k1, h1⟩ := loop_turn B.length (B ++ [none]) (by simp) t m0 (some (.d (.int c))) (irng 0 2) a 0 m3 ha (by omega) (by rw [hir]; omega)
    have e2 : dB (B ++ [none]) B.length a1 k1 t = B ++ [some (Bx.lst (dw a1 k1 t))] := by unfold dB; simp
    rw [e2] at h1
    obtain ⟨y1, y2, y3, C, h2⟩ := loop_cells m0 cs (B ++ [some (Bx.lst (dw a1 k1 t))]) (some (.d (.int c))) (some (.box B.length)) x3
    have cr : cRng 2 = true := cRng_nat 2 (by omega)
    have b : lb_law_2 [m0, some (.d (.int c)), m2, m3] B = .ok (.nx, [m0, some (.d (.int c)), some (.box B.length), x3]) (B ++ [some (Bx.lst (dw a1 k1 t))]) := by
      simp [lb_law_2, hd, cr]
      rw [e1]
      exact h1
    refine ⟨y1, y2, y3, some (Bx.lst (dw a1 k1 t)) :: C, ?_⟩
    rw [List.map_cons, forGo_cons]
    simp only [tgName_eq, List.set_cons_succ, List.set_cons_zero, b, Out.bind_ok]
    rw [h2]; simp
theorem r_law (ns : List Int) (h : ns.length ≤ 63) : run_law [.scr ns] [] = .ok (.d (.bool true)) [] := by
  have e1 : pAdd (eL PyData.int (cutG ns none (some 6))) (.list [.int 0]) = some (iL (cutG ns none (some 6) ++ [0])) := pAdd_lit _ [0] _ rfl (by
    rw [show cutG ns none (some (6 : Int)) = ns.take 6 from cutG_to ns 6, List.length_take]; unfold LN; simp; omega)
  obtain ⟨x1, x2, x3, C, hl⟩ := loop_cells (some (.scr ns)) (cutG ns none (some 6) ++ [0]) [] none none none
  simp only [run_law, den_law, fnF_eq]
  simp [tview_scr, e1, LN]
  simp at hl
  simp [hl]
  have := gc_data [] (.bool true) C
  rw [List.nil_append] at this
  exact this
end K45

namespace K45
open PySem PySem.Spec PyProof.Rows L2 Mini
theorem all_mk {l : PySem.W.OpenLaw} {w : World} {K : PySem.W.Frag} {h : Heap} {mg : Str → Option Value} {fa f1 f2 f3 f4 f5 f6 f7 f8 f9 f10 f11 f12 f13 f14 f15 f16 f17 f18 f19 f20 f21 f22 f23 f24 f25 : Addr} (X : K.In h) (G : h.Ns mainGlobals mg) (hfa : mg "law" = some (.ref fa))
    {od1 an1 od2 an2 od3 an3 od4 an4 od5 an5 od6 an6 od7 an7 od8 an8 od9 an9 od10 an10 od11 an11 od12 an12 od13 an13 od14 an14 od15 an15 od16 an16 od17 an17 od18 an18 od19 an19 od20 an20 od21 an21 od22 an22 od23 an23 od24 an24 od25 an25 : Option Addr} {sl1 sl2 sl3 sl4 sl5 sl6 sl7 sl8 sl9 sl10 sl11 sl12 sl13 sl14 sl15 sl16 sl17 sl18 sl19 sl20 sl21 sl22 sl23 sl24 sl25 : Array (Option Value)} {oc1 kV1 dc1 pm1 cd1 ct1 oc2 kV2 dc2 pm2 cd2 ct2 oc3 kV3 dc3 pm3 cd3 ct3 oc4 kV4 dc4 pm4 cd4 ct4 oc5 kV5 dc5 pm5 cd5 ct5 oc6 kV6 dc6 pm6 cd6 ct6 oc7 kV7 dc7 pm7 cd7 ct7 oc8 kV8 dc8 pm8 cd8 ct8 oc9 kV9 dc9 pm9 cd9 ct9 oc10 kV10 dc10 pm10 cd10 ct10 oc11 kV11 dc11 pm11 cd11 ct11 oc12 kV12 dc12 pm12 cd12 ct12 oc13 kV13 dc13 pm13 cd13 ct13 oc14 kV14 dc14 pm14 cd14 ct14 oc15 kV15 dc15 pm15 cd15 ct15 oc16 kV16 dc16 pm16 cd16 ct16 oc17 kV17 dc17 pm17 cd17 ct17 oc18 kV18 dc18 pm18 cd18 ct18 oc19 kV19 dc19 pm19 cd19 ct19 oc20 kV20 dc20 pm20 cd20 ct20 oc21 kV21 dc21 pm21 cd21 ct21 oc22 kV22 dc22 pm22 cd22 ct22 oc23 kV23 dc23 pm23 cd23 ct23 oc24 kV24 dc24 pm24 cd24 ct24 oc25 kV25 dc25 pm25 cd25 ct25 : Value}
    (a1 : PySem.W.nsIn K mainGlobals "is_whole" = some (some (.ref f1))) (l1 : K.lookup f1 = some ⟨oc1, od1, .func (PySem.W.fnOf "is_whole" "is_whole" (defArgs s_is_whole) (defBody s_is_whole) (defScope s_is_whole) .none kV1 dc1 pm1 an1 cd1 ct1), sl1⟩) (c1 : PySem.W.codeIn K cd1 "is_whole" = true) (k1 : PySem.W.keepIn K (.ref f1) = true)
    (a2 : PySem.W.nsIn K mainGlobals "check_list" = some (some (.ref f2))) (l2 : K.lookup f2 = some ⟨oc2, od2, .func (PySem.W.fnOf "check_list" "check_list" (defArgs s_check_list) (defBody s_check_list) (defScope s_check_list) .none kV2 dc2 pm2 an2 cd2 ct2), sl2⟩) (c2 : PySem.W.codeIn K cd2 "check_list" = true) (k2 : PySem.W.keepIn K (.ref f2) = true)
    (a3 : PySem.W.nsIn K mainGlobals "units_of" = some (some (.ref f3))) (l3 : K.lookup f3 = some ⟨oc3, od3, .func (PySem.W.fnOf "units_of" "units_of" (defArgs s_units_of) (defBody s_units_of) (defScope s_units_of) .none kV3 dc3 pm3 an3 cd3 ct3), sl3⟩) (c3 : PySem.W.codeIn K cd3 "units_of" = true) (k3 : PySem.W.keepIn K (.ref f3) = true)
    (a4 : PySem.W.nsIn K mainGlobals "check_places" = some (some (.ref f4))) (l4 : K.lookup f4 = some ⟨oc4, od4, .func (PySem.W.fnOf "check_places" "check_places" (defArgs s_check_places) (defBody s_check_places) (defScope s_check_places) .none kV4 dc4 pm4 an4 cd4 ct4), sl4⟩) (c4 : PySem.W.codeIn K cd4 "check_places" = true) (k4 : PySem.W.keepIn K (.ref f4) = true)
    (a5 : PySem.W.nsIn K mainGlobals "check_cut" = some (some (.ref f5))) (l5 : K.lookup f5 = some ⟨oc5, od5, .func (PySem.W.fnOf "check_cut" "check_cut" (defArgs s_check_cut) (defBody s_check_cut) (defScope s_check_cut) .none kV5 dc5 pm5 an5 cd5 ct5), sl5⟩) (c5 : PySem.W.codeIn K cd5 "check_cut" = true) (k5 : PySem.W.keepIn K (.ref f5) = true)
    (a6 : PySem.W.nsIn K mainGlobals "marked" = some (some (.ref f6))) (l6 : K.lookup f6 = some ⟨oc6, od6, .func (PySem.W.fnOf "marked" "marked" (defArgs s_marked) (defBody s_marked) (defScope s_marked) .none kV6 dc6 pm6 an6 cd6 ct6), sl6⟩) (c6 : PySem.W.codeIn K cd6 "marked" = true) (k6 : PySem.W.keepIn K (.ref f6) = true)
    (a7 : PySem.W.nsIn K mainGlobals "joined" = some (some (.ref f7))) (l7 : K.lookup f7 = some ⟨oc7, od7, .func (PySem.W.fnOf "joined" "joined" (defArgs s_joined) (defBody s_joined) (defScope s_joined) .none kV7 dc7 pm7 an7 cd7 ct7), sl7⟩) (c7 : PySem.W.codeIn K cd7 "joined" = true) (k7 : PySem.W.keepIn K (.ref f7) = true)
    (a8 : PySem.W.nsIn K mainGlobals "cut" = some (some (.ref f8))) (l8 : K.lookup f8 = some ⟨oc8, od8, .func (PySem.W.fnOf "cut" "cut" (defArgs s_cut) (defBody s_cut) (defScope s_cut) .none kV8 dc8 pm8 an8 cd8 ct8), sl8⟩) (c8 : PySem.W.codeIn K cd8 "cut" = true) (k8 : PySem.W.keepIn K (.ref f8) = true)
    (a9 : PySem.W.nsIn K mainGlobals "boundaries" = some (some (.ref f9))) (l9 : K.lookup f9 = some ⟨oc9, od9, .func (PySem.W.fnOf "boundaries" "boundaries" (defArgs s_boundaries) (defBody s_boundaries) (defScope s_boundaries) .none kV9 dc9 pm9 an9 cd9 ct9), sl9⟩) (c9 : PySem.W.codeIn K cd9 "boundaries" = true) (k9 : PySem.W.keepIn K (.ref f9) = true)
    (a10 : PySem.W.nsIn K mainGlobals "parent_of" = some (some (.ref f10))) (l10 : K.lookup f10 = some ⟨oc10, od10, .func (PySem.W.fnOf "parent_of" "parent_of" (defArgs s_parent_of) (defBody s_parent_of) (defScope s_parent_of) .none kV10 dc10 pm10 an10 cd10 ct10), sl10⟩) (c10 : PySem.W.codeIn K cd10 "parent_of" = true) (k10 : PySem.W.keepIn K (.ref f10) = true)
    (a11 : PySem.W.nsIn K mainGlobals "parents_of" = some (some (.ref f11))) (l11 : K.lookup f11 = some ⟨oc11, od11, .func (PySem.W.fnOf "parents_of" "parents_of" (defArgs s_parents_of) (defBody s_parents_of) (defScope s_parents_of) .none kV11 dc11 pm11 an11 cd11 ct11), sl11⟩) (c11 : PySem.W.codeIn K cd11 "parents_of" = true) (k11 : PySem.W.keepIn K (.ref f11) = true)
    (a12 : PySem.W.nsIn K mainGlobals "parents" = some (some (.ref f12))) (l12 : K.lookup f12 = some ⟨oc12, od12, .func (PySem.W.fnOf "parents" "parents" (defArgs s_parents) (defBody s_parents) (defScope s_parents) .none kV12 dc12 pm12 an12 cd12 ct12), sl12⟩) (c12 : PySem.W.codeIn K cd12 "parents" = true) (k12 : PySem.W.keepIn K (.ref f12) = true)
    (a13 : PySem.W.nsIn K mainGlobals "least_of" = some (some (.ref f13))) (l13 : K.lookup f13 = some ⟨oc13, od13, .func (PySem.W.fnOf "least_of" "least_of" (defArgs s_least_of) (defBody s_least_of) (defScope s_least_of) .none kV13 dc13 pm13 an13 cd13 ct13), sl13⟩) (c13 : PySem.W.codeIn K cd13 "least_of" = true) (k13 : PySem.W.keepIn K (.ref f13) = true)
    (a14 : PySem.W.nsIn K mainGlobals "least_places" = some (some (.ref f14))) (l14 : K.lookup f14 = some ⟨oc14, od14, .func (PySem.W.fnOf "least_places" "least_places" (defArgs s_least_places) (defBody s_least_places) (defScope s_least_places) .none kV14 dc14 pm14 an14 cd14 ct14), sl14⟩) (c14 : PySem.W.codeIn K cd14 "least_places" = true) (k14 : PySem.W.keepIn K (.ref f14) = true)
    (a15 : PySem.W.nsIn K mainGlobals "found_back" = some (some (.ref f15))) (l15 : K.lookup f15 = some ⟨oc15, od15, .func (PySem.W.fnOf "found_back" "found_back" (defArgs s_found_back) (defBody s_found_back) (defScope s_found_back) .none kV15 dc15 pm15 an15 cd15 ct15), sl15⟩) (c15 : PySem.W.codeIn K cd15 "found_back" = true) (k15 : PySem.W.keepIn K (.ref f15) = true)
    (a16 : PySem.W.nsIn K mainGlobals "read_back" = some (some (.ref f16))) (l16 : K.lookup f16 = some ⟨oc16, od16, .func (PySem.W.fnOf "read_back" "read_back" (defArgs s_read_back) (defBody s_read_back) (defScope s_read_back) .none kV16 dc16 pm16 an16 cd16 ct16), sl16⟩) (c16 : PySem.W.codeIn K cd16 "read_back" = true) (k16 : PySem.W.keepIn K (.ref f16) = true)
    (a17 : PySem.W.nsIn K mainGlobals "bounds_of" = some (some (.ref f17))) (l17 : K.lookup f17 = some ⟨oc17, od17, .func (PySem.W.fnOf "bounds_of" "bounds_of" (defArgs s_bounds_of) (defBody s_bounds_of) (defScope s_bounds_of) .none kV17 dc17 pm17 an17 cd17 ct17), sl17⟩) (c17 : PySem.W.codeIn K cd17 "bounds_of" = true) (k17 : PySem.W.keepIn K (.ref f17) = true)
    (a18 : PySem.W.nsIn K mainGlobals "both" = some (some (.ref f18))) (l18 : K.lookup f18 = some ⟨oc18, od18, .func (PySem.W.fnOf "both" "both" (defArgs s_both) (defBody s_both) (defScope s_both) .none kV18 dc18 pm18 an18 cd18 ct18), sl18⟩) (c18 : PySem.W.codeIn K cd18 "both" = true) (k18 : PySem.W.keepIn K (.ref f18) = true)
    (a19 : PySem.W.nsIn K mainGlobals "either" = some (some (.ref f19))) (l19 : K.lookup f19 = some ⟨oc19, od19, .func (PySem.W.fnOf "either" "either" (defArgs s_either) (defBody s_either) (defScope s_either) .none kV19 dc19 pm19 an19 cd19 ct19), sl19⟩) (c19 : PySem.W.codeIn K cd19 "either" = true) (k19 : PySem.W.keepIn K (.ref f19) = true)
    (a20 : PySem.W.nsIn K mainGlobals "_law_draws" = some (some (.ref f20))) (l20 : K.lookup f20 = some ⟨oc20, od20, .func (PySem.W.fnOf "_law_draws" "_law_draws" (defArgs s_f_law_draws) (defBody s_f_law_draws) (defScope s_f_law_draws) .none kV20 dc20 pm20 an20 cd20 ct20), sl20⟩) (c20 : PySem.W.codeIn K cd20 "_law_draws" = true) (k20 : PySem.W.keepIn K (.ref f20) = true)
    (a21 : PySem.W.nsIn K mainGlobals "_law_next" = some (some (.ref f21))) (l21 : K.lookup f21 = some ⟨oc21, od21, .func (PySem.W.fnOf "_law_next" "_law_next" (defArgs s_f_law_next) (defBody s_f_law_next) (defScope s_f_law_next) .none kV21 dc21 pm21 an21 cd21 ct21), sl21⟩) (c21 : PySem.W.codeIn K cd21 "_law_next" = true) (k21 : PySem.W.keepIn K (.ref f21) = true)
    (a22 : PySem.W.nsIn K mainGlobals "_law_list" = some (some (.ref f22))) (l22 : K.lookup f22 = some ⟨oc22, od22, .func (PySem.W.fnOf "_law_list" "_law_list" (defArgs s_f_law_list) (defBody s_f_law_list) (defScope s_f_law_list) .none kV22 dc22 pm22 an22 cd22 ct22), sl22⟩) (c22 : PySem.W.codeIn K cd22 "_law_list" = true) (k22 : PySem.W.keepIn K (.ref f22) = true)
    (a23 : PySem.W.nsIn K mainGlobals "_law_upward" = some (some (.ref f23))) (l23 : K.lookup f23 = some ⟨oc23, od23, .func (PySem.W.fnOf "_law_upward" "_law_upward" (defArgs s_f_law_upward) (defBody s_f_law_upward) (defScope s_f_law_upward) .none kV23 dc23 pm23 an23 cd23 ct23), sl23⟩) (c23 : PySem.W.codeIn K cd23 "_law_upward" = true) (k23 : PySem.W.keepIn K (.ref f23) = true)
    (a24 : PySem.W.nsIn K mainGlobals "_law_right" = some (some (.ref f24))) (l24 : K.lookup f24 = some ⟨oc24, od24, .func (PySem.W.fnOf "_law_right" "_law_right" (defArgs s_f_law_right) (defBody s_f_law_right) (defScope s_f_law_right) .none kV24 dc24 pm24 an24 cd24 ct24), sl24⟩) (c24 : PySem.W.codeIn K cd24 "_law_right" = true) (k24 : PySem.W.keepIn K (.ref f24) = true)
    (a25 : PySem.W.nsIn K mainGlobals "law" = some (some (.ref f25))) (l25 : K.lookup f25 = some ⟨oc25, od25, .func (PySem.W.fnOf "law" "law" (defArgs s_law) (defBody s_law) (defScope s_law) .none kV25 dc25 pm25 an25 cd25 ct25), sl25⟩) (c25 : PySem.W.codeIn K cd25 "law" = true) (k25 : PySem.W.keepIn K (.ref f25) = true)
    (z_bool : PySem.W.nsIn K mainGlobals "bool" = some none)
    (z_enumerate : PySem.W.nsIn K mainGlobals "enumerate" = some none)
    (z_int : PySem.W.nsIn K mainGlobals "int" = some none)
    (z_isinstance : PySem.W.nsIn K mainGlobals "isinstance" = some none)
    (z_len : PySem.W.nsIn K mainGlobals "len" = some none)
    (z_list : PySem.W.nsIn K mainGlobals "list" = some none)
    (z_range : PySem.W.nsIn K mainGlobals "range" = some none)
    (z_set : PySem.W.nsIn K mainGlobals "set" = some none)
    (z_sorted : PySem.W.nsIn K mainGlobals "sorted" = some none)
    (z_tuple : PySem.W.nsIn K mainGlobals "tuple" = some none)
    (z_zip : PySem.W.nsIn K mainGlobals "zip" = some none) :
    ∃ fd : FuncData, (∀ (s : Shared) (v : Value), BindsTo s fd ⟨[v], []⟩ [("_law_script", v)]) ∧ ∀ base : Heap, K.In base → base.Ns mainGlobals mg → FnOk l.prog w K mg base CX0 6 fa fd ["_law_script"] (spM K 1 run_law) := by
  have e := hfa.symm.trans (PySem.W.mg_of X G a25)
  cases e
  have y_bool := PySem.W.mg_none_of X G z_bool
  have y_enumerate := PySem.W.mg_none_of X G z_enumerate
  have y_int := PySem.W.mg_none_of X G z_int
  have y_isinstance := PySem.W.mg_none_of X G z_isinstance
  have y_len := PySem.W.mg_none_of X G z_len
  have y_list := PySem.W.mg_none_of X G z_list
  have y_range := PySem.W.mg_none_of X G z_range
  have y_set := PySem.W.mg_none_of X G z_set
  have y_sorted := PySem.W.mg_none_of X G z_sorted
  have y_tuple := PySem.W.mg_none_of X G z_tuple
  have y_zip := PySem.W.mg_none_of X G z_zip
  refine ⟨PySem.W.fnOf "law" "law" (defArgs s_law) (defBody s_law) (defScope s_law) .none kV25 dc25 pm25 an25 cd25 ct25, fun s v => .of_eq rfl, fun base _ _ => ?_⟩
  have F1 := fun_mk (st := s_is_whole) l1 c1 k1
  have b1 := F1.binds (ps := P_is_whole) fun _ _ _ _ _ _ us hl => match us, hl with | [_], _ => rfl
  have M_is_whole := m_is_whole (P := l.prog) (w := w) (base := base) F1 (PySem.W.mg_of X G a1) b1 y_bool y_int y_isinstance
  have F2 := fun_mk (st := s_check_list) l2 c2 k2
  have b2 := F2.binds (ps := P_check_list) fun _ _ _ _ _ _ us hl => match us, hl with | [_], _ => rfl
  have M_check_list := m_check_list (P := l.prog) (w := w) (base := base) F2 (PySem.W.mg_of X G a2) b2 y_enumerate y_isinstance y_list M_is_whole
  have F3 := fun_mk (st := s_units_of) l3 c3 k3
  have b3 := F3.binds (ps := P_units_of) fun _ _ _ _ _ _ us hl => match us, hl with | [_], _ => rfl
  have M_units_of := m_units_of (P := l.prog) (w := w) (base := base) F3 (PySem.W.mg_of X G a3) b3 
  have M_units_ofB := m_units_ofB (P := l.prog) (w := w) (base := base) F3 (PySem.W.mg_of X G a3) b3 
  have F4 := fun_mk (st := s_check_places) l4 c4 k4
  have b4 := F4.binds (ps := P_check_places) fun _ _ _ _ _ _ us hl => match us, hl with | [_, _], _ => rfl
  have M_check_places := m_check_places (P := l.prog) (w := w) (base := base) F4 (PySem.W.mg_of X G a4) b4 y_isinstance y_len y_list M_is_whole
  have F5 := fun_mk (st := s_check_cut) l5 c5 k5
  have b5 := F5.binds (ps := P_check_cut) fun _ _ _ _ _ _ us hl => match us, hl with | [_, _], _ => rfl
  have M_check_cut := m_check_cut (P := l.prog) (w := w) (base := base) F5 (PySem.W.mg_of X G a5) b5 M_check_list M_check_places
  have F6 := fun_mk (st := s_marked) l6 c6 k6
  have b6 := F6.binds (ps := P_marked) fun _ _ _ _ _ _ us hl => match us, hl with | [_, _], _ => rfl
  have M_marked := m_marked (P := l.prog) (w := w) (base := base) F6 (PySem.W.mg_of X G a6) b6 y_len y_set y_sorted M_units_of
  have F7 := fun_mk (st := s_joined) l7 c7 k7
  have b7 := F7.binds (ps := P_joined) fun _ _ _ _ _ _ us hl => match us, hl with | [_, _], _ => rfl
  have M_joined := m_joined (P := l.prog) (w := w) (base := base) F7 (PySem.W.mg_of X G a7) b7 y_len y_sorted y_zip
  have F8 := fun_mk (st := s_cut) l8 c8 k8
  have b8 := F8.binds (ps := P_cut) fun _ _ _ _ _ _ us hl => match us, hl with | [_, _], _ => rfl
  have M_cut := m_cut (P := l.prog) (w := w) (base := base) F8 (PySem.W.mg_of X G a8) b8 M_check_cut M_joined M_marked
  have F9 := fun_mk (st := s_boundaries) l9 c9 k9
  have b9 := F9.binds (ps := P_boundaries) fun _ _ _ _ _ _ us hl => match us, hl with | [_, _], _ => rfl
  have M_boundaries := m_boundaries (P := l.prog) (w := w) (base := base) F9 (PySem.W.mg_of X G a9) b9 M_check_cut M_marked
  have F10 := fun_mk (st := s_parent_of) l10 c10 k10
  have b10 := F10.binds (ps := P_parent_of) fun _ _ _ _ _ _ us hl => match us, hl with | [_, _], _ => rfl
  have M_parent_of := m_parent_of (P := l.prog) (w := w) (base := base) F10 (PySem.W.mg_of X G a10) b10 y_len y_range
  have F11 := fun_mk (st := s_parents_of) l11 c11 k11
  have b11 := F11.binds (ps := P_parents_of) fun _ _ _ _ _ _ us hl => match us, hl with | [_], _ => rfl
  have M_parents_of := m_parents_of (P := l.prog) (w := w) (base := base) F11 (PySem.W.mg_of X G a11) b11 y_len y_range M_parent_of
  have F12 := fun_mk (st := s_parents) l12 c12 k12
  have b12 := F12.binds (ps := P_parents) fun _ _ _ _ _ _ us hl => match us, hl with | [_], _ => rfl
  have M_parents := m_parents (P := l.prog) (w := w) (base := base) F12 (PySem.W.mg_of X G a12) b12 M_check_list M_parents_of
  have F13 := fun_mk (st := s_least_of) l13 c13 k13
  have b13 := F13.binds (ps := P_least_of) fun _ _ _ _ _ _ us hl => match us, hl with | [_, _], _ => rfl
  have M_least_of := m_least_of (P := l.prog) (w := w) (base := base) F13 (PySem.W.mg_of X G a13) b13 y_zip
  have F14 := fun_mk (st := s_least_places) l14 c14 k14
  have b14 := F14.binds (ps := P_least_places) fun _ _ _ _ _ _ us hl => match us, hl with | [_, _], _ => rfl
  have M_least_places := m_least_places (P := l.prog) (w := w) (base := base) F14 (PySem.W.mg_of X G a14) b14 M_check_cut M_least_of M_marked
  have F15 := fun_mk (st := s_found_back) l15 c15 k15
  have b15 := F15.binds (ps := P_found_back) fun _ _ _ _ _ _ us hl => match us, hl with | [_, _], _ => rfl
  have M_found_back := m_found_back (P := l.prog) (w := w) (base := base) F15 (PySem.W.mg_of X G a15) b15 y_len M_units_ofB
  have F16 := fun_mk (st := s_read_back) l16 c16 k16
  have b16 := F16.binds (ps := P_read_back) fun _ _ _ _ _ _ us hl => match us, hl with | [_, _], _ => rfl
  have M_read_back := m_read_back (P := l.prog) (w := w) (base := base) F16 (PySem.W.mg_of X G a16) b16 y_isinstance y_list M_check_list M_found_back
  have F17 := fun_mk (st := s_bounds_of) l17 c17 k17
  have b17 := F17.binds (ps := P_bounds_of) fun _ _ _ _ _ _ us hl => match us, hl with | [_, _], _ => rfl
  have M_bounds_of := m_bounds_of (P := l.prog) (w := w) (base := base) F17 (PySem.W.mg_of X G a17) b17 y_isinstance y_list M_check_list M_found_back
  have F18 := fun_mk (st := s_both) l18 c18 k18
  have b18 := F18.binds (ps := P_both) fun _ _ _ _ _ _ us hl => match us, hl with | [_, _, _], _ => rfl
  have M_both := m_both (P := l.prog) (w := w) (base := base) F18 (PySem.W.mg_of X G a18) b18 M_bounds_of M_check_list M_joined
  have F19 := fun_mk (st := s_either) l19 c19 k19
  have b19 := F19.binds (ps := P_either) fun _ _ _ _ _ _ us hl => match us, hl with | [_, _, _], _ => rfl
  have M_either := m_either (P := l.prog) (w := w) (base := base) F19 (PySem.W.mg_of X G a19) b19 y_set y_sorted M_bounds_of M_check_list M_joined
  have F20 := fun_mk (st := s_f_law_draws) l20 c20 k20
  have b20 := F20.binds (ps := P_f_law_draws) fun _ _ _ _ _ _ us hl => match us, hl with | [_], _ => rfl
  have M_f_law_draws := m_f_law_draws (P := l.prog) (w := w) (base := base) F20 (PySem.W.mg_of X G a20) b20 y_int
  have F21 := fun_mk (st := s_f_law_next) l21 c21 k21
  have b21 := F21.binds (ps := P_f_law_next) fun _ _ _ _ _ _ us hl => match us, hl with | [_], _ => rfl
  have M_f_law_next := m_f_law_next (P := l.prog) (w := w) (base := base) F21 (PySem.W.mg_of X G a21) b21 y_int
  have F22 := fun_mk (st := s_f_law_list) l22 c22 k22
  have b22 := F22.binds (ps := P_f_law_list) fun _ _ _ _ _ _ us hl => match us, hl with | [_, _], _ => rfl
  have M_f_law_list := m_f_law_list (P := l.prog) (w := w) (base := base) F22 (PySem.W.mg_of X G a22) b22 y_int y_range M_f_law_next
  have F23 := fun_mk (st := s_f_law_upward) l23 c23 k23
  have b23 := F23.binds (ps := P_f_law_upward) fun _ _ _ _ _ _ us hl => match us, hl with | [_, _], _ => rfl
  have M_f_law_upward := m_f_law_upward (P := l.prog) (w := w) (base := base) F23 (PySem.W.mg_of X G a23) b23 y_sorted
  have F24 := fun_mk (st := s_f_law_right) l24 c24 k24
  have b24 := F24.binds (ps := P_f_law_right) fun _ _ _ _ _ _ us hl => match us, hl with | [_], _ => rfl
  have M_f_law_right := m_f_law_right (P := l.prog) (w := w) (base := base) F24 (PySem.W.mg_of X G a24) b24 y_int y_len y_list y_range y_set y_sorted y_tuple M_f_law_list M_f_law_next M_f_law_upward M_both M_boundaries M_cut M_either M_least_places M_parents M_read_back
  have F25 := fun_mk (st := s_law) l25 c25 k25
  exact m_law_ok F25 y_range M_f_law_draws M_f_law_right
theorem sp_start {K : PySem.W.Frag} {H : Hp} {a : Addr} {ns : List Int} {run : List W → Bs → Out W} {E : XK} (hS : SqL K H a (ns.map V.int)) (h : run [.scr ns] [] = .ok (.d (.bool true)) []) : spM K 1 run [.ref a] H (fun v _ => v = .bl true) E := by
  refine ⟨rfl, H, [], [], [.scr ns], ⟨FE.refl H, rfl, List.nodup_nil, (fun _ h => nomatch h), fun n a b h => by simp at h⟩, .cons ⟨a, rfl, hS⟩ .nil, ?_⟩
  rw [h]
  exact fun F' loc' H' b _ _ r => dq_bool r
end K45
open PySem PySem.W PyProof.Rows
set_option maxHeartbeats 0 in
theorem PySem.Challenge.cw_mergeunits_k45_whole_results_are_closed_holds : PySem.Challenge.rw_mergeunits_k45_whole_results_are_closed.Holds := by
  w_on; o_law; k_head; (case hw => w_witness2)
  k_fill
  refine L2.walk_of (l := PySem.Challenge.rw_mergeunits_k45_whole_results_are_closed) (n := 63) (k := 6) (x := "_law_script") (CX := fun _ => L2.CX0) (sp := fun w => Mini.spM _ 1 K45.run_law) rfl (by decide) rfl ⟨rfl, by decide, by decide⟩ (fun w h Y => PySem.W.kIn_of Y) ?F (fun _ _ a ns hl _ hS => K45.sp_start hS (K45.r_law ns hl)) (fun _ _ _ _ _ h => h)
  case F =>
    intro w mg fa h KX G hmg
    refine' K45.all_mk KX G hmg ?a1 ?l1 ?c1 ?k1 ?a2 ?l2 ?c2 ?k2 ?a3 ?l3 ?c3 ?k3 ?a4 ?l4 ?c4 ?k4 ?a5 ?l5 ?c5 ?k5 ?a6 ?l6 ?c6 ?k6 ?a7 ?l7 ?c7 ?k7 ?a8 ?l8 ?c8 ?k8 ?a9 ?l9 ?c9 ?k9 ?a10 ?l10 ?c10 ?k10 ?a11 ?l11 ?c11 ?k11 ?a12 ?l12 ?c12 ?k12 ?a13 ?l13 ?c13 ?k13 ?a14 ?l14 ?c14 ?k14 ?a15 ?l15 ?c15 ?k15 ?a16 ?l16 ?c16 ?k16 ?a17 ?l17 ?c17 ?k17 ?a18 ?l18 ?c18 ?k18 ?a19 ?l19 ?c19 ?k19 ?a20 ?l20 ?c20 ?k20 ?a21 ?l21 ?c21 ?k21 ?a22 ?l22 ?c22 ?k22 ?a23 ?l23 ?c23 ?k23 ?a24 ?l24 ?c24 ?k24 ?a25 ?l25 ?c25 ?k25 ?z_bool ?z_enumerate ?z_int ?z_isinstance ?z_len ?z_list ?z_range ?z_set ?z_sorted ?z_tuple ?z_zip
    (case a1 => k_is); (case l1 => k_is); (case c1 => k_is); (case k1 => k_is); (case a2 => k_is); (case l2 => k_is); (case c2 => k_is); (case k2 => k_is); (case a3 => k_is); (case l3 => k_is); (case c3 => k_is); (case k3 => k_is); (case a4 => k_is); (case l4 => k_is); (case c4 => k_is); (case k4 => k_is); (case a5 => k_is); (case l5 => k_is); (case c5 => k_is); (case k5 => k_is); (case a6 => k_is); (case l6 => k_is); (case c6 => k_is); (case k6 => k_is); (case a7 => k_is); (case l7 => k_is); (case c7 => k_is); (case k7 => k_is); (case a8 => k_is); (case l8 => k_is); (case c8 => k_is); (case k8 => k_is); (case a9 => k_is); (case l9 => k_is); (case c9 => k_is); (case k9 => k_is); (case a10 => k_is); (case l10 => k_is); (case c10 => k_is); (case k10 => k_is); (case a11 => k_is); (case l11 => k_is); (case c11 => k_is); (case k11 => k_is); (case a12 => k_is); (case l12 => k_is); (case c12 => k_is); (case k12 => k_is); (case a13 => k_is); (case l13 => k_is); (case c13 => k_is); (case k13 => k_is); (case a14 => k_is); (case l14 => k_is); (case c14 => k_is); (case k14 => k_is); (case a15 => k_is); (case l15 => k_is); (case c15 => k_is); (case k15 => k_is); (case a16 => k_is); (case l16 => k_is); (case c16 => k_is); (case k16 => k_is); (case a17 => k_is); (case l17 => k_is); (case c17 => k_is); (case k17 => k_is); (case a18 => k_is); (case l18 => k_is); (case c18 => k_is); (case k18 => k_is); (case a19 => k_is); (case l19 => k_is); (case c19 => k_is); (case k19 => k_is); (case a20 => k_is); (case l20 => k_is); (case c20 => k_is); (case k20 => k_is); (case a21 => k_is); (case l21 => k_is); (case c21 => k_is); (case k21 => k_is); (case a22 => k_is); (case l22 => k_is); (case c22 => k_is); (case k22 => k_is); (case a23 => k_is); (case l23 => k_is); (case c23 => k_is); (case k23 => k_is); (case a24 => k_is); (case l24 => k_is); (case c24 => k_is); (case k24 => k_is); (case a25 => k_is); (case l25 => k_is); (case c25 => k_is); (case k25 => k_is); (case z_bool => k_is); (case z_enumerate => k_is); (case z_int => k_is); (case z_isinstance => k_is); (case z_len => k_is); (case z_list => k_is); (case z_range => k_is); (case z_set => k_is); (case z_sorted => k_is); (case z_tuple => k_is); (case z_zip => k_is)

